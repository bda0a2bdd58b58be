/- The statement FnTextCardSaid holds of the given program, for every argument; there are no conditions. (Part 3 of 6.) -/
import Derived.Test.YtpdnabhpkdchjaaDoorBFnText2
namespace Go.Proofs.YtpdnabhpkdchjaaDoor.P
open Go.RowKit Go.Proofs.YtpdnabhpkdchjaaDoorW.PrintWords Go.Proofs.YtpdnabhpkdchjaaDoorW.PrintLast Go.Proofs.YtpdnabhpkdchjaaDoorW.PrintMore
set_option linter.unusedVariables false
set_option linter.unusedSimpArgs false
structure EvSt (w0 w W:World) (g gl:Nat) (code:List Int) (n:Int) (A:Option Addr) (len c1:Nat) (c:Int × Int) (v7 v8:Value) (out:List S52) (th:List Int):Prop where
 cur:IsS92 w0 W g code c.1 c.2
 below:Below w0.heap.size w0 W
 keep:KeepBut w W g none
 box:W.heap[gl]?=some (.cells #[.int .i64 n,.slice A len c1] 31 (0,0))
 le0:w0.heap.size≤w.heap.size
 gw:w.heap.size≤gl
 o:Kd.R k52 52 W w.heap.size (fun _=>True) v7 out
 t:Kd.R (Kd.int .i64) 3 W w.heap.size (fun _=>True) v8 th
section
variable {w0 w W W' : World} {g gl len c1 : Nat} {code : List Int} {n : Int} {A : Option Addr} {c c' : Int × Int} {v7 v8 v1 : Value} {out out' : List S52} {th th' : List Int}
theorem EvSt.call (h:EvSt w0 w W g gl code n A len c1 c v7 v8 out th) (hi:IsS92 w0 W' g code c'.1 c'.2) (hb:Below w0.heap.size w0 W') (hk:KeepBut W W' g none):EvSt w0 w W' g gl code n A len c1 c' v7 v8 out th where
 cur:=hi
 below:=hb
 keep:=h.keep.trans hk (.inl rfl)
 box:=hk.blk h.box (fun e=>h.cur.ne_blk h.box (by decide) e.symm) (by simp)
 le0:=h.le0
 gw:=h.gw
 o:=Kd.R_mono (Kd.R_keep (h.cur.apart h.o (by decide)) hk (fun _ x=>x.2)) (fun _ _=>trivial)
 t:=Kd.R_mono (Kd.R_keep (h.cur.apart h.t (by decide)) hk (fun _ x=>x.2)) (fun _ _=>trivial)
theorem EvSt.up (h:EvSt w0 w W g gl code n A len c1 c v7 v8 out th) (hb:Below W.heap.size W W'):EvSt w0 w W' g gl code n A len c1 c v7 v8 out th where
 cur:=h.cur.below hb
 below:=below_step h.below hb
 keep:=h.keep.trans (KeepBut.of_below hb g none) (.inl rfl)
 box:=blk_below h.box hb
 le0:=h.le0
 gw:=h.gw
 o:=Kd.R_below h.o hb
 t:=Kd.R_below h.t hb
theorem EvSt.row (h:EvSt w0 w W g gl code n A len c1 c v7 v8 out th) (hr:Kd.R k52 52 W' w.heap.size (fun _=>True) v1 out') (hg:W.grownBy W' v7.ownBlock):EvSt w0 w W' g gl code n A len c1 c v1 v8 out' th where
 cur:=h.cur.grown hg (h.cur.own_ne h.o (by decide))
 below:=pw_below_grown h.below _ h.below.size hg (fun k hk=>Nat.le_trans h.le0 (Kd.R_base h.o k hk))
 keep:=h.keep.trans (KeepBut.of_grown hg g) (Kd.R_base2 h.o)
 box:=blk_grown h.box hg (Kd.R_ne h.o h.box (by decide))
 le0:=h.le0
 gw:=h.gw
 o:=hr
 t:=Kd.R_over h.t h.o (by decide) hg
theorem EvSt.put (h:EvSt w0 w W g gl code n A len c1 c v7 v8 out th) (hr:Kd.R (Kd.int .i64) 3 W' w.heap.size (fun _=>True) v8 th') (hg:W.grownBy W' v8.ownBlock):EvSt w0 w W' g gl code n A len c1 c v7 v8 out th' where
 cur:=h.cur.grown hg (h.cur.own_ne h.t (by decide))
 below:=pw_below_grown h.below _ h.below.size hg (fun k hk=>Nat.le_trans h.le0 (Kd.R_base h.t k hk))
 keep:=h.keep.trans (KeepBut.of_grown hg g) (Kd.R_base2 h.t)
 box:=blk_grown h.box hg (Kd.R_ne h.t h.box (by decide))
 le0:=h.le0
 gw:=h.gw
 o:=Kd.R_over h.o h.t (by decide) hg
 t:=hr
end
section
variable {w w' : World} {g : Nat}
theorem fill2 {x0 x1 y0 y1:Value} (hx:w'.heap[g]?=some (.cells #[x0,x1] 98 (0,0))) (hb:Below w.heap.size w w') (hg:w.heap.size≤g) :
  Below w.heap.size w ((w'.setCell ⟨g,0,none⟩ y0).setCell ⟨g,1,none⟩ y1)∧((w'.setCell ⟨g,0,none⟩ y0).setCell ⟨g,1,none⟩ y1).heap[g]?=some (.cells #[y0,y1] 98 (0,0)) :=
 ⟨below_set (j:=1) (v:=y1) (below_set (j:=0) (v:=y0) hb hg) hg,blk_put (blk_put hx 0 y0 rfl) 1 y1 rfl⟩
end
set_option maxHeartbeats 8000000 in
set_option maxRecDepth 100000 in
theorem events_is (g:Nat) (code:List Int) (c:Int × Int) (n:Int) (A:Option Addr) (c1:Nat) (l:List S98) (honest:Bool) (b:Int) (w0 w:World) (hc:CurOk code b c) (hb:b≤1000000000) (hI:IsS92 w0 w g code c.1 c.2) (hB:Below w0.heap.size w0 w) (hr:∀ W_,KeepBut w W_ g none→Kd.C k98 W_ A l.length l) (hcl:l.length≤c1) (hl:layoutOk n l=0) :
  Calls Tryd.prog 50 #[.pointer (some ⟨g,0,none⟩),.agg #[.int .i64 n,.slice A l.length c1],.bool honest] w fun e w'=>∃ v0_:Value,e=.returned v0_∧Kd.R k52 52 w' w.heap.size (fun _=>True) v0_ (evDraw code n l honest c).out∧CurOk code (b+500) (evDraw code n l honest c).c∧IsS92 w0 w' g code (evDraw code n l honest c).c.1 (evDraw code n l honest c).c.2∧Below w0.heap.size w0 w'∧KeepBut w w' g none:=by
 have HR:=Aside0.mk hr
 have HCL:=Aside0.mk hcl
 have HN:=Aside0.mk (lay_n hl)
 have HL:=Aside0.mk hl
 obtain ⟨nn,rfl⟩:=Int.eq_ofNat_of_zero_le (show 0≤n by have:=HN.out;omega)
 have HW:=Aside0.mk hB.size
 have HC:=Aside0.mk hc
 have HI:=Aside0.mk hI
 have HB:=Aside0.mk hB
 have HLB:=Aside0.mk hb
 have Hg:=Aside0.mk hI.lt
 clear hr hcl hc hI hB hb hl
 generalize hFD:evDraw code (nn:Int) l honest c=F
 have HFD:=Aside0.mk hFD
 clear hFD
 go_enter Tryd.func50,Tryd.ntmps50
 go_upto_region 1 with ((with_reducible refine gate_dst (N:=4) rfl ?_);refine box_event ?hg (N:=4) ?hd (cs:=#[.int .i64 (nn:Int),.slice A l.length c1]) (t:=31) ?hr ?_;(case hd=>rfl);(case hg=>rfl);(case hr=>first|(go_simp;done)|(go_simp;rfl));intro gl el wl kl bl;have KL:=Aside0.mk kl;have GL:=Aside0.mk (Nat.le_of_eq el.symm);have BL:=Aside0.mk bl;clear kl bl el)
 have kl0:wl.cell? ⟨gl,0,none⟩=some (.int .i64 (nn:Int)):=(blk_cell KL.out 0).trans rfl;have kl1:wl.cell? ⟨gl,1,none⟩=some (.slice A l.length c1):=(blk_cell KL.out 1).trans rfl
 go_upto_region 4 with (go_at_call 38;refine (slay_is (HR.out _ (KeepBut.of_below BL.out g none)) HCL.out).mono ?_;rintro e w1 ⟨h,hs⟩;rw [HL.out] at h;subst h;have BL:=Aside0.mk (below_step BL.out hs);have KL:=Aside0.mk (blk_below KL.out hs);clear hs)
 clear kl0 kl1
 have kl0:w1.cell? ⟨gl,0,none⟩=some (.int .i64 (nn:Int)):=(blk_cell KL.out 0).trans rfl;have kl1:w1.cell? ⟨gl,1,none⟩=some (.slice A l.length c1):=(blk_cell KL.out 1).trans rfl
 go_upto_region 6 with ((with_reducible refine gate_dst (N:=23) rfl ?_);(try (refine gate_guard (by rfl) ?_;dsimp only));refine Kd.R_make (Kd.int .i64) _ 3 rfl (N:=23) rfl 110 _ _ rfl (nn:Int) rfl rfl Tryd.underlying110 (.int .i64 0) 8 info3 rfl (by decide) (by omega) 0 (ok:=fun _=>True) (okp:=fun _=>True) rfl (fun _ hk=>hk) trivial (by have:=HN.out;omega) (by have:=HN.out;omega) (Below.refl _ _) (Nat.le_refl _) ?_;intro v8 w2 ho hbm hgm hnm;have HT:=Aside0.mk ho;have BM:=Aside0.mk hbm;clear ho hbm hgm hnm)
 rw [Int.toNat_natCast] at HT
 obtain ⟨gt,ct,e,_,_,_⟩:=Kd.R_form HT.out (by rw [List.length_replicate];have:=HN.out;omega)
 rw [List.length_replicate] at e
 subst e
 have HS:=Aside0.mk (EvSt.mk (W:=w2) (c:=c) (code:=code) (v7:=.slice none 0 0) (out:=[]) (HI.out.below (below_step BL.out BM.out)) (below_step HB.out (below_step BL.out BM.out)) (KeepBut.of_below (below_step BL.out BM.out) g none) (blk_below KL.out BM.out) HW.out GL.out (Kd.R_nil _ _ _ _ _) (Kd.R_lower HT.out BL.out.size))
 clear kl0 kl1 KL BL BM HT HB
 go_upto_region 7 with (go_at_call 66;go_loud (refine (pick_is g w0 _ HC.out (by have:=HLB.out;omega) (by decide) HS.out.cur HS.out.below).mono ?_;rintro e wp ⟨q,c2,rfl,hp,h0,h1,hc,hi,hb,hk⟩;have HPq:=Aside0.mk hp;have H0q:=Aside0.mk h0;have H1q:=Aside0.mk h1;have HC:=Aside0.mk hc;have HS0:=HS;have HS:=Aside0.mk (HS.out.call hi hb hk);have hk_:=hk;clear hp h0 h1 hc hi hb hk;clear HS0 hk_))
 obtain ⟨q,rfl⟩:=Int.eq_ofNat_of_zero_le H0q.out
 have HF:=Aside0.mk (show evLoop code (nn:Int) l honest q ⟨c2,List.replicate nn 0,-1,[]⟩=F by rw [← HFD.out,evDraw,HPq.out,Int.toNat_natCast];rfl)
 clear HPq H0q HFD
 have Q30:=Aside0.mk (show q≤30 by have:=H1q.out;omega)
 clear H1q
 have HC:=Aside0.mk (HC.out.mono (b':=b+450 - 12 * q) (by have:=Q30.out;omega))
 go_loopg [7,9,10] q (fun kq v7 v9 v10 w'=>∃ s:EvP,v10=.int .i64 kq∧v9=.int .i64 s.dead∧Aside0 (kq≤30)∧Aside0 (evLoop code (nn:Int) l honest kq s=F)∧Aside0 (CurOk code (b+450 - 12 * kq) s.c)∧Aside0 (EvSt w0 w w' g gl code (nn:Int) A l.length c1 s.c v7 (.slice (some ⟨gt,0,none⟩) nn ct) s.out s.th)∧Aside0 (s.th.length=nn)∧Aside0 (s.out.length+kq≤30))
 case atStart=>exact ⟨⟨c2,List.replicate nn 0,-1,[]⟩,rfl,rfl,Q30,HF,HC,HS,⟨by simp⟩,⟨by have:=Q30.out;simpa using this⟩⟩
 case round =>
  clear HF Q30 HC HS
  obtain ⟨s,rfl,rfl,HQ,HF,HC,HS,HTL,HOL⟩:=hrel
  cases gk with
  | zero =>
   go_wp2_with fail
   go_ret
   have hF:s=F:=HF.out
   subst hF
   exact ⟨_,rfl,HS.out.o,HC.out.mono (b':=b+500) (by omega),HS.out.cur,HS.out.below,HS.out.keep⟩
  | succ q1 =>
   have hgt:decide ((0:Int)<((q1+1:Nat):Int))=true:=decide_eq_true (by omega)
   have kl0:wr.cell? ⟨gl,0,none⟩=some (.int .i64 (nn:Int)):=(blk_cell HS.out.box 0).trans rfl;have kl1:wr.cell? ⟨gl,1,none⟩=some (.slice A l.length c1):=(blk_cell HS.out.box 1).trans rfl
   by_cases hz:l.length=0
   ·have hz':((l.length:Int)==0)=true:=by simp [hz]
    have HF:=Aside0.mk (show (⟨(pk code s.c (nn:Int)).2,s.th,s.dead,s.out ++ [⟨5,(pk code s.c (nn:Int)).1,0⟩]⟩:EvP)=F by have h:=HF.out;rw [evLoop,if_pos hz] at h;exact h)
    clear hz
    go_wp2_with (first|(go_at_call 66;go_loud (refine (pick_is g w0 _ HC.out (by have:=HLB.out;omega) (by have:=HN.out;omega) HS.out.cur HS.out.below).mono ?_;rintro e wp ⟨v,c3,rfl,hp,h0,h1,hc,hi,hb,hk⟩;have HPv:=Aside0.mk hp;have H0v:=Aside0.mk h0;have H1v:=Aside0.mk h1;have HC:=Aside0.mk hc;have HS0:=HS;have HS:=Aside0.mk (HS.out.call hi hb hk);have hk_:=hk;clear hp h0 h1 hc hi hb hk;clear kl0 kl1;clear HS0 hk_))|(at_builtin;go_loud (refine Kd.R_append k52 w.heap.size rfl (.tmp 34) (.tmp 40) 33 52 (.agg #[.int .i64 0,.int .i64 0,.int .i64 0]) 24 rfl Tryd.underlying33 info52 rfl (by decide) (by decide) u7 s.out ⟨5,v,0⟩ [.int .i64 5,.int .i64 v,.int .i64 0] (fun _=>True) (fun _=>False) rfl rfl (k52_mkM _ _ _ ⟨5,v,0⟩) (fun k hk=>hk.elim) (fun _ _=>trivial) HS.out.o (Below.refl _ _) HS.out.keep.1 (by have:=HOL.out;omega) ?_;intro vn wn hs _ hg _;have HS:=Aside0.mk (HS.out.row hs hg);clear hs hg)))
    go_ret
    have hF:=HF.out
    rw [HPv.out] at hF
    subst hF
    exact ⟨_,rfl,HS.out.o,HC.out.mono (b':=b+500) (by omega),HS.out.cur,HS.out.below,HS.out.keep⟩
   have HZ:=Aside0.mk (show (0:Int)<(l.length:Int) by omega)
   have hz':((l.length:Int)==0)=false:=by simp [hz]
   have HF:=Aside0.mk (show evLoop code (nn:Int) l honest q1 (evStep code (nn:Int) l honest s)=F by have h:=HF.out;rw [evLoop,if_neg hz] at h;exact h)
   clear hz
   go_upto_region 12 with (go_at_call 66;go_loud (refine (pick_is g w0 _ HC.out (by have:=HLB.out;omega) HZ.out HS.out.cur HS.out.below).mono ?_;rintro e wp ⟨k,c3,rfl,hp,h0,h1,hc,hi,hb,hk⟩;have HPk:=Aside0.mk hp;have H0k:=Aside0.mk h0;have H1k:=Aside0.mk h1;have HC:=Aside0.mk hc;have HS0:=HS;have HS:=Aside0.mk (HS.out.call hi hb hk);have hk_:=hk;clear hp h0 h1 hc hi hb hk;clear kl0 kl1;clear HS0 hk_))
   obtain ⟨ad,e,x0,x1⟩:=at_T98 (HR.out _ HS.out.keep) k H0k.out H1k.out
   cases e
   have r0:=H0k.out
   have r1:=H1k.out
   have HX:=Aside0.mk (lay_rd HL.out k r0 r1)
   obtain ⟨x,hx⟩:∃ x,x=rd_T98 l k:=⟨_,rfl⟩
   have HXE:=Aside0.mk hx
   rw [← hx] at x0 x1 HX
   clear hx
   have kl0:wp.cell? ⟨gl,0,none⟩=some (.int .i64 (nn:Int)):=(blk_cell HS.out.box 0).trans rfl;have kl1:wp.cell? ⟨gl,1,none⟩=some (.slice (some ad) l.length c1):=(blk_cell HS.out.box 1).trans rfl
   go_upto_region 13 with ((with_reducible refine gate_dst (N:=12) rfl ?_);refine box_event ?hg (N:=12) ?hd (cs:=#[.int .i64 0,.int .i64 0]) (t:=98) ?hr ?_;(case hd=>rfl);(case hg=>rfl);(case hr=>first|(go_simp;done)|(go_simp;rfl));intro gx ex wx kx bx;have EX:=Aside0.mk ex;have KX:=Aside0.mk kx;have BX:=Aside0.mk bx;clear ex kx bx;have kx0:wx.cell? ⟨gx,0,none⟩=some (.int .i64 0):=(blk_cell KX.out 0).trans rfl;have kx1:wx.cell? ⟨gx,1,none⟩=some (.int .i64 0):=(blk_cell KX.out 1).trans rfl;have zkx0:=blk_frozen KX.out 0;have zkx1:=blk_frozen KX.out 1)
   have FX:=Aside0.mk (fill2 (y0:=.int .i64 x.f0) (y1:=.int .i64 x.f1) KX.out BX.out (Nat.le_of_eq EX.out.symm))
   clear kx0 kx1 zkx0 zkx1 KX BX EX x0 x1 kl0 kl1
   generalize ((wx.setCell ⟨gx,0,none⟩ (.int .i64 x.f0)).setCell ⟨gx,1,none⟩ (.int .i64 x.f1))=w4 at FX ⊢
   have HS:=Aside0.mk (HS.out.up FX.out.1)
   have KX:=Aside0.mk FX.out.2
   clear FX
   go_upto_region 26 with (go_at_call 66;go_loud (refine (pick_is g w0 _ HC.out (by have:=HLB.out;omega) (by decide) HS.out.cur HS.out.below).mono ?_;rintro e wp ⟨a,c4,rfl,hp,h0,h1,hc,hi,hb,hk⟩;have HPa:=Aside0.mk hp;have H0a:=Aside0.mk h0;have H1a:=Aside0.mk h1;have HC:=Aside0.mk hc;have HS0:=HS;have HS:=Aside0.mk (HS.out.call hi hb hk);have hk_:=hk;clear hp h0 h1 hc hi hb hk;have KX:=Aside0.mk (hk_.blk KX.out (fun e=>HS0.out.cur.ne_blk KX.out (by decide) e.symm) (by simp));clear HS0 hk_))
   have HE:=Aside0.mk (show evStep code (nn:Int) l honest s=(if a=0 then ⟨(pk code c4 2).2,s.th,s.dead,s.out ++ [⟨2,k,wrap64 (1 - wrap64 (2 * (pk code c4 2).1))⟩]⟩ else if a=1 then ⟨c4,s.th,k,s.out ++ [⟨3,k,0⟩]⟩ else if a=2 ∨ a=3 then ⟨c4,s.th,-1,s.out ++ [⟨4,if 0≤s.dead then s.dead else k,0⟩]⟩
    else if a=4 ∨ a=5 ∨ a=6 then evReset code (nn:Int) honest c4 s else evPass code x honest k c4 s) by unfold evStep;rw [HPk.out];dsimp only;rw [HPa.out,HXE.out])
   have HC:=Aside0.mk (HC.out.mono (b':=b+450 - 12 * q1 - 8) (by omega))
   have W1:=Aside0.mk (show wrap64 (q1:Int)=(q1:Int) from wrap_id (by omega) (by have:=HQ.out;omega))
   have ha:a=0 ∨ a=1 ∨ (a=2 ∨ a=3) ∨ (a=4 ∨ a=5 ∨ a=6) ∨ 7≤a:=by have:=H0a.out;omega
   clear HPk HPa HXE H0a H1a r0 r1
   rcases ha with rfl|rfl|ha|ha|ha
   ·as_aux_lemma =>
    have HE2:=Aside0.mk (show evStep code (nn:Int) l honest s=⟨(pk code c4 2).2,s.th,s.dead,s.out ++ [⟨2,k,wrap64 (1 - wrap64 (2 * (pk code c4 2).1))⟩]⟩ by rw [HE.out,if_pos rfl])
    go_wp2_with (first|(go_at_call 66;go_loud (refine (pick_is g w0 _ HC.out (by have:=HLB.out;omega) (by decide) HS.out.cur HS.out.below).mono ?_;rintro e wp ⟨v,c5,rfl,hp,h0,h1,hc,hi,hb,hk⟩;have HPv:=Aside0.mk hp;have H0v:=Aside0.mk h0;have H1v:=Aside0.mk h1;have HC:=Aside0.mk hc;have HS0:=HS;have HS:=Aside0.mk (HS.out.call hi hb hk);have hk_:=hk;clear hp h0 h1 hc hi hb hk;clear HS0 hk_))|(at_builtin;go_loud (refine Kd.R_append k52 w.heap.size rfl (.tmp 110) (.tmp 117) 33 52 (.agg #[.int .i64 0,.int .i64 0,.int .i64 0]) 24 rfl Tryd.underlying33 info52 rfl (by decide) (by decide) u7 s.out ⟨2,k,(wrap64 (1 - wrap64 (2 * v)))⟩ [.int .i64 2,.int .i64 k,.int .i64 (wrap64 (1 - wrap64 (2 * v)))] (fun _=>True) (fun _=>False) rfl rfl (k52_mkM _ _ _ ⟨2,k,(wrap64 (1 - wrap64 (2 * v)))⟩) (fun k hk=>hk.elim) (fun _ _=>trivial) HS.out.o (Below.refl _ _) HS.out.keep.1 (by have:=HOL.out;omega) ?_;intro vn wn hs _ hg _;have HS:=Aside0.mk (HS.out.row hs hg);clear hs hg)))
    go_roundg q1
    case measure=>have:=HQ.out;omega
    case rel=>exact ⟨⟨c5,s.th,s.dead,s.out ++ [⟨2,k,wrap64 (1 - wrap64 (2 * v))⟩]⟩,congrArg (Value.int .i64) W1.out,rfl,⟨by have:=HQ.out;omega⟩,⟨by have h:=HF.out;rw [HE2.out,HPv.out] at h;exact h⟩,⟨HC.out.mono (by omega)⟩,HS,HTL,⟨by have:=HOL.out;simp;omega⟩⟩
   ·as_aux_lemma =>
    have HE2:=Aside0.mk (show evStep code (nn:Int) l honest s=⟨c4,s.th,k,s.out ++ [⟨3,k,0⟩]⟩ by rw [HE.out,if_neg (by decide),if_pos rfl])
    go_wp2_with (at_builtin;go_loud (refine Kd.R_append k52 w.heap.size rfl (.tmp 122) (.tmp 125) 33 52 (.agg #[.int .i64 0,.int .i64 0,.int .i64 0]) 24 rfl Tryd.underlying33 info52 rfl (by decide) (by decide) u7 s.out ⟨3,k,0⟩ [.int .i64 3,.int .i64 k,.int .i64 0] (fun _=>True) (fun _=>False) rfl rfl (k52_mkM _ _ _ ⟨3,k,0⟩) (fun k hk=>hk.elim) (fun _ _=>trivial) HS.out.o (Below.refl _ _) HS.out.keep.1 (by have:=HOL.out;omega) ?_;intro vn wn hs _ hg _;have HS:=Aside0.mk (HS.out.row hs hg);clear hs hg))
    go_roundg q1
    case measure=>have:=HQ.out;omega
    case rel=>exact ⟨⟨c4,s.th,k,s.out ++ [⟨3,k,0⟩]⟩,congrArg (Value.int .i64) W1.out,rfl,⟨by have:=HQ.out;omega⟩,⟨by have h:=HF.out;rw [HE2.out] at h;exact h⟩,⟨HC.out.mono (by omega)⟩,HS,HTL,⟨by have:=HOL.out;simp;omega⟩⟩
   ·as_aux_lemma =>
    have HE2:=Aside0.mk (show evStep code (nn:Int) l honest s=⟨c4,s.th,-1,s.out ++ [⟨4,if 0≤s.dead then s.dead else k,0⟩]⟩ by rw [HE.out,if_neg (by omega),if_neg (by omega),if_pos ha])
    by_cases hd:0≤s.dead
    ·have hd':decide (0≤s.dead)=true:=decide_eq_true hd
     rw [if_pos hd] at HE2
     clear hd
     rcases ha with rfl|rfl
     all_goals
      go_wp2_with (at_builtin;go_loud (refine Kd.R_append k52 w.heap.size rfl (.tmp 133) (.tmp 136) 33 52 (.agg #[.int .i64 0,.int .i64 0,.int .i64 0]) 24 rfl Tryd.underlying33 info52 rfl (by decide) (by decide) u7 s.out ⟨4,s.dead,0⟩ [.int .i64 4,.int .i64 s.dead,.int .i64 0] (fun _=>True) (fun _=>False) rfl rfl (k52_mkM _ _ _ ⟨4,s.dead,0⟩) (fun k hk=>hk.elim) (fun _ _=>trivial) HS.out.o (Below.refl _ _) HS.out.keep.1 (by have:=HOL.out;omega) ?_;intro vn wn hs _ hg _;have HS:=Aside0.mk (HS.out.row hs hg);clear hs hg))
      go_roundg q1
      case measure=>have:=HQ.out;omega
      case rel=>exact ⟨⟨c4,s.th,-1,s.out ++ [⟨4,s.dead,0⟩]⟩,congrArg (Value.int .i64) W1.out,rfl,⟨by have:=HQ.out;omega⟩,⟨by have h:=HF.out;rw [HE2.out] at h;exact h⟩,⟨HC.out.mono (by omega)⟩,HS,HTL,⟨by have:=HOL.out;simp;omega⟩⟩
    have hd':decide (0≤s.dead)=false:=decide_eq_false hd
    rw [if_neg hd] at HE2
    clear hd
    rcases ha with rfl|rfl
    all_goals
     go_wp2_with (at_builtin;go_loud (refine Kd.R_append k52 w.heap.size rfl (.tmp 133) (.tmp 136) 33 52 (.agg #[.int .i64 0,.int .i64 0,.int .i64 0]) 24 rfl Tryd.underlying33 info52 rfl (by decide) (by decide) u7 s.out ⟨4,k,0⟩ [.int .i64 4,.int .i64 k,.int .i64 0] (fun _=>True) (fun _=>False) rfl rfl (k52_mkM _ _ _ ⟨4,k,0⟩) (fun k hk=>hk.elim) (fun _ _=>trivial) HS.out.o (Below.refl _ _) HS.out.keep.1 (by have:=HOL.out;omega) ?_;intro vn wn hs _ hg _;have HS:=Aside0.mk (HS.out.row hs hg);clear hs hg))
     go_roundg q1
     case measure=>have:=HQ.out;omega
     case rel=>exact ⟨⟨c4,s.th,-1,s.out ++ [⟨4,k,0⟩]⟩,congrArg (Value.int .i64) W1.out,rfl,⟨by have:=HQ.out;omega⟩,⟨by have h:=HF.out;rw [HE2.out] at h;exact h⟩,⟨HC.out.mono (by omega)⟩,HS,HTL,⟨by have:=HOL.out;simp;omega⟩⟩
   ·as_aux_lemma =>
    have HE2:=Aside0.mk (show evStep code (nn:Int) l honest s=evReset code (nn:Int) honest c4 s by rw [HE.out,if_neg (by omega),if_neg (by omega),if_neg (by omega),if_pos ha])
    have hb0:(a==0)=false:=by simp;omega
    have hb1:(a==1)=false:=by simp;omega
    have hb2:(a==2)=false:=by simp;omega
    have hb3:(a==3)=false:=by simp;omega
    go_upto_if 138 with fail
    go_cut [138] from 26 to 164 (fun y wx=>y=.bool true∧wx=wp)
    case first =>
     rcases ha with rfl|rfl|rfl
     all_goals
      go_wp2_with fail
      go_meet
      exact ⟨rfl,rfl⟩
    case rest =>
     obtain ⟨rfl,rfl⟩:=hcut
     clear hb0 hb1 hb2 hb3
     have kl0:wc.cell? ⟨gl,0,none⟩=some (.int .i64 (nn:Int)):=(blk_cell HS.out.box 0).trans rfl;have kl1:wc.cell? ⟨gl,1,none⟩=some (.slice (some ad) l.length c1):=(blk_cell HS.out.box 1).trans rfl
     go_upto_region 41 with (go_at_call 66;go_loud (refine (pick_is g w0 _ HC.out (by have:=HLB.out;omega) (by have:=HN.out;omega) HS.out.cur HS.out.below).mono ?_;rintro e wp ⟨v,c5,rfl,hp,h0,h1,hc,hi,hb,hk⟩;have HPv:=Aside0.mk hp;have H0v:=Aside0.mk h0;have H1v:=Aside0.mk h1;have HC:=Aside0.mk hc;have HS0:=HS;have HS:=Aside0.mk (HS.out.call hi hb hk);have hk_:=hk;clear hp h0 h1 hc hi hb hk;clear kl0 kl1;clear HS0 hk_))
     have r0:=H0v.out
     have r1:=H1v.out
     obtain ⟨y0,_⟩:=Kd.R_celln 0 HS.out.t v r0 r1
     have x0:wp.cell? ⟨gt,v.toNat,none⟩=some (.int .i64 (rd s.th v)):=y0
     clear y0
     go_cut [159] from 26 to 164 (fun y wx=>∃ c6 yes,y=.bool yes∧Aside0 (evAsk code (rd s.th v==0) honest c5 4=(yes,c6))∧Aside0 (CurOk code (b+450 - 12 * q1) c6)∧Aside0 (EvSt w0 w wx g gl code (nn:Int) (some ad) l.length c1 c6 u7 (.slice (some ⟨gt,0,none⟩) nn ct) s.out s.th))
     case first =>
      cases hy:(rd s.th v==0) with
      | true =>
       go_wp2_with fail
       go_meet
       exact ⟨c5,true,rfl,⟨by rw [hy];rfl⟩,⟨HC.out.mono (by omega)⟩,HS⟩
      | false =>
       cases honest with
       | true =>
        go_wp2_with fail
        go_meet
        exact ⟨c5,false,rfl,⟨by rw [hy];rfl⟩,⟨HC.out.mono (by omega)⟩,HS⟩
       | false =>
        go_wp2_with (go_at_call 66;go_loud (refine (pick_is g w0 _ HC.out (by have:=HLB.out;omega) (by decide) HS.out.cur HS.out.below).mono ?_;rintro e wp ⟨u,c6,rfl,hp,h0,h1,hc,hi,hb,hk⟩;have HPu:=Aside0.mk hp;have H0u:=Aside0.mk h0;have H1u:=Aside0.mk h1;have HC:=Aside0.mk hc;have HS0:=HS;have HS:=Aside0.mk (HS.out.call hi hb hk);have hk_:=hk;clear hp h0 h1 hc hi hb hk;clear x0;clear HS0 hk_))
        go_meet
        exact ⟨c6,u==0,rfl,⟨by rw [hy,evAsk,HPu.out];rfl⟩,⟨HC.out.mono (by omega)⟩,HS⟩
     case rest =>
      obtain ⟨c6,yes,rfl,HA,HC,HS⟩:=hcut
      clear x0
      cases yes with
      | true =>
       go_wp2_with (at_builtin;go_loud (refine Kd.R_append k52 w.heap.size rfl (.tmp 160) (.tmp 163) 33 52 (.agg #[.int .i64 0,.int .i64 0,.int .i64 0]) 24 rfl Tryd.underlying33 info52 rfl (by decide) (by decide) u7 s.out ⟨5,v,0⟩ [.int .i64 5,.int .i64 v,.int .i64 0] (fun _=>True) (fun _=>False) rfl rfl (k52_mkM _ _ _ ⟨5,v,0⟩) (fun k hk=>hk.elim) (fun _ _=>trivial) HS.out.o (Below.refl _ _) HS.out.keep.1 (by have:=HOL.out;omega) ?_;intro vn wn hs _ hg _;have HS:=Aside0.mk (HS.out.row hs hg);clear hs hg))
       go_roundg q1
       case measure=>have:=HQ.out;omega
       case rel=>exact ⟨⟨c6,s.th,s.dead,s.out ++ [⟨5,v,0⟩]⟩,congrArg (Value.int .i64) W1.out,rfl,⟨by have:=HQ.out;omega⟩,⟨by have h:=HF.out;rw [HE2.out,evReset,HPv.out] at h;dsimp only at h;rw [HA.out,if_pos rfl] at h;exact h⟩,HC,HS,HTL,⟨by have:=HOL.out;simp;omega⟩⟩
      | false =>
       go_wp2_with fail
       go_roundg q1
       case measure=>have:=HQ.out;omega
       case rel=>exact ⟨⟨c6,s.th,s.dead,s.out⟩,congrArg (Value.int .i64) W1.out,rfl,⟨by have:=HQ.out;omega⟩,⟨by have h:=HF.out;rw [HE2.out,evReset,HPv.out] at h;dsimp only at h;rw [HA.out] at h;exact h⟩,HC,HS,HTL,⟨by have:=HOL.out;show s.out.length+q1≤30;omega⟩⟩
   as_aux_lemma =>
   have HE2:=Aside0.mk (show evStep code (nn:Int) l honest s=evPass code x honest k c4 s by rw [HE.out,if_neg (by omega),if_neg (by omega),if_neg (by omega),if_neg (by omega)])
   have hb0:(a==0)=false:=by simp;omega
   have hb1:(a==1)=false:=by simp;omega
   have hb2:(a==2)=false:=by simp;omega
   have hb3:(a==3)=false:=by simp;omega
   have hb4:(a==4)=false:=by simp;omega
   have hb5:(a==5)=false:=by simp;omega
   have hb6:(a==6)=false:=by simp;omega
   clear HE ha
   go_upto_region 15 with (go_at_call 66;go_loud (refine (pick_is g w0 _ HC.out (by have:=HLB.out;omega) (by decide) HS.out.cur HS.out.below).mono ?_;rintro e wp ⟨v,c5,rfl,hp,h0,h1,hc,hi,hb,hk⟩;have HPv:=Aside0.mk hp;have H0v:=Aside0.mk h0;have H1v:=Aside0.mk h1;have HC:=Aside0.mk hc;have HS0:=HS;have HS:=Aside0.mk (HS.out.call hi hb hk);have hk_:=hk;clear hp h0 h1 hc hi hb hk;have KX:=Aside0.mk (hk_.blk KX.out (fun e=>HS0.out.cur.ne_blk KX.out (by decide) e.symm) (by simp));clear HS0 hk_))
   clear hb0 hb1 hb2 hb3 hb4 hb5 hb6
   generalize hd:wrap64 (1 - wrap64 (2 * v))=d
   have hft:∃ f t,(decide (d<0)=true∧f=x.f1∧t=x.f0 ∨ decide (d<0)=false∧f=x.f0∧t=x.f1)∧(-1≤f∧f<nn∧-1≤t∧t<nn)∧evPass code x honest k c4 s=if (evAsk code (decide (f<0) || decide (0<rd s.th f)) honest c5 8).1=true then ⟨(evAsk code (decide (f<0) || decide (0<rd s.th f)) honest c5 8).2,mv s.th f t,s.dead,s.out ++ [⟨1,k,d⟩]⟩ else ⟨(evAsk code (decide (f<0) || decide (0<rd s.th f)) honest c5 8).2,s.th,s.dead,s.out⟩:=by
    have hx:=HX.out
    by_cases h:d<0
    ·exact ⟨x.f1,x.f0,.inl ⟨decide_eq_true h,rfl,rfl⟩,by omega,by unfold evPass;simp only [HPv.out,hd,if_pos h]⟩
    exact ⟨x.f0,x.f1,.inr ⟨decide_eq_false h,rfl,rfl⟩,by omega,by unfold evPass;simp only [HPv.out,hd,if_neg h]⟩
   obtain ⟨f,t,hcase,hbd,hpass⟩:=hft
   have HBD:=Aside0.mk hbd
   have HPS:=Aside0.mk hpass
   have HD:=Aside0.mk hd
   clear hbd hpass hd
   have kx0:wp.cell? ⟨gx,0,none⟩=some (.int .i64 x.f0):=(blk_cell KX.out 0).trans rfl
   have kx1:wp.cell? ⟨gx,1,none⟩=some (.int .i64 x.f1):=(blk_cell KX.out 1).trans rfl
   go_upto_if 63 with fail
   go_cut [15,16] from 26 to 164 (fun y z wx=>y=.int .i64 f∧z=.int .i64 t∧wx=wp)
   case first =>
    rcases hcase with ⟨hd,rfl,rfl⟩|⟨hd,rfl,rfl⟩
    all_goals
     rw [hd]
     go_wp2_with fail
     go_meet
     exact ⟨rfl,rfl,rfl⟩
   case rest =>
    obtain ⟨rfl,rfl,rfl⟩:=hcut
    clear hcase kx0 kx1
    go_upto_region 20 with fail
    go_cut [85] from 26 to 164 (fun y wx=>∃ c6 yes,y=.bool yes∧Aside0 (evAsk code (decide (f<0) || decide (0<rd s.th f)) honest c5 8=(yes,c6))∧Aside0 (CurOk code (b+450 - 12 * q1) c6)∧Aside0 (EvSt w0 w wx g gl code (nn:Int) (some ad) l.length c1 c6 u7 (.slice (some ⟨gt,0,none⟩) nn ct) s.out s.th))
    case first =>
     as_aux_lemma =>
     by_cases hf:f<0
     ·have hf':decide (f<0)=true:=decide_eq_true hf
      clear hf
      go_wp2_with fail
      go_meet
      exact ⟨c5,true,rfl,⟨by rw [hf'];rfl⟩,⟨HC.out.mono (by omega)⟩,HS⟩
     have hf':decide (f<0)=false:=decide_eq_false hf
     have r0:0≤f:=by omega
     have r1:f<(nn:Int):=HBD.out.2.1
     clear hf
     obtain ⟨y0,_⟩:=Kd.R_celln 0 HS.out.t f r0 r1
     have x0:wc.cell? ⟨gt,f.toNat,none⟩=some (.int .i64 (rd s.th f)):=y0
     clear y0
     cases hy:decide (0<rd s.th f) with
     | true =>
      go_wp2_with fail
      go_meet
      exact ⟨c5,true,rfl,⟨by rw [hf',hy];rfl⟩,⟨HC.out.mono (by omega)⟩,HS⟩
     | false =>
      cases honest with
      | true =>
       go_wp2_with fail
       go_meet
       exact ⟨c5,false,rfl,⟨by rw [hf',hy];rfl⟩,⟨HC.out.mono (by omega)⟩,HS⟩
      | false =>
       go_wp2_with (go_at_call 66;go_loud (refine (pick_is g w0 _ HC.out (by have:=HLB.out;omega) (by decide) HS.out.cur HS.out.below).mono ?_;rintro e wp ⟨u,c6,rfl,hp,h0,h1,hc,hi,hb,hk⟩;have HPu:=Aside0.mk hp;have H0u:=Aside0.mk h0;have H1u:=Aside0.mk h1;have HC:=Aside0.mk hc;have HS0:=HS;have HS:=Aside0.mk (HS.out.call hi hb hk);have hk_:=hk;clear hp h0 h1 hc hi hb hk;clear x0;clear HS0 hk_))
       go_meet
       exact ⟨c6,u==0,rfl,⟨by rw [hf',hy,Bool.or_self,evAsk,HPu.out];rfl⟩,⟨HC.out.mono (by omega)⟩,HS⟩
    case rest =>
     obtain ⟨c6,yes,rfl,HA,HC,HS⟩:=hcut
     cases yes with
     | false =>
      go_wp2_with fail
      go_roundg q1
      case measure=>have:=HQ.out;omega
      case rel=>exact ⟨⟨c6,s.th,s.dead,s.out⟩,congrArg (Value.int .i64) W1.out,rfl,⟨by have:=HQ.out;omega⟩,⟨by have h:=HF.out;rw [HE2.out,HPS.out,HA.out] at h;exact h⟩,HC,HS,HTL,⟨by have:=HOL.out;show s.out.length+q1≤30;omega⟩⟩
     | true =>
      have HF2:=Aside0.mk (show evLoop code (nn:Int) l honest q1 ⟨c6,mv s.th f t,s.dead,s.out ++ [⟨1,k,d⟩]⟩=F by have h:=HF.out;rw [HE2.out,HPS.out,HA.out] at h;exact h)
      clear HF HE2 HPS HA
      obtain ⟨th1,hth1⟩:∃ th1,th1=if 0≤f then s.th.set f.toNat (wrap64 (rd s.th f - 1)) else s.th:=⟨_,rfl⟩
      have HT1:=Aside0.mk hth1
      clear hth1
      go_upto_if 87 with fail
      go_cut [] from 26 to 164 (fun wx=>Aside0 (EvSt w0 w wx g gl code (nn:Int) (some ad) l.length c1 c6 u7 (.slice (some ⟨gt,0,none⟩) nn ct) s.out th1))
      case first =>
       as_aux_lemma =>
       by_cases hf:0≤f
       ·have hf':decide (0≤f)=true:=decide_eq_true hf
        have r1:f<(nn:Int):=HBD.out.2.1
        obtain ⟨y0,y1⟩:=Kd.R_celln 0 HS.out.t f hf r1
        have x0:wc.cell? ⟨gt,f.toNat,none⟩=some (.int .i64 (rd s.th f)):=y0
        have HP:=Aside0.mk (Kd.R_putg HS.out.t f (wrap64 (rd s.th f - 1)))
        clear y0
        rw [hf']
        go_wp2_with fail
        go_meet
        have h1:=HT1.out
        rw [if_pos hf] at h1
        subst h1
        exact ⟨HS.out.put HP.out.1 HP.out.2⟩
       have hf':decide (0≤f)=false:=decide_eq_false hf
       rw [hf']
       go_wp2_with fail
       go_meet
       have h1:=HT1.out
       rw [if_neg (show ¬ 0≤f by omega)] at h1
       subst h1
       exact HS
      case rest =>
       have HS:=hcut
       clear hcut
       go_upto_if 95 with fail
       go_cut [] from 26 to 164 (fun wx=>Aside0 (EvSt w0 w wx g gl code (nn:Int) (some ad) l.length c1 c6 u7 (.slice (some ⟨gt,0,none⟩) nn ct) s.out (mv s.th f t)))
       case first =>
        as_aux_lemma =>
        have HM:=Aside0.mk (show mv s.th f t=if 0≤t then th1.set t.toNat (wrap64 (rd th1 t+1)) else th1 by rw [HT1.out];rfl)
        by_cases hf:0≤t
        ·have hf':decide (0≤t)=true:=decide_eq_true hf
         have r1:t<(nn:Int):=HBD.out.2.2.2
         obtain ⟨y0,y1⟩:=Kd.R_celln 0 HS.out.t t hf r1
         have x0:wc.cell? ⟨gt,t.toNat,none⟩=some (.int .i64 (rd th1 t)):=y0
         have HP:=Aside0.mk (Kd.R_putg HS.out.t t (wrap64 (rd th1 t+1)))
         clear y0
         rw [hf']
         go_wp2_with fail
         go_meet
         have h1:=HM.out
         rw [if_pos hf] at h1
         rw [h1]
         exact ⟨HS.out.put HP.out.1 HP.out.2⟩
        have hf':decide (0≤t)=false:=decide_eq_false hf
        rw [hf']
        go_wp2_with fail
        go_meet
        have h1:=HM.out
        rw [if_neg (show ¬ 0≤t by omega)] at h1
        rw [h1]
        exact HS
       case rest =>
        as_aux_lemma =>
        have HS:=hcut
        clear hcut
        go_wp2_with (at_builtin;go_loud (refine Kd.R_append k52 w.heap.size rfl (.tmp 102) (.tmp 106) 33 52 (.agg #[.int .i64 0,.int .i64 0,.int .i64 0]) 24 rfl Tryd.underlying33 info52 rfl (by decide) (by decide) u7 s.out ⟨1,k,d⟩ [.int .i64 1,.int .i64 k,.int .i64 d] (fun _=>True) (fun _=>False) rfl rfl (k52_mkM _ _ _ ⟨1,k,d⟩) (fun k hk=>hk.elim) (fun _ _=>trivial) HS.out.o (Below.refl _ _) HS.out.keep.1 (by have:=HOL.out;omega) ?_;intro vn wn hs _ hg _;have HS:=Aside0.mk (HS.out.row hs hg);clear hs hg))
        go_roundg q1
        case measure=>have:=HQ.out;omega
        case rel=>exact ⟨⟨c6,mv s.th f t,s.dead,s.out ++ [⟨1,k,d⟩]⟩,congrArg (Value.int .i64) W1.out,rfl,⟨by have:=HQ.out;omega⟩,HF2,HC,HS,⟨by rw [mv_length];exact HTL.out⟩,⟨by have:=HOL.out;simp;omega⟩⟩
end Go.Proofs.YtpdnabhpkdchjaaDoor.P
namespace Go.Proofs.YtpdnabhpkdchjaaDoor.P
open Go.RowKit Go.Proofs.YtpdnabhpkdchjaaDoorW.PrintWords Go.Proofs.YtpdnabhpkdchjaaDoorW.PrintLast Go.Proofs.YtpdnabhpkdchjaaDoorW.PrintMore
set_option linter.unusedVariables false
set_option linter.unusedSimpArgs false
structure DrSt (w W:World) (gr gl gc:Nat) (code:List Int) (c:Int × Int) (n:Int) (A1:Option Addr) (c1:Nat) (l:List S98):Prop where
 cur:IsS92 w W gc code c.1 c.2
 below:Below w.heap.size w W
 res:W.heap[gr]?=some (.cells #[.int .i64 0,.slice none 0 0] 31 (0,0))
 lay:W.heap[gl]?=some (.cells #[.int .i64 n,.slice A1 l.length c1] 31 (0,0))
 gre:w.heap.size≤gr
 ne:gl ≠ gr
 o:Kd.R k98 98 W w.heap.size (fun _=>True) (.slice A1 l.length c1) l
section
variable {w W W' : World} {gr gl gc c1 : Nat} {code : List Int} {c c' : Int × Int} {n : Int} {A1 : Option Addr} {l : List S98}
theorem DrSt.call (h:DrSt w W gr gl gc code c n A1 c1 l) (hi:IsS92 w W' gc code c'.1 c'.2) (hb:Below w.heap.size w W') (hk:KeepBut W W' gc none):DrSt w W' gr gl gc code c' n A1 c1 l where
 cur:=hi
 below:=hb
 res:=hk.blk h.res (fun e=>h.cur.ne_blk h.res (by decide) e.symm) (by simp)
 lay:=hk.blk h.lay (fun e=>h.cur.ne_blk h.lay (by decide) e.symm) (by simp)
 gre:=h.gre
 ne:=h.ne
 o:=Kd.R_mono (Kd.R_keep (h.cur.apart h.o (by decide)) hk (fun _ x=>x.2)) (fun _ _=>trivial)
theorem DrSt.reads (h:DrSt w W gr gl gc code c n A1 c1 l):∀ W_,KeepBut W W_ gc none→Kd.C k98 W_ A1 l.length l:=fun W_ hk=>(Kd.R_reads' (Kd.R_keep (h.cur.apart h.o (by decide)) hk (fun _ x=>x.2))).2.2
theorem DrSt.fin (h:DrSt w W gr gl gc code c n A1 c1 l):((W.setCell ⟨gr,0,none⟩ (.int .i64 n)).setCell ⟨gr,1,none⟩ (.slice A1 l.length c1)).heap[gr]?=some (.cells #[.int .i64 n,.slice A1 l.length c1] 31 (0,0)):=blk_put (blk_put h.res 0 (.int .i64 n) rfl) 1 (.slice A1 l.length c1) rfl
theorem DrSt.finB (h:DrSt w W gr gl gc code c n A1 c1 l):Below w.heap.size w ((W.setCell ⟨gr,0,none⟩ (.int .i64 n)).setCell ⟨gr,1,none⟩ (.slice A1 l.length c1)):=below_set (j:=1) (below_set (j:=0) h.below h.gre) h.gre
theorem DrSt.finR {α:Type} {d:Kd α} {e:Nat} {v:Value} {xs:List α} (h:DrSt w W gr gl gc code c n A1 c1 l) (hr:Kd.R d e W w.heap.size (fun _=>True) v xs) (ht:∀ q,q ∈ e :: d.E→q ≠ 31):Kd.R d e ((W.setCell ⟨gr,0,none⟩ (.int .i64 n)).setCell ⟨gr,1,none⟩ (.slice A1 l.length c1)) w.heap.size (fun _=>True) v xs :=
 Kd.R_set (Kd.R_set hr h.res ht 0 (.int .i64 n)) (blk_put h.res 0 (.int .i64 n) rfl) ht 1 (.slice A1 l.length c1)
end
set_option maxHeartbeats 8000000 in
set_option maxRecDepth 100000 in
theorem drawn_is {code:List Int} (hby:∀ x ∈ code,0≤x∧x<256) (honest:Bool):∃ n l c',1≤n∧n≤5∧l.length≤9∧layoutOk n l=0∧CurOk code 100 c' ∧
  ∀ (A:Option Addr) (cap:Nat) (w:World),Kd.C (Kd.int .u8) w A code.length code→Calls Tryd.prog 23 #[.slice A code.length cap,.bool honest] w fun e w' =>
   ∃ A1 c1 v2,e=.returned (.tuple #[.agg #[.int .i64 n,.slice A1 l.length c1],v2])∧Kd.R k98 98 w' w.heap.size (fun _=>True) (.slice A1 l.length c1) l∧Kd.R k52 52 w' w.heap.size (fun _=>True) v2 (evDraw code n l honest c').out∧Below w.heap.size w w':=by
 obtain ⟨k,n,l,c',hlay,n0,n1,hll,hlo,hc'⟩:=layD (b:=0) (c:=(0,0)) ⟨hby,Int.le_refl _,Int.le_refl _⟩ (by decide)
 refine ⟨n,l,c',n0,n1,hll,hlo,hc'.mono (by decide),fun A cap w hA=>?_⟩
 have HA:=Aside0.mk hA
 have HLAY:=Aside0.mk hlay
 have HLO:=Aside0.mk hlo
 have HLL:=Aside0.mk hll
 have HC:=Aside0.mk hc'
 clear hA hlay hlo hll hc' n0 n1 hby
 generalize hF:(evDraw code n l honest c').out=F
 have HF:=Aside0.mk hF
 clear hF
 go_enter Tryd.func23,Tryd.ntmps23
 go_upto_region 1 with ((with_reducible refine gate_dst (N:=4) rfl ?_);refine box_event ?hg (N:=4) ?hd (cs:=#[.int .i64 0,.slice none 0 0]) (t:=31) ?hr ?_;(case hd=>rfl);(case hg=>rfl);(case hr=>first|(go_simp;done)|(go_simp;rfl));intro gr er wr kr br;have KR:=Aside0.mk kr;have GR:=Aside0.mk (Nat.le_of_eq er.symm);have BR:=Aside0.mk br;clear kr br er)
 go_upto_region 2 with ((with_reducible refine gate_dst (N:=10) rfl ?_);refine box_event ?hg (N:=10) ?hd (cs:=#[.slice A code.length cap,.int .i64 0,.int .u64 0]) (t:=92) ?hr ?_;(case hd=>rfl);(case hg=>rfl);(case hr=>first|(go_simp;done)|(go_simp;rfl));intro gc ec wc kc bc;have KC:=Aside0.mk kc;have GC:=Aside0.mk (Nat.le_of_eq ec.symm);have BC:=Aside0.mk bc;clear kc bc ec)
 have HI:=Aside0.mk (show IsS92 w wc gc code 0 0 from ⟨A,cap,KC.out,Nat.le_trans BR.out.size GC.out,HA.out⟩)
 have KR:=Aside0.mk (blk_below KR.out BC.out)
 have BC:=Aside0.mk (below_step BR.out BC.out)
 clear BR KC
 go_upto_region 3 with (first|(go_at_call 49;refine (spec_l5Cur_layout.calls k gc code 0 0 n l c'.1 c'.2 w _ HI.out BC.out HLAY.out).mono ?_;rintro e w1 ⟨v1,rfl,ho,hi,hb,hk⟩;obtain ⟨A1,c1,rfl⟩:=Kd.R_slice ho;have HI0:=HI;have HO:=Aside0.mk (Kd.R_lower ho BC.out.size);have KR:=Aside0.mk (hk.blk KR.out (fun e=>HI0.out.ne_blk KR.out (by decide) e.symm) (by simp));have BC:=Aside0.mk hb;have HI:=Aside0.mk hi;clear ho hi hb hk HI0)|((with_reducible refine gate_dst (N:=7) rfl ?_);refine box_event ?hg (N:=7) ?hd (cs:=#[.int .i64 0,.slice none 0 0]) (t:=31) ?hr ?_;(case hd=>rfl);(case hg=>rfl);(case hr=>first|(go_simp;done)|(go_simp;rfl));intro gl el wl kl bl;have KL:=Aside0.mk kl;have GL:=Aside0.mk el;have BL:=Aside0.mk bl;clear kl bl el;have kl0:wl.cell? ⟨gl,0,none⟩=some (.int .i64 0):=(blk_cell KL.out 0).trans rfl;have kl1:wl.cell? ⟨gl,1,none⟩=some (.slice none 0 0):=(blk_cell KL.out 1).trans rfl;have zkl0:=blk_frozen KL.out 0;have zkl1:=blk_frozen KL.out 1))
 have NE:=Aside0.mk (show gl ≠ gr from fun e=>by have h:=blk_lt KR.out;have:=GL.out;omega)
 have FX:=Aside0.mk (show Below w1.heap.size w1 ((wl.setCell ⟨gl,0,none⟩ (.int .i64 n)).setCell ⟨gl,1,none⟩ (.slice A1 l.length c1))∧((wl.setCell ⟨gl,0,none⟩ (.int .i64 n)).setCell ⟨gl,1,none⟩ (.slice A1 l.length c1)).heap[gl]?=some (.cells #[.int .i64 n,.slice A1 l.length c1] 31 (0,0)) from ⟨below_set (j:=1) (below_set (j:=0) BL.out (Nat.le_of_eq GL.out.symm)) (Nat.le_of_eq GL.out.symm),blk_put (blk_put KL.out 0 (.int .i64 n) rfl) 1 (.slice A1 l.length c1) rfl⟩)
 clear kl0 kl1 zkl0 zkl1 KL BL GL
 generalize ((wl.setCell ⟨gl,0,none⟩ (.int .i64 n)).setCell ⟨gl,1,none⟩ (.slice A1 l.length c1))=w2 at FX ⊢
 have HS:=Aside0.mk (DrSt.mk (W:=w2) (gr:=gr) (gl:=gl) (gc:=gc) (code:=code) (c:=c') (n:=n) (A1:=A1) (c1:=c1) (l:=l) (HI.out.below FX.out.1) (below_step BC.out FX.out.1) (blk_below KR.out FX.out.1) FX.out.2 GR.out NE.out (Kd.R_below HO.out FX.out.1))
 clear HI BC KR FX HO
 have HS:=Aside0.mk (HS.out.call (W':=w2.drew) (c':=c') HS.out.cur.drew (below_drew1 HS.out.below) (keep_drew (KeepBut.refl _ _ _)))
 have e0:w2.drew.cell? ⟨gl,0,none⟩=some (.int .i64 n):=(blk_cell HS.out.lay 0).trans rfl
 have e1:w2.drew.cell? ⟨gl,1,none⟩=some (.slice A1 l.length c1):=(blk_cell HS.out.lay 1).trans rfl
 have z0:=blk_frozen HS.out.res 0
 have z1:=blk_frozen HS.out.res 1
 have y0:w2.drew.cell? ⟨gr,0,none⟩=some (.int .i64 0):=(blk_cell HS.out.res 0).trans rfl
 have y1:w2.drew.cell? ⟨gr,1,none⟩=some (.slice none 0 0):=(blk_cell HS.out.res 1).trans rfl
 have n1:=NE.out
 go_region_with (go_at_call 50;refine (events_is gc code c' n A1 c1 l honest 50 w _ HC.out (by decide) HS.out.cur HS.out.below HS.out.reads (Kd.R_reads' HS.out.o).2.1 HLO.out).mono ?_;rintro e w3 ⟨v2,rfl,ho,hc3,hi,hb,hk⟩;have HO2:=Aside0.mk (Kd.R_lower ho HS.out.below.size);have HS:=Aside0.mk (HS.out.call (c':=(evDraw code n l honest c').c) hi hb hk);clear ho hc3 hi hb hk e0 e1 y0 y1 z0 z1;have e0:w3.cell? ⟨gl,0,none⟩=some (.int .i64 n):=(blk_cell HS.out.lay 0).trans rfl;have e1:w3.cell? ⟨gl,1,none⟩=some (.slice A1 l.length c1):=(blk_cell HS.out.lay 1).trans rfl;have z0:=blk_frozen HS.out.res 0;have z1:=blk_frozen HS.out.res 1;have y0:w3.cell? ⟨gr,0,none⟩=some (.int .i64 0):=(blk_cell HS.out.res 0).trans rfl;have y1:w3.cell? ⟨gr,1,none⟩=some (.slice none 0 0):=(blk_cell HS.out.res 1).trans rfl)
 all_goals
  go_wp2_with fail
  refine bodyPost_ret (results_ct rfl _ _ gr 31 #[.int .i64 n,.slice A1 l.length c1] (0,0) _ rfl HS.out.fin Tryd.underlying31 rfl (by kernel_rfl)) rfl ?_
  refine ⟨A1,c1,v2,rfl,HS.out.finR HS.out.o (by decide),?_,HS.out.finB⟩
  rw [← HF.out]
  exact HS.out.finR HO2.out (by decide)
end Go.Proofs.YtpdnabhpkdchjaaDoor.P
namespace Go.Proofs.YtpdnabhpkdchjaaDoor.P
open Go Go.RowKit Go.Proofs.YtpdnabhpkdchjaaDoorW.PrintWords Go.Proofs.YtpdnabhpkdchjaaDoorW.PrintLast Go.Proofs.YtpdnabhpkdchjaaDoorW.PrintMore
set_option linter.unusedVariables false
set_option linter.unusedSimpArgs false
theorem builder_nx {B b:Nat} {bs:List Value} {w w':World} (h:Lib.IsBuilder 61 5 B b bs w) (hb:Below w.heap.size w w'):Lib.IsBuilder 61 5 B b bs w':=by
 rcases h with ⟨h0,v,h1,h2,h3⟩|⟨h0,v,h1,h2,h3⟩
 ·exact .inl ⟨h0,v,blk_below h1 hb,pw_own_below h2 hb,h3⟩
 exact .inr ⟨h0,v,blk_below h1 hb,pw_own_below h2 hb,h3⟩
theorem below_stepB {B:Nat} {w W w2:World} (h:Below B w W) (k:Below B W w2):Below B w w2 :=
 ⟨k.os.trans h.os,k.tape.trans h.tape,k.output.trans h.output,Nat.le_trans h.size k.size,fun i hi=>(k.block i hi).trans (h.block i hi)⟩
theorem write_none {n:Int} {l:List S98} {es:List S52} (h:¬ (layoutOk n l=0∧es.length≤2000∧evsOk n l es=true∧(textB es).length≤20000)):(⟨(writeE n l es).toArray⟩:ByteArray)=⟨#[]⟩:=by
 rw [writeE,if_neg h]
theorem write_all {n:Int} {l:List S98} {es:List S52} (h:layoutOk n l=0∧es.length≤2000∧evsOk n l es=true∧(textB es).length≤20000):writeE n l es=textB es:=by
 rw [writeE,if_pos h]
theorem fill3e {w w':World} {g t:Nat} {x0 x1 x2 y0 y1 y2:Value} (hx:w'.heap[g]?=some (.cells #[x0,x1,x2] t (0,0))) (hb:Below w.heap.size w w') (hg:w.heap.size≤g) :
  Below w.heap.size w (((w'.setCell ⟨g,0,none⟩ y0).setCell ⟨g,1,none⟩ y1).setCell ⟨g,2,none⟩ y2)∧(((w'.setCell ⟨g,0,none⟩ y0).setCell ⟨g,1,none⟩ y1).setCell ⟨g,2,none⟩ y2).heap[g]?=some (.cells #[y0,y1,y2] t (0,0)) :=
 ⟨below_set (j:=2) (v:=y2) (below_set (j:=1) (v:=y1) (below_set (j:=0) (v:=y0) hb hg) hg) hg,blk_put (blk_put (blk_put hx 0 y0 rfl) 1 y1 rfl) 2 y2 rfl⟩
set_option maxHeartbeats 8000000 in
set_option maxRecDepth 100000 in
theorem iwrite_is {T:Addr} {tc:Nat} (n:Int) (A:Option Addr) (c:Nat) (l:List S98) (A1:Option Addr) (c1:Nat) (es:List S52) (w:World) (hr:Kd.C k98 w A l.length l) (hc:l.length≤c) (hr1:Kd.C k52 w A1 es.length es) (hc1:es.length≤c1) (hT:Tabs T tc w) :
  Calls Tryd.prog 12 #[.agg #[.int .i64 n,.slice A l.length c],.slice A1 es.length c1] w fun e w'=>e=.returned (.string ⟨(writeE n l es).toArray⟩)∧Below w.heap.size w w':=by
 have HR:=Aside0.mk hr
 have HR1:=Aside0.mk hr1
 have HC:=Aside0.mk hc
 have HT:=Aside0.mk hT
 clear hr hr1 hc hT
 by_cases hl:layoutOk n l=0
 ·by_cases he:es.length≤2000
  ·have he1:decide (2000<(es.length:Int))=false:=decide_eq_false (by omega)
   have HL:=Aside0.mk hl
   have HE:=Aside0.mk he
   clear hc1
   go_enter Tryd.func12,Tryd.ntmps12
   go_upto_region 1 with ((with_reducible refine gate_dst (N:=2) rfl ?_);refine box_event ?hg (N:=2) ?hd (cs:=#[.int .i64 n,.slice A l.length c]) (t:=31) ?hr ?_;(case hd=>rfl);(case hg=>rfl);(case hr=>first|(go_simp;done)|(go_simp;rfl));intro gl el wl kl bl;have EL:=Aside0.mk el;have KL:=Aside0.mk kl;have BL:=Aside0.mk bl;clear el kl bl;have kl0:wl.cell? ⟨gl,0,none⟩=some (.int .i64 n):=(blk_cell KL.out 0).trans rfl;have zkl0:=blk_frozen KL.out 0;have kl1:wl.cell? ⟨gl,1,none⟩=some (.slice A l.length c):=(blk_cell KL.out 1).trans rfl;have zkl1:=blk_frozen KL.out 1)
   go_upto_region 3 with (go_at_call 30;refine (lay_at HL.out (Kd.C_below HR.out BL.out) HC.out).mono ?_;rintro e w1 ⟨rfl,hb⟩;have KL:=Aside0.mk (blk_below KL.out hb);have B1:=Aside0.mk (below_step BL.out hb);clear hb)
   clear kl0 zkl0 kl1 zkl1 he1
   have HT:=Aside0.mk (HT.out.nx B1.out)
   have HR:=Aside0.mk (Kd.C_below HR.out B1.out)
   have HR1:=Aside0.mk (Kd.C_below HR1.out B1.out)
   go_upto_region 4 with ((with_reducible refine gate_dst (N:=5) rfl ?_);refine box_event ?hg (N:=5) ?hd (cs:=#[.pointer none,.slice none 0 0]) (t:=61) ?hr ?_;(case hd=>rfl);(case hg=>rfl);(case hr=>first|(go_simp;done)|(go_simp;rfl));intro gb eb w2 kb bb;have HB:=Aside0.mk bb;have HI:=Aside0.mk (show Lib.IsBuilder 61 5 w1.heap.size gb (Lib.byteCells (textB (es.take 0))) w2 from .inl ⟨by rw [eb];exact Nat.le_refl _,_,kb,World.ownsRow_nil _ _ _ _,by simp [Value.ownBlock]⟩);clear eb kb bb)
   go_wp2_with fail
   clear hl
   go_loopg [18] es.length (fun kq v18 w'=>∃ i:Nat,v18=.int .i64 (i:Int)∧Aside0 (i+kq=es.length)∧Aside0 (evsOk n l (es.take i)=true)∧Aside0 (Lib.IsBuilder 61 5 w1.heap.size gb (Lib.byteCells (textB (es.take i))) w')∧Aside0 (Below w1.heap.size w1 w'))
   case atStart=>exact ⟨0,rfl,⟨by omega⟩,⟨by simp [evsOk]⟩,HI,HB⟩
   case round =>
    clear HI HB
    obtain ⟨i,rfl,HX,HO,HI,HB⟩:=hrel
    by_cases hit:i<es.length
    ·obtain ⟨go1,rfl⟩:∃ g,gk=g+1:=⟨gk - 1,by have:=HX.out;omega⟩
     have hit':decide ((i:Int)<(es.length:Int))=true:=decide_eq_true (by omega)
     have r0:(0:Int)≤(i:Int):=by omega
     have r1:(i:Int)<(es.length:Int):=by omega
     obtain ⟨ad,e,x0,x1,x2⟩:=at_T52 HR1.out (i:Int) r0 r1
     subst e
     rw [Int.toNat_natCast] at x0 x1 x2
     have EQ:=Aside0.mk (rd52 es i hit)
     have HIT:=Aside0.mk hit
     rw [rd52 es i hit] at x0 x1 x2
     obtain ⟨ev,hev⟩:∃ ev,ev=es[i]:=⟨_,rfl⟩
     have SN:=Aside0.mk (textB_snoc es i hit)
     have TK:=Aside0.mk (evsOk_take (n:=n) (l:=l) i hit)
     rw [← hev] at x0 x1 x2 SN TK
     have W3:=Aside0.mk (show wrap64 ((i:Int)+1)=((i+1:Nat):Int) from (wrap_id (by omega) (by have:=HE.out;omega)).trans (by omega))
     have NX:=Aside0.mk (show i+1+go1=es.length by have:=HX.out;omega)
     have EV:=Aside0.mk hev
     replace x0:=pw_cell_below HB.out x0
     replace x1:=pw_cell_below HB.out x1
     replace x2:=pw_cell_below HB.out x2
     clear hev
     go_upto_region 7 with ((with_reducible refine gate_dst (N:=7) rfl ?_);refine box_event ?hg (N:=7) ?hd (cs:=#[.int .i64 0,.int .i64 0,.int .i64 0]) (t:=52) ?hr ?_;(case hd=>rfl);(case hg=>rfl);(case hr=>first|(go_simp;done)|(go_simp;rfl));intro ge ee we ke be;have EE:=Aside0.mk ee;have KE:=Aside0.mk ke;have BE:=Aside0.mk be;clear ee ke be;have ke0:we.cell? ⟨ge,0,none⟩=some (.int .i64 0):=(blk_cell KE.out 0).trans rfl;have zke0:=blk_frozen KE.out 0;have ke1:we.cell? ⟨ge,1,none⟩=some (.int .i64 0):=(blk_cell KE.out 1).trans rfl;have zke1:=blk_frozen KE.out 1;have ke2:we.cell? ⟨ge,2,none⟩=some (.int .i64 0):=(blk_cell KE.out 2).trans rfl;have zke2:=blk_frozen KE.out 2)
     have FX:=Aside0.mk (fill3e (y0:=.int .i64 ev.f0) (y1:=.int .i64 ev.f1) (y2:=.int .i64 ev.f2) KE.out BE.out (Nat.le_of_eq EE.out.symm))
     clear ke0 zke0 ke1 zke1 ke2 zke2 KE BE EE x0 x1 x2
     generalize (((we.setCell ⟨ge,0,none⟩ (.int .i64 ev.f0)).setCell ⟨ge,1,none⟩ (.int .i64 ev.f1)).setCell ⟨ge,2,none⟩ (.int .i64 ev.f2))=w4 at FX ⊢
     have HI:=Aside0.mk (builder_nx HI.out FX.out.1)
     have HB:=Aside0.mk (below_step HB.out FX.out.1)
     have KE:=Aside0.mk FX.out.2
     have KL:=Aside0.mk (blk_below KL.out HB.out)
     clear FX
     have kl0:w4.cell? ⟨gl,0,none⟩=some (.int .i64 n):=(blk_cell KL.out 0).trans rfl;have kl1:w4.cell? ⟨gl,1,none⟩=some (.slice A l.length c):=(blk_cell KL.out 1).trans rfl
     have ke0:w4.cell? ⟨ge,0,none⟩=some (.int .i64 ev.f0):=(blk_cell KE.out 0).trans rfl
     have ke1:w4.cell? ⟨ge,1,none⟩=some (.int .i64 ev.f1):=(blk_cell KE.out 1).trans rfl
     have ke2:w4.cell? ⟨ge,2,none⟩=some (.int .i64 ev.f2):=(blk_cell KE.out 2).trans rfl
     by_cases hok:eventOk n l ev.f0 ev.f1 ev.f2=true
     ·go_upto_region 9 with (go_at_call 31;refine (ev_at _ _ _ hok (Kd.C_below HR.out HB.out) HC.out).mono ?_;rintro e w5 ⟨rfl,hb⟩;have HI:=Aside0.mk (builder_nx HI.out hb);have HB:=Aside0.mk (below_step HB.out hb);have KE:=Aside0.mk (blk_below KE.out hb);clear hb)
      have hp:=Aside0.mk (ev_parts hok)
      have TK2:=Aside0.mk (show evsOk n l (es.take (i+1))=true by rw [TK.out,HO.out,hok];rfl)
      clear kl0 kl1 ke0 ke1 ke2 hok
      have ke0:w5.cell? ⟨ge,0,none⟩=some (.int .i64 ev.f0):=(blk_cell KE.out 0).trans rfl
      have ke1:w5.cell? ⟨ge,1,none⟩=some (.int .i64 ev.f1):=(blk_cell KE.out 1).trans rfl
      have ke2:w5.cell? ⟨ge,2,none⟩=some (.int .i64 ev.f2):=(blk_cell KE.out 2).trans rfl
      go_upto_region 10 with (first|(go_at_call 33;refine (line_is (by have:=hp.out;omega) (by have:=hp.out;omega) (by have:=hp.out;omega) (by have:=hp.out;omega) (HT.out.nx HB.out)).mono ?_;rintro e w6 ⟨rfl,hb⟩;have HI:=Aside0.mk (builder_nx HI.out hb);have HB:=Aside0.mk (below_step HB.out hb);clear hb ke0 ke1 ke2)|(go_at_call 32;refine (Tryd.Builder_WriteString _ _ _ _ _ HI.out (by have h1:=textB_len HO.out;have h2:=digits_len ev.f1.toNat;have h3:=evB_len (n:=n) (l:=l) (e:=ev) (by have:=TK2.out;rw [TK.out,HO.out] at this;exact this);have h4:=HE.out;have h5:(es.take i).length≤es.length:=List.length_take_le' i es;rw [Lib.byteCells_length];show (textB (es.take i)).length+(evB ev).length≤_;omega) HB.out.size).mono ?_;rintro e w7 ⟨rfl,hba,hb⟩;have HI:=Aside0.mk (show Lib.IsBuilder 61 5 w1.heap.size gb (Lib.byteCells (textB (es.take (i+1)))) w7 from by rw [SN.out];have:=hba;rw [Lib.strCells_toArray] at this;unfold Lib.byteCells at this ⊢;rw [List.map_append];exact .inr this);have HB:=Aside0.mk (below_stepB HB.out hb);clear hba hb))
      go_wp2_with fail
      go_roundg go1
      case measure=>omega
      case rel=>exact ⟨i+1,by first|rfl|exact congrArg (Value.int .i64) W3.out,NX,TK2,HI,HB⟩
     have hok':eventOk n l ev.f0 ev.f1 ev.f2=false:=by simpa using hok
     have HW:=Aside0.mk (write_none (n:=n) (l:=l) (es:=es) (fun h=>by
      have h1:=h.2.2.1
      rw [evsOk,List.all_eq_true] at h1
      have h2:=h1 _ (List.getElem_mem HIT.out)
      rw [← EV.out,hok'] at h2
      cases h2))
     go_wp2_with (go_at_call 31;refine (ev_at _ _ _ hok' (Kd.C_below HR.out HB.out) HC.out).mono ?_;rintro e w5 ⟨rfl,hb⟩;have HB:=Aside0.mk (below_step HB.out hb);clear hb)
     go_ret
     exact ⟨by rw [HW.out];rfl,below_step B1.out HB.out⟩
    have hit':decide ((i:Int)<(es.length:Int))=false:=decide_eq_false (by omega)
    have hi:i=es.length:=by have:=HX.out;omega
    have HO2:=Aside0.mk (show evsOk n l es=true by have:=HO.out;rw [hi,List.take_length] at this;exact this)
    have HI2:=Aside0.mk (show Lib.IsBuilder 61 5 w1.heap.size gb (Lib.byteCells (textB es)) wr by have:=HI.out;rw [hi,List.take_length] at this;exact this)
    have LN:=Aside0.mk (show (Lib.byteCells (textB es)).length=(textB es).length from Lib.byteCells_length _)
    clear hi
    by_cases hbig:(textB es).length≤20000
    ·have hb1:decide (20000<((textB es).length:Int))=false:=decide_eq_false (by omega)
     have HW:=Aside0.mk (write_all (n:=n) (l:=l) (es:=es) ⟨HL.out,HE.out,HO2.out,hbig⟩)
     have HBG:=Aside0.mk hbig
     go_wp2_with (first|(go_at_call 34;refine (Tryd.Builder_Len _ _ _ _ HI2.out).mono ?_;rintro e w8 ⟨rfl,rfl⟩;rw [LN.out])|(go_at_call 35;refine (Tryd.Builder_String_any _ _ _ _ HI2.out HB.out.size).mono ?_;rintro e w9 ⟨rfl,hb⟩;have HB:=Aside0.mk (below_stepB HB.out hb);clear hb))
     go_ret
     exact ⟨by rw [HW.out];rfl,below_step B1.out HB.out⟩
    have hb1:decide (20000<((textB es).length:Int))=true:=decide_eq_true (by omega)
    have HW:=Aside0.mk (write_none (n:=n) (l:=l) (es:=es) (fun h=>hbig h.2.2.2))
    go_wp2_with (go_at_call 34;refine (Tryd.Builder_Len _ _ _ _ HI2.out).mono ?_;rintro e w8 ⟨rfl,rfl⟩;rw [LN.out])
    go_ret
    exact ⟨by rw [HW.out];rfl,below_step B1.out HB.out⟩
  have he1:decide (2000<(es.length:Int))=true:=decide_eq_true (by omega)
  have HL:=Aside0.mk hl
  have HW:=Aside0.mk (write_none (n:=n) (l:=l) (es:=es) (fun h=>he h.2.1))
  clear hl he
  go_enter Tryd.func12,Tryd.ntmps12
  go_upto_region 1 with ((with_reducible refine gate_dst (N:=2) rfl ?_);refine box_event ?hg (N:=2) ?hd (cs:=#[.int .i64 n,.slice A l.length c]) (t:=31) ?hr ?_;(case hd=>rfl);(case hg=>rfl);(case hr=>first|(go_simp;done)|(go_simp;rfl));intro gl el wl kl bl;have EL:=Aside0.mk el;have KL:=Aside0.mk kl;have BL:=Aside0.mk bl;clear el kl bl;have kl0:wl.cell? ⟨gl,0,none⟩=some (.int .i64 n):=(blk_cell KL.out 0).trans rfl;have zkl0:=blk_frozen KL.out 0;have kl1:wl.cell? ⟨gl,1,none⟩=some (.slice A l.length c):=(blk_cell KL.out 1).trans rfl;have zkl1:=blk_frozen KL.out 1)
  go_wp2_with (go_at_call 30;refine (lay_at HL.out (Kd.C_below HR.out BL.out) HC.out).mono ?_;rintro e w1 ⟨rfl,hb⟩;have B1:=Aside0.mk (below_step BL.out hb);clear hb)
  go_ret
  exact ⟨by rw [HW.out];rfl,B1.out⟩
 have HW:=Aside0.mk (write_none (n:=n) (l:=l) (es:=es) (fun h=>hl h.1))
 obtain ⟨q,hq⟩:∃ q,layoutOk n l=q:=⟨_,rfl⟩
 have HQ:=Aside0.mk hq
 rw [hq] at hl
 have hl1:(q != 0)=true:=by simp [hl]
 go_enter Tryd.func12,Tryd.ntmps12
 go_upto_region 1 with ((with_reducible refine gate_dst (N:=2) rfl ?_);refine box_event ?hg (N:=2) ?hd (cs:=#[.int .i64 n,.slice A l.length c]) (t:=31) ?hr ?_;(case hd=>rfl);(case hg=>rfl);(case hr=>first|(go_simp;done)|(go_simp;rfl));intro gl el wl kl bl;have EL:=Aside0.mk el;have KL:=Aside0.mk kl;have BL:=Aside0.mk bl;clear el kl bl;have kl0:wl.cell? ⟨gl,0,none⟩=some (.int .i64 n):=(blk_cell KL.out 0).trans rfl;have zkl0:=blk_frozen KL.out 0;have kl1:wl.cell? ⟨gl,1,none⟩=some (.slice A l.length c):=(blk_cell KL.out 1).trans rfl;have zkl1:=blk_frozen KL.out 1)
 go_wp2_with (go_at_call 30;refine (lay_at HQ.out (Kd.C_below HR.out BL.out) HC.out).mono ?_;rintro e w1 ⟨rfl,hb⟩;have B1:=Aside0.mk (below_step BL.out hb);clear hb)
 go_ret
 exact ⟨by rw [HW.out];rfl,B1.out⟩
end Go.Proofs.YtpdnabhpkdchjaaDoor.P
namespace Go.Proofs.YtpdnabhpkdchjaaDoor.P
open Go.RowKit Go.Proofs.YtpdnabhpkdchjaaDoorW.PrintWords Go.Proofs.YtpdnabhpkdchjaaDoorW.PrintLast Go.Proofs.YtpdnabhpkdchjaaDoorW.PrintMore
attribute [local go_sem] max2_int min2_int max_two min_two max_three min_three max_four min_four
set_option linter.unusedVariables false
set_option linter.unusedSimpArgs false
def spec_l4words.f :Option (List ByteArray):=some (([(⟨#[]⟩:ByteArray),(⟨#[112,97,115,115]⟩:ByteArray),(⟨#[103,104,111,115,116]⟩:ByteArray),(⟨#[100,101,97,100]⟩:ByteArray),(⟨#[97,108,105,118,101]⟩:ByteArray),(⟨#[114,101,115,101,116]⟩:ByteArray)]:List ByteArray))
set_option maxHeartbeats 8000000 in
set_option maxRecDepth 100000 in
theorem spec_l4words.calls  (r:List ByteArray) (w:World) (h:spec_l4words.f =some r) :
  Calls Tryd.prog 52 #[] w fun e w'=>∃ v0_:Value,e=.returned (v0_)∧Kd.R Kd.string 9 w' w.heap.size (fun _=>True) v0_ r∧Below w.heap.size w w':=by
 have HB:=Aside0.mk (Below.refl w.heap.size w)
 have H:(some (([(⟨#[]⟩:ByteArray),(⟨#[112,97,115,115]⟩:ByteArray),(⟨#[103,104,111,115,116]⟩:ByteArray),(⟨#[100,101,97,100]⟩:ByteArray),(⟨#[97,108,105,118,101]⟩:ByteArray),(⟨#[114,101,115,101,116]⟩:ByteArray)]:List ByteArray)))=some r:=h
 clear h
 obtain ⟨y116,hy116⟩:∃ y_:List ByteArray,y_=(([(⟨#[]⟩:ByteArray),(⟨#[112,97,115,115]⟩:ByteArray),(⟨#[103,104,111,115,116]⟩:ByteArray),(⟨#[100,101,97,100]⟩:ByteArray),(⟨#[97,108,105,118,101]⟩:ByteArray),(⟨#[114,101,115,101,116]⟩:ByteArray)]:List ByteArray)):=⟨_,rfl⟩
 replace H:(some y116)=some r:=by first|(rw [hy116];with_reducible exact H)|(have H2_:=(Option.bind_some _ _).symm.trans H;rw [hy116];with_reducible exact H2_)|(have H2_:=(Option.bind_some _ _).symm.trans H;with_reducible exact H2_)|with_reducible exact H|(rw [hy116];exact H)|exact H
 have Ny116:=Aside0.mk hy116
 clear hy116
 obtain rfl:=Option.some.inj H
 go_enter Tryd.func52,Tryd.ntmps52
 go_wp2_with (first|((with_reducible refine gate_dst (N:=1) rfl ?_);refine Kd.R_lit Kd.string _ 9 ?hg (N:=1) ?hd (xs:=([(⟨#[]⟩:ByteArray),(⟨#[112,97,115,115]⟩:ByteArray),(⟨#[103,104,111,115,116]⟩:ByteArray),(⟨#[100,101,97,100]⟩:ByteArray),(⟨#[97,108,105,118,101]⟩:ByteArray),(⟨#[114,101,115,101,116]⟩:ByteArray)]:List ByteArray)) (inner:=[.string (⟨#[]⟩:ByteArray),.string (⟨#[112,97,115,115]⟩:ByteArray),.string (⟨#[103,104,111,115,116]⟩:ByteArray),.string (⟨#[100,101,97,100]⟩:ByteArray),.string (⟨#[97,108,105,118,101]⟩:ByteArray),.string (⟨#[114,101,115,101,116]⟩:ByteArray)]) (ok:=fun _=>True) (okp:=fun _=>True) ?hr ?hp (fun _ hk=>hk) trivial (Below.refl _ _) (Nat.le_refl _) (by simp) ?_;(case hd=>rfl);(case hg=>rfl);(case hr=>first|(go_simp;done)|(go_simp;rfl));(case hp=>exact (Reps.one (show Kd.M Kd.string _ _ _ (⟨#[]⟩:ByteArray) [.string (⟨#[]⟩:ByteArray)] from rfl) (Reps.one (show Kd.M Kd.string _ _ _ (⟨#[112,97,115,115]⟩:ByteArray) [.string (⟨#[112,97,115,115]⟩:ByteArray)] from rfl) (Reps.one (show Kd.M Kd.string _ _ _ (⟨#[103,104,111,115,116]⟩:ByteArray) [.string (⟨#[103,104,111,115,116]⟩:ByteArray)] from rfl) (Reps.one (show Kd.M Kd.string _ _ _ (⟨#[100,101,97,100]⟩:ByteArray) [.string (⟨#[100,101,97,100]⟩:ByteArray)] from rfl) (Reps.one (show Kd.M Kd.string _ _ _ (⟨#[97,108,105,118,101]⟩:ByteArray) [.string (⟨#[97,108,105,118,101]⟩:ByteArray)] from rfl) (Reps.one (show Kd.M Kd.string _ _ _ (⟨#[114,101,115,101,116]⟩:ByteArray) [.string (⟨#[114,101,115,101,116]⟩:ByteArray)] from rfl) (Reps.none _ _))))))));intro v117 w1 ho2 hb hg_ hnew_;clear hg_ hnew_;(first|rw [← Ny116.out] at ho2|(simp only [Int.reduceToNat] at ho2;rw [← Ny116.out] at ho2));have n0_:=Aside0.mk (Kd.R_lower ho2 (below_size (by repeat (first|(with_reducible first|exact HB.out|apply below_alloc|apply pw_below_drewN|apply below_drew1)|exact HB.out))));have n1_:=Aside0.mk (below_step (by repeat (first|(with_reducible first|exact HB.out|apply below_alloc|apply pw_below_drewN|apply below_drew1)|exact HB.out)) hb);clear HB;have HO118:=n0_;have HB:=n1_;clear n0_ n1_;clear hb ho2))
 go_ret
 exact ⟨_,by first|rfl|(simp [errW_none,errW_some] <;> rfl)|(simp [*,errW_none,errW_some] <;> rfl),by (with_reducible repeat (first|apply Kd.R_alloc|apply Kd.R_drewN|apply Kd.R_drew));exact HO118.out,by repeat (first|(with_reducible first|exact HB.out|apply below_alloc|apply pw_below_drewN|apply below_drew1)|exact HB.out)⟩
end Go.Proofs.YtpdnabhpkdchjaaDoor.P
namespace Go.Proofs.YtpdnabhpkdchjaaDoor.P
open Go.RowKit Go.Proofs.YtpdnabhpkdchjaaDoorW.PrintWords Go.Proofs.YtpdnabhpkdchjaaDoorW.PrintLast Go.Proofs.YtpdnabhpkdchjaaDoorW.PrintMore
attribute [local go_sem] max2_int min2_int max_two min_two max_three min_three max_four min_four
set_option linter.unusedVariables false
set_option linter.unusedSimpArgs false
def spec_l4line.f (a0_0:Int) (a0_1:Int) (a0_2:Int):Option (ByteArray):=(spec_l4words.f).bind fun t120=>(if 0≤a0_0 then (if a0_0<(t120.length:Int) then (if (rdOf ByteArray.empty t120 a0_0).size+1≤9223372036854775807 then ((spec_l4decimal.f a0_1).bind fun t124=>(if ((rdOf ByteArray.empty t120 a0_0) ++ (⟨#[32]⟩:ByteArray)).size+t124.size≤9223372036854775807 then (if a0_2 > 0 then (if (((rdOf ByteArray.empty t120 a0_0) ++ (⟨#[32]⟩:ByteArray)) ++ t124).size+2≤9223372036854775807 then (if a0_2<0 then (if ((((rdOf ByteArray.empty t120 a0_0) ++ (⟨#[32]⟩:ByteArray)) ++ t124) ++ (⟨#[32,43]⟩:ByteArray)).size+2≤9223372036854775807 then (some (((((rdOf ByteArray.empty t120 a0_0) ++ (⟨#[32]⟩:ByteArray)) ++ t124) ++ (⟨#[32,43]⟩:ByteArray)) ++ (⟨#[32,45]⟩:ByteArray))) else (none)) else (some ((((rdOf ByteArray.empty t120 a0_0) ++ (⟨#[32]⟩:ByteArray)) ++ t124) ++ (⟨#[32,43]⟩:ByteArray)))) else (none)) else (if a0_2<0 then (if (((rdOf ByteArray.empty t120 a0_0) ++ (⟨#[32]⟩:ByteArray)) ++ t124).size+2≤9223372036854775807 then (some ((((rdOf ByteArray.empty t120 a0_0) ++ (⟨#[32]⟩:ByteArray)) ++ t124) ++ (⟨#[32,45]⟩:ByteArray))) else (none)) else (some (((rdOf ByteArray.empty t120 a0_0) ++ (⟨#[32]⟩:ByteArray)) ++ t124)))) else (none))) else (none)) else (none)) else (none))
def spec_l4line.T2:Bool × List (List Nat × List Nat):=(true,[([],[]),([],[]),([1],[1]),([0,2],[0,2]),([3],[3]),([4],[4]),([],[]),([6],[6]),([7],[7]),([5,8],[5,8]),([9,8,0,1,2,3,4,5,6,7,8,9],[9])])
def spec_l4line.B2:List Nat:=[0,0,2,7,15,31,0,64,192,511,1023]
theorem spec_l4line.tab2:rtab .any (opsOf Tryd.f27 2)=spec_l4line.T2:=by kernel_rfl
theorem spec_l4line.bits2:waitsOk spec_l4line.T2.2 spec_l4line.B2=true:=by kernel_rfl
set_option maxHeartbeats 8000000 in
set_option maxRecDepth 100000 in
theorem spec_l4line.calls (a0_0:Int) (a0_1:Int) (a0_2:Int) (r:ByteArray) (w:World) (h:spec_l4line.f a0_0 a0_1 a0_2=some r) :
  Calls Tryd.prog 27 #[.agg #[.int .i64 a0_0,.int .i64 a0_1,.int .i64 a0_2]] w fun e w'=>e=.returned (.string r)∧Below w.heap.size w w':=by
 have hu52:=Tryd.underlying52
 have HB:=Aside0.mk (Below.refl w.heap.size w)
 have H:((spec_l4words.f).bind fun t120=>(if 0≤a0_0 then (if a0_0<(t120.length:Int) then (if (rdOf ByteArray.empty t120 a0_0).size+1≤9223372036854775807 then ((spec_l4decimal.f a0_1).bind fun t124=>(if ((rdOf ByteArray.empty t120 a0_0) ++ (⟨#[32]⟩:ByteArray)).size+t124.size≤9223372036854775807 then (if a0_2 > 0 then (if (((rdOf ByteArray.empty t120 a0_0) ++ (⟨#[32]⟩:ByteArray)) ++ t124).size+2≤9223372036854775807 then (if a0_2<0 then (if ((((rdOf ByteArray.empty t120 a0_0) ++ (⟨#[32]⟩:ByteArray)) ++ t124) ++ (⟨#[32,43]⟩:ByteArray)).size+2≤9223372036854775807 then (some (((((rdOf ByteArray.empty t120 a0_0) ++ (⟨#[32]⟩:ByteArray)) ++ t124) ++ (⟨#[32,43]⟩:ByteArray)) ++ (⟨#[32,45]⟩:ByteArray))) else (none)) else (some ((((rdOf ByteArray.empty t120 a0_0) ++ (⟨#[32]⟩:ByteArray)) ++ t124) ++ (⟨#[32,43]⟩:ByteArray)))) else (none)) else (if a0_2<0 then (if (((rdOf ByteArray.empty t120 a0_0) ++ (⟨#[32]⟩:ByteArray)) ++ t124).size+2≤9223372036854775807 then (some ((((rdOf ByteArray.empty t120 a0_0) ++ (⟨#[32]⟩:ByteArray)) ++ t124) ++ (⟨#[32,45]⟩:ByteArray))) else (none)) else (some (((rdOf ByteArray.empty t120 a0_0) ++ (⟨#[32]⟩:ByteArray)) ++ t124)))) else (none))) else (none)) else (none)) else (none)))=some r:=h
 clear h
 replace H:=Option.bind_eq_some_iff.mp H
 obtain ⟨t120,A20,H⟩:=H
 replace H:(if 0≤a0_0 then (if a0_0<(t120.length:Int) then (if (rdOf ByteArray.empty t120 a0_0).size+1≤9223372036854775807 then ((spec_l4decimal.f a0_1).bind fun t124=>(if ((rdOf ByteArray.empty t120 a0_0) ++ (⟨#[32]⟩:ByteArray)).size+t124.size≤9223372036854775807 then (if a0_2 > 0 then (if (((rdOf ByteArray.empty t120 a0_0) ++ (⟨#[32]⟩:ByteArray)) ++ t124).size+2≤9223372036854775807 then (if a0_2<0 then (if ((((rdOf ByteArray.empty t120 a0_0) ++ (⟨#[32]⟩:ByteArray)) ++ t124) ++ (⟨#[32,43]⟩:ByteArray)).size+2≤9223372036854775807 then (some (((((rdOf ByteArray.empty t120 a0_0) ++ (⟨#[32]⟩:ByteArray)) ++ t124) ++ (⟨#[32,43]⟩:ByteArray)) ++ (⟨#[32,45]⟩:ByteArray))) else (none)) else (some ((((rdOf ByteArray.empty t120 a0_0) ++ (⟨#[32]⟩:ByteArray)) ++ t124) ++ (⟨#[32,43]⟩:ByteArray)))) else (none)) else (if a0_2<0 then (if (((rdOf ByteArray.empty t120 a0_0) ++ (⟨#[32]⟩:ByteArray)) ++ t124).size+2≤9223372036854775807 then (some ((((rdOf ByteArray.empty t120 a0_0) ++ (⟨#[32]⟩:ByteArray)) ++ t124) ++ (⟨#[32,45]⟩:ByteArray))) else (none)) else (some (((rdOf ByteArray.empty t120 a0_0) ++ (⟨#[32]⟩:ByteArray)) ++ t124)))) else (none))) else (none)) else (none)) else (none))=some r:=H
 have A2:=Aside0.mk A20
 clear A20
 by_cases c3:0≤a0_0
 ·rw [if_pos c3] at H
  have c3b0:decide (0≤a0_0)=true:=decide_eq_true c3
  clear c3
  by_cases c4:a0_0<(t120.length:Int)
  ·rw [if_pos c4] at H
   have c4b0:decide (a0_0<(t120.length:Int))=true:=decide_eq_true c4
   clear c4
   by_cases c5:(rdOf ByteArray.empty t120 a0_0).size+1≤9223372036854775807
   ·rw [if_pos c5] at H
    have c5b0:=eq_true c5
    have c5b1:decide ((rdOf ByteArray.empty t120 a0_0).size+1≤9223372036854775807)=true:=decide_eq_true c5
    try have c5b2:(9223372036854775807<(rdOf ByteArray.empty t120 a0_0).size+1)=False:=eq_false (Nat.not_lt.2 c5)
    replace H:=Option.bind_eq_some_iff.mp H
    obtain ⟨t124,A60,H⟩:=H
    replace H:(if ((rdOf ByteArray.empty t120 a0_0) ++ (⟨#[32]⟩:ByteArray)).size+t124.size≤9223372036854775807 then (if a0_2 > 0 then (if (((rdOf ByteArray.empty t120 a0_0) ++ (⟨#[32]⟩:ByteArray)) ++ t124).size+2≤9223372036854775807 then (if a0_2<0 then (if ((((rdOf ByteArray.empty t120 a0_0) ++ (⟨#[32]⟩:ByteArray)) ++ t124) ++ (⟨#[32,43]⟩:ByteArray)).size+2≤9223372036854775807 then (some (((((rdOf ByteArray.empty t120 a0_0) ++ (⟨#[32]⟩:ByteArray)) ++ t124) ++ (⟨#[32,43]⟩:ByteArray)) ++ (⟨#[32,45]⟩:ByteArray))) else (none)) else (some ((((rdOf ByteArray.empty t120 a0_0) ++ (⟨#[32]⟩:ByteArray)) ++ t124) ++ (⟨#[32,43]⟩:ByteArray)))) else (none)) else (if a0_2<0 then (if (((rdOf ByteArray.empty t120 a0_0) ++ (⟨#[32]⟩:ByteArray)) ++ t124).size+2≤9223372036854775807 then (some ((((rdOf ByteArray.empty t120 a0_0) ++ (⟨#[32]⟩:ByteArray)) ++ t124) ++ (⟨#[32,45]⟩:ByteArray))) else (none)) else (some (((rdOf ByteArray.empty t120 a0_0) ++ (⟨#[32]⟩:ByteArray)) ++ t124)))) else (none))=some r:=H
    have A6:=Aside0.mk A60
    clear A60
    by_cases c7:((rdOf ByteArray.empty t120 a0_0) ++ (⟨#[32]⟩:ByteArray)).size+t124.size≤9223372036854775807
    ·rw [if_pos c7] at H
     have c7b0:=eq_true c7
     have c7b1:decide (((rdOf ByteArray.empty t120 a0_0) ++ (⟨#[32]⟩:ByteArray)).size+t124.size≤9223372036854775807)=true:=decide_eq_true c7
     try have c7b2:(9223372036854775807<((rdOf ByteArray.empty t120 a0_0) ++ (⟨#[32]⟩:ByteArray)).size+t124.size)=False:=eq_false (Nat.not_lt.2 c7)
     have c7n0n_1:(rdOf ByteArray.empty t120 a0_0).size+1+t124.size≤9223372036854775807:=by have:=c7;simp only [ByteArray.size_append] at this;exact this
     have c7n0n_2:(9223372036854775807<(rdOf ByteArray.empty t120 a0_0).size+1+t124.size)=False:=eq_false (Nat.not_lt.2 c7n0n_1)
     have c7n0n_3:((rdOf ByteArray.empty t120 a0_0).size+1+t124.size≤9223372036854775807)=True:=eq_true c7n0n_1
     by_cases c8:a0_2 > 0
     ·rw [if_pos c8] at H
      have c8b0:decide (0<a0_2)=true:=decide_eq_true c8
      clear c8
      by_cases c9:(((rdOf ByteArray.empty t120 a0_0) ++ (⟨#[32]⟩:ByteArray)) ++ t124).size+2≤9223372036854775807
      ·rw [if_pos c9] at H
       have c9b0:=eq_true c9
       have c9b1:decide ((((rdOf ByteArray.empty t120 a0_0) ++ (⟨#[32]⟩:ByteArray)) ++ t124).size+2≤9223372036854775807)=true:=decide_eq_true c9
       try have c9b2:(9223372036854775807<(((rdOf ByteArray.empty t120 a0_0) ++ (⟨#[32]⟩:ByteArray)) ++ t124).size+2)=False:=eq_false (Nat.not_lt.2 c9)
       have c9n0n_1:(rdOf ByteArray.empty t120 a0_0).size+1+t124.size+2≤9223372036854775807:=by have:=c9;simp only [ByteArray.size_append] at this;exact this
       have c9n0n_2:(9223372036854775807<(rdOf ByteArray.empty t120 a0_0).size+1+t124.size+2)=False:=eq_false (Nat.not_lt.2 c9n0n_1)
       have c9n0n_3:((rdOf ByteArray.empty t120 a0_0).size+1+t124.size+2≤9223372036854775807)=True:=eq_true c9n0n_1
       by_cases c10:a0_2<0
       ·rw [if_pos c10] at H
        have c10b0:decide (a0_2<0)=true:=decide_eq_true c10
        clear c10
        by_cases c11:((((rdOf ByteArray.empty t120 a0_0) ++ (⟨#[32]⟩:ByteArray)) ++ t124) ++ (⟨#[32,43]⟩:ByteArray)).size+2≤9223372036854775807
        ·rw [if_pos c11] at H
         have c11b0:=eq_true c11
         have c11b1:decide (((((rdOf ByteArray.empty t120 a0_0) ++ (⟨#[32]⟩:ByteArray)) ++ t124) ++ (⟨#[32,43]⟩:ByteArray)).size+2≤9223372036854775807)=true:=decide_eq_true c11
         try have c11b2:(9223372036854775807<((((rdOf ByteArray.empty t120 a0_0) ++ (⟨#[32]⟩:ByteArray)) ++ t124) ++ (⟨#[32,43]⟩:ByteArray)).size+2)=False:=eq_false (Nat.not_lt.2 c11)
         have c11n0n_1:(rdOf ByteArray.empty t120 a0_0).size+1+t124.size+2+2≤9223372036854775807:=by have:=c11;simp only [ByteArray.size_append] at this;exact this
         have c11n0n_2:(9223372036854775807<(rdOf ByteArray.empty t120 a0_0).size+1+t124.size+2+2)=False:=eq_false (Nat.not_lt.2 c11n0n_1)
         have c11n0n_3:((rdOf ByteArray.empty t120 a0_0).size+1+t124.size+2+2≤9223372036854775807)=True:=eq_true c11n0n_1
         have c11n1n_1:(rdOf ByteArray.empty t120 a0_0).size+1+t124.size+4≤9223372036854775807:=by have:=c11;simp only [ByteArray.size_append] at this;exact this
         have c11n1n_2:(9223372036854775807<(rdOf ByteArray.empty t120 a0_0).size+1+t124.size+4)=False:=eq_false (Nat.not_lt.2 c11n1n_1)
         have c11n1n_3:((rdOf ByteArray.empty t120 a0_0).size+1+t124.size+4≤9223372036854775807)=True:=eq_true c11n1n_1
         obtain rfl:=Option.some.inj H
         go_enter Tryd.func27,Tryd.ntmps27
         try go_wp2_with (first|((with_reducible refine gate_dst (N:=1) rfl ?_);refine box_event ?hg (N:=1) ?hd (cs:=#[.int .i64 a0_0,.int .i64 a0_1,.int .i64 a0_2]) (t:=52) ?hr ?_;(case hd=>rfl);(case hg=>rfl);(case hr=>first|(go_simp;done)|(go_simp;rfl));intro gb119 hg w12 hbox hb;have n0_:=Aside0.mk (below_step (by exact HB.out) hb);have n1_:=Aside0.mk (hbox);have n2_:=Aside0.mk ((by rw [hg];exact (below_size (by exact HB.out)):w.heap.size≤gb119));have n3_:=Aside0.mk ((by rw [hg];exact (below_size (by exact HB.out)):w.heap.size≤gb119));clear HB;have HB:=n0_;have BK119:=n1_;have GW119:=n2_;have GE119:=n3_;clear n0_ n1_ n2_ n3_;clear hb hbox hg)|((with_reducible refine gate_callee (f:=52) rfl ?_);refine goesL_ (some 5) rfl rfl Tryd.func52 (by kernel_rfl) rfl #[] rfl (by (try simp only [List.map_toArray,List.map_cons,List.map_nil]);first|done|rfl|(simp only [List.length_drop,List.length_take];rfl)) ?_;(with_reducible refine (spec_l4words.calls  t120 _ A2.out).mono ?_);rintro e w13 ⟨v121,rfl,ho0,hb⟩;refine ⟨_,rfl,?_⟩;have n0_:=Aside0.mk (Kd.R_lower ho0 (below_size (by exact HB.out)));have n1_:=Aside0.mk (blk_below (g:=gb119) (o:=.cells #[.int .i64 a0_0,.int .i64 a0_1,.int .i64 a0_2] 52 (0,0)) (by exact BK119.out) hb);have n2_:=Aside0.mk (below_step (by exact HB.out) hb);clear BK119;clear HB;have HO122:=n0_;have BK119:=n1_;have HB:=n2_;clear n0_ n1_ n2_;(try clear hb);(try clear hb2);(try clear hk);(try clear hi);(try clear ho0)))
         have n0_:=Aside0.mk (Kd.R_drew HO122.out)
         have n1_:=Aside0.mk (blk_drew BK119.out)
         have n2_:=Aside0.mk (below_drew1 HB.out)
         clear HO122
         clear BK119
         clear HB
         have HO122:=n0_
         have BK119:=n1_
         have HB:=n2_
         clear n0_ n1_ n2_
         obtain ⟨Ao15,co15,eo15⟩:=Kd.R_slice HO122.out
         (first|subst eo15|(injection eo15 with f1_ f2_ f3_;have f4_:=f1_.symm;have f5_:=f3_.symm;clear f1_ f2_ f3_;subst f4_;subst f5_))
         have p123:0≤(a0_0:Int):=of_decide_eq_true (by first|(with_reducible assumption)|assumption)
         have q123:a0_0<(t120.length:Int):=of_decide_eq_true (by first|(with_reducible assumption)|assumption)
         obtain ⟨ad123,e123,hx123_0⟩:=Kd.at_string (Kd.R_reads' HO122.out).2.2 a0_0 p123 q123
         cases e123
         replace p123:=eq_true p123
         replace q123:=eq_true q123
         refine start_ (n:=11) (S:=fun w'=>w'.cell? ⟨gb119,0,none⟩=some (.int .i64 a0_0)∧w'.cell? ⟨gb119,1,none⟩=some (.int .i64 a0_1)∧w'.cell? ⟨gb119,2,none⟩=some (.int .i64 a0_2)∧w'.cell? (ad123.add (a0_0).toNat)=some (.string (rdOf ByteArray.empty t120 a0_0))) (ds:=[]) #[false,false,false,false,false,false,false,false,false,false,false] (by kernel_rfl) rfl rfl ⟨(blk_cell BK119.out 0).trans rfl,(blk_cell BK119.out 1).trans rfl,(blk_cell BK119.out 2).trans rfl,hx123_0⟩ (fun hHeld=>?_);refine with_tabW spec_l4line.tab2 spec_l4line.bits2 (fun HT_ HW_=>?_)
         generalize w13.drew=w14 at HO122 BK119 HB hx123_0 hHeld ⊢
         refine pure_ (i:=0) (N:=some 6) (v:=?_) (a':=?_) #[true,false,false,false,false,false,false,false,false,false,false] rfl rfl (any_of HT_.out (by kernel_rfl)) (fun _ _ _ h=>h) (Or.inl ⟨by rfl,?_⟩) ?_ ?_
         rotate_left
         ·intro w'
          go_simp
          with_reducible rfl
         rotate_left
         ·simp only [Act.put,List.setIfInBounds_toArray,List.set_cons_zero,List.set_cons_succ,i64_w,i32_w]
          rfl
         refine pure_ (i:=1) (N:=some 7) (v:=?_) (a':=?_) #[true,true,false,false,false,false,false,false,false,false,false] rfl rfl (any_of HT_.out (by kernel_rfl)) (fun _ _ _ h=>h) (Or.inl ⟨by rfl,?_⟩) ?_ ?_
         rotate_left
         ·intro w'
          go_simp
          with_reducible rfl
         rotate_left
         ·simp only [Act.put,List.setIfInBounds_toArray,List.set_cons_zero,List.set_cons_succ,i64_w,i32_w]
          rfl
         refine pure_ (i:=6) (N:=some 12) (v:=?_) (a':=?_) #[true,true,false,false,false,false,true,false,false,false,false] rfl rfl (any_of HT_.out (by kernel_rfl)) (fun _ _ _ h=>h) (Or.inl ⟨by rfl,?_⟩) ?_ ?_
         rotate_left
         ·intro w'
          go_simp
          with_reducible rfl
         rotate_left
         ·simp only [Act.put,List.setIfInBounds_toArray,List.set_cons_zero,List.set_cons_succ,i64_w,i32_w]
          rfl
         refine take_ (i:=2) (N:=some 8) (v:=?_) (a':=?_) #[true,true,true,false,false,false,true,false,false,false,false] rfl rfl (take_ofW HT_.out HW_.out (by kernel_rfl)) (fun _ _ _ h=>h) (Or.inl ⟨by rfl,?_⟩) hHeld ?_ ?_
         rotate_left
         ·rintro w' ⟨s0,s1,s2,s3⟩
          go_simp
          with_reducible rfl
         rotate_left
         ·simp only [Act.put,List.setIfInBounds_toArray,List.set_cons_zero,List.set_cons_succ,i64_w,i32_w]
          rfl
         refine pure_ (i:=3) (N:=some 9) (v:=?_) (a':=?_) #[true,true,true,true,false,false,true,false,false,false,false] rfl rfl (any_of HT_.out (by kernel_rfl)) (fun _ _ _ h=>h) (Or.inl ⟨by rfl,?_⟩) ?_ ?_
         rotate_left
         ·intro w'
          go_simp
          with_reducible rfl
         rotate_left
         ·simp only [Act.put,List.setIfInBounds_toArray,List.set_cons_zero,List.set_cons_succ,i64_w,i32_w]
          rfl
         refine take_ (i:=4) (N:=some 10) (v:=?_) (a':=?_) #[true,true,true,true,true,false,true,false,false,false,false] rfl rfl (take_ofW HT_.out HW_.out (by kernel_rfl)) (fun _ _ _ h=>h) (Or.inl ⟨by rfl,?_⟩) hHeld ?_ ?_
         rotate_left
         ·rintro w' ⟨s0,s1,s2,s3⟩
          go_simp
          with_reducible rfl
         rotate_left
         ·simp only [Act.put,List.setIfInBounds_toArray,List.set_cons_zero,List.set_cons_succ,i64_w,i32_w]
          rfl
         refine pure_ (i:=5) (N:=some 11) (v:=?_) (a':=?_) #[true,true,true,true,true,true,true,false,false,false,false] rfl rfl (any_of HT_.out (by kernel_rfl)) (fun _ _ _ h=>h) (Or.inl ⟨by rfl,?_⟩) ?_ ?_
         rotate_left
         ·intro w'
          go_simp
          with_reducible rfl
         rotate_left
         ·simp only [Act.put,List.setIfInBounds_toArray,List.set_cons_zero,List.set_cons_succ,i64_w,i32_w]
          rfl
         refine take_ (i:=7) (N:=some 13) (v:=?_) (a':=?_) #[true,true,true,true,true,true,true,true,false,false,false] rfl rfl (take_ofW HT_.out HW_.out (by kernel_rfl)) (fun _ _ _ h=>h) (Or.inl ⟨by rfl,?_⟩) hHeld ?_ ?_
         rotate_left
         ·rintro w' ⟨s0,s1,s2,s3⟩
          go_simp
          with_reducible rfl
         rotate_left
         ·simp only [Act.put,List.setIfInBounds_toArray,List.set_cons_zero,List.set_cons_succ,i64_w,i32_w]
          rfl
         refine one_ (i:=8) (N:=some 14) #[true,true,true,true,true,true,true,true,true,false,false] rfl rfl (one_of HT_.out (by kernel_rfl)) (by decide) (fun K hK=>?_)
         refine goes_ Tryd.func44 (by kernel_rfl) rfl #[.int .i64 a0_1] (by rfl) rfl rfl (by (try simp only [List.map_toArray,List.map_cons,List.map_nil]);first|done|rfl|(simp only [List.length_drop,List.length_take];rfl)) ?_
         with_reducible refine (spec_l4decimal.calls a0_1 t124 _ A6.out).mono ?_
         rintro e w16 ⟨rfl,hb⟩
         have HS3_:=(hb.cell (World.block_lt_of_cell? _ _ (hHeld.2.2.2))).trans (hHeld.2.2.2)
         refine ⟨_,rfl,?_⟩
         have n0_:=Aside0.mk (Kd.R_below (by exact HO122.out) hb)
         have n1_:=Aside0.mk (blk_below (g:=gb119) (o:=.cells #[.int .i64 a0_0,.int .i64 a0_1,.int .i64 a0_2] 52 (0,0)) (by exact BK119.out) hb)
         have n2_:=Aside0.mk (below_step (by exact HB.out) hb)
         clear HO122
         clear BK119
         clear HB
         have HO122:=n0_
         have BK119:=n1_
         have HB:=n2_
         clear n0_ n1_ n2_
         (try clear hb)
         (try clear hb2)
         (try clear hk)
         (try clear hi)
         refine hK.out _ _ ⟨(blk_cell BK119.out 0).trans rfl,(blk_cell BK119.out 1).trans rfl,(blk_cell BK119.out 2).trans rfl,HS3_⟩ (fun hHeld=>?_)
         clear hK K
         refine norm_ (a':=?_) ?_ ?_
         rotate_left
         ·show Act.put _ (some 14) _=_
          simp only [Act.put,List.setIfInBounds_toArray,List.set_cons_zero,List.set_cons_succ,i64_w,i32_w]
          rfl
         refine pure_ (i:=9) (N:=some 15) (v:=?_) (a':=?_) #[true,true,true,true,true,true,true,true,true,true,false] rfl rfl (any_of HT_.out (by kernel_rfl)) (fun _ _ _ h=>h) (Or.inl ⟨by rfl,?_⟩) ?_ ?_
         rotate_left
         ·intro w'
          go_simp
          with_reducible rfl
         rotate_left
         ·simp only [Act.put,List.setIfInBounds_toArray,List.set_cons_zero,List.set_cons_succ,i64_w,i32_w]
          rfl
         refine pure_ (i:=10) (N:=some 4) (v:=?_) (a':=?_) #[true,true,true,true,true,true,true,true,true,true,true] rfl rfl (any_of HT_.out (by kernel_rfl)) (fun _ _ _ h=>h) (Or.inl ⟨by rfl,?_⟩) ?_ ?_
         rotate_left
         ·intro w'
          go_simp
          with_reducible rfl
         rotate_left
         ·simp only [Act.put,List.setIfInBounds_toArray,List.set_cons_zero,List.set_cons_succ,i64_w,i32_w]
          rfl
         refine done_ (done_of HT_.out (by kernel_rfl)) ?_
         have hcz17_0:w16.cell? ⟨gb119,0,none⟩=some (.int .i64 a0_0):=(blk_cell BK119.out 0).trans rfl
         have hcz17_1:w16.cell? ⟨gb119,1,none⟩=some (.int .i64 a0_1):=(blk_cell BK119.out 1).trans rfl
         have hcz17_2:w16.cell? ⟨gb119,2,none⟩=some (.int .i64 a0_2):=(blk_cell BK119.out 2).trans rfl
         have hfz17_0:=blk_frozen BK119.out 0
         have hfz17_1:=blk_frozen BK119.out 1
         have hfz17_2:=blk_frozen BK119.out 2
         try go_wp2
         go_ret
         exact ⟨by first|rfl|(simp [errW_none,errW_some] <;> rfl)|(simp [*,errW_none,errW_some] <;> rfl),by exact HB.out⟩
        rw [if_neg c11] at H
        exact absurd H (by simp)
       rw [if_neg c10] at H
       have c10b0:decide (a0_2<0)=false:=decide_eq_false c10
       clear c10
       obtain rfl:=Option.some.inj H
       go_enter Tryd.func27,Tryd.ntmps27
       try go_wp2_with (first|((with_reducible refine gate_dst (N:=1) rfl ?_);refine box_event ?hg (N:=1) ?hd (cs:=#[.int .i64 a0_0,.int .i64 a0_1,.int .i64 a0_2]) (t:=52) ?hr ?_;(case hd=>rfl);(case hg=>rfl);(case hr=>first|(go_simp;done)|(go_simp;rfl));intro gb119 hg w18 hbox hb;have n0_:=Aside0.mk (below_step (by exact HB.out) hb);have n1_:=Aside0.mk (hbox);have n2_:=Aside0.mk ((by rw [hg];exact (below_size (by exact HB.out)):w.heap.size≤gb119));have n3_:=Aside0.mk ((by rw [hg];exact (below_size (by exact HB.out)):w.heap.size≤gb119));clear HB;have HB:=n0_;have BK119:=n1_;have GW119:=n2_;have GE119:=n3_;clear n0_ n1_ n2_ n3_;clear hb hbox hg)|((with_reducible refine gate_callee (f:=52) rfl ?_);refine goesL_ (some 5) rfl rfl Tryd.func52 (by kernel_rfl) rfl #[] rfl (by (try simp only [List.map_toArray,List.map_cons,List.map_nil]);first|done|rfl|(simp only [List.length_drop,List.length_take];rfl)) ?_;(with_reducible refine (spec_l4words.calls  t120 _ A2.out).mono ?_);rintro e w19 ⟨v121,rfl,ho0,hb⟩;refine ⟨_,rfl,?_⟩;have n0_:=Aside0.mk (Kd.R_lower ho0 (below_size (by exact HB.out)));have n1_:=Aside0.mk (blk_below (g:=gb119) (o:=.cells #[.int .i64 a0_0,.int .i64 a0_1,.int .i64 a0_2] 52 (0,0)) (by exact BK119.out) hb);have n2_:=Aside0.mk (below_step (by exact HB.out) hb);clear BK119;clear HB;have HO122:=n0_;have BK119:=n1_;have HB:=n2_;clear n0_ n1_ n2_;(try clear hb);(try clear hb2);(try clear hk);(try clear hi);(try clear ho0)))
       have n0_:=Aside0.mk (Kd.R_drew HO122.out)
       have n1_:=Aside0.mk (blk_drew BK119.out)
       have n2_:=Aside0.mk (below_drew1 HB.out)
       clear HO122
       clear BK119
       clear HB
       have HO122:=n0_
       have BK119:=n1_
       have HB:=n2_
       clear n0_ n1_ n2_
       obtain ⟨Ao21,co21,eo21⟩:=Kd.R_slice HO122.out
       (first|subst eo21|(injection eo21 with f1_ f2_ f3_;have f4_:=f1_.symm;have f5_:=f3_.symm;clear f1_ f2_ f3_;subst f4_;subst f5_))
       have p123:0≤(a0_0:Int):=of_decide_eq_true (by first|(with_reducible assumption)|assumption)
       have q123:a0_0<(t120.length:Int):=of_decide_eq_true (by first|(with_reducible assumption)|assumption)
       obtain ⟨ad123,e123,hx123_0⟩:=Kd.at_string (Kd.R_reads' HO122.out).2.2 a0_0 p123 q123
       cases e123
       replace p123:=eq_true p123
       replace q123:=eq_true q123
       refine start_ (n:=11) (S:=fun w'=>w'.cell? ⟨gb119,0,none⟩=some (.int .i64 a0_0)∧w'.cell? ⟨gb119,1,none⟩=some (.int .i64 a0_1)∧w'.cell? ⟨gb119,2,none⟩=some (.int .i64 a0_2)∧w'.cell? (ad123.add (a0_0).toNat)=some (.string (rdOf ByteArray.empty t120 a0_0))) (ds:=[]) #[false,false,false,false,false,false,false,false,false,false,false] (by kernel_rfl) rfl rfl ⟨(blk_cell BK119.out 0).trans rfl,(blk_cell BK119.out 1).trans rfl,(blk_cell BK119.out 2).trans rfl,hx123_0⟩ (fun hHeld=>?_);refine with_tabW spec_l4line.tab2 spec_l4line.bits2 (fun HT_ HW_=>?_)
       generalize w19.drew=w20 at HO122 BK119 HB hx123_0 hHeld ⊢
       refine pure_ (i:=0) (N:=some 6) (v:=?_) (a':=?_) #[true,false,false,false,false,false,false,false,false,false,false] rfl rfl (any_of HT_.out (by kernel_rfl)) (fun _ _ _ h=>h) (Or.inl ⟨by rfl,?_⟩) ?_ ?_
       rotate_left
       ·intro w'
        go_simp
        with_reducible rfl
       rotate_left
       ·simp only [Act.put,List.setIfInBounds_toArray,List.set_cons_zero,List.set_cons_succ,i64_w,i32_w]
        rfl
       refine pure_ (i:=1) (N:=some 7) (v:=?_) (a':=?_) #[true,true,false,false,false,false,false,false,false,false,false] rfl rfl (any_of HT_.out (by kernel_rfl)) (fun _ _ _ h=>h) (Or.inl ⟨by rfl,?_⟩) ?_ ?_
       rotate_left
       ·intro w'
        go_simp
        with_reducible rfl
       rotate_left
       ·simp only [Act.put,List.setIfInBounds_toArray,List.set_cons_zero,List.set_cons_succ,i64_w,i32_w]
        rfl
       refine pure_ (i:=6) (N:=some 12) (v:=?_) (a':=?_) #[true,true,false,false,false,false,true,false,false,false,false] rfl rfl (any_of HT_.out (by kernel_rfl)) (fun _ _ _ h=>h) (Or.inl ⟨by rfl,?_⟩) ?_ ?_
       rotate_left
       ·intro w'
        go_simp
        with_reducible rfl
       rotate_left
       ·simp only [Act.put,List.setIfInBounds_toArray,List.set_cons_zero,List.set_cons_succ,i64_w,i32_w]
        rfl
       refine take_ (i:=2) (N:=some 8) (v:=?_) (a':=?_) #[true,true,true,false,false,false,true,false,false,false,false] rfl rfl (take_ofW HT_.out HW_.out (by kernel_rfl)) (fun _ _ _ h=>h) (Or.inl ⟨by rfl,?_⟩) hHeld ?_ ?_
       rotate_left
       ·rintro w' ⟨s0,s1,s2,s3⟩
        go_simp
        with_reducible rfl
       rotate_left
       ·simp only [Act.put,List.setIfInBounds_toArray,List.set_cons_zero,List.set_cons_succ,i64_w,i32_w]
        rfl
       refine pure_ (i:=3) (N:=some 9) (v:=?_) (a':=?_) #[true,true,true,true,false,false,true,false,false,false,false] rfl rfl (any_of HT_.out (by kernel_rfl)) (fun _ _ _ h=>h) (Or.inl ⟨by rfl,?_⟩) ?_ ?_
       rotate_left
       ·intro w'
        go_simp
        with_reducible rfl
       rotate_left
       ·simp only [Act.put,List.setIfInBounds_toArray,List.set_cons_zero,List.set_cons_succ,i64_w,i32_w]
        rfl
       refine take_ (i:=4) (N:=some 10) (v:=?_) (a':=?_) #[true,true,true,true,true,false,true,false,false,false,false] rfl rfl (take_ofW HT_.out HW_.out (by kernel_rfl)) (fun _ _ _ h=>h) (Or.inl ⟨by rfl,?_⟩) hHeld ?_ ?_
       rotate_left
       ·rintro w' ⟨s0,s1,s2,s3⟩
        go_simp
        with_reducible rfl
       rotate_left
       ·simp only [Act.put,List.setIfInBounds_toArray,List.set_cons_zero,List.set_cons_succ,i64_w,i32_w]
        rfl
       refine pure_ (i:=5) (N:=some 11) (v:=?_) (a':=?_) #[true,true,true,true,true,true,true,false,false,false,false] rfl rfl (any_of HT_.out (by kernel_rfl)) (fun _ _ _ h=>h) (Or.inl ⟨by rfl,?_⟩) ?_ ?_
       rotate_left
       ·intro w'
        go_simp
        with_reducible rfl
       rotate_left
       ·simp only [Act.put,List.setIfInBounds_toArray,List.set_cons_zero,List.set_cons_succ,i64_w,i32_w]
        rfl
       refine take_ (i:=7) (N:=some 13) (v:=?_) (a':=?_) #[true,true,true,true,true,true,true,true,false,false,false] rfl rfl (take_ofW HT_.out HW_.out (by kernel_rfl)) (fun _ _ _ h=>h) (Or.inl ⟨by rfl,?_⟩) hHeld ?_ ?_
       rotate_left
       ·rintro w' ⟨s0,s1,s2,s3⟩
        go_simp
        with_reducible rfl
       rotate_left
       ·simp only [Act.put,List.setIfInBounds_toArray,List.set_cons_zero,List.set_cons_succ,i64_w,i32_w]
        rfl
       refine one_ (i:=8) (N:=some 14) #[true,true,true,true,true,true,true,true,true,false,false] rfl rfl (one_of HT_.out (by kernel_rfl)) (by decide) (fun K hK=>?_)
       refine goes_ Tryd.func44 (by kernel_rfl) rfl #[.int .i64 a0_1] (by rfl) rfl rfl (by (try simp only [List.map_toArray,List.map_cons,List.map_nil]);first|done|rfl|(simp only [List.length_drop,List.length_take];rfl)) ?_
       with_reducible refine (spec_l4decimal.calls a0_1 t124 _ A6.out).mono ?_
       rintro e w22 ⟨rfl,hb⟩
       have HS3_:=(hb.cell (World.block_lt_of_cell? _ _ (hHeld.2.2.2))).trans (hHeld.2.2.2)
       refine ⟨_,rfl,?_⟩
       have n0_:=Aside0.mk (Kd.R_below (by exact HO122.out) hb)
       have n1_:=Aside0.mk (blk_below (g:=gb119) (o:=.cells #[.int .i64 a0_0,.int .i64 a0_1,.int .i64 a0_2] 52 (0,0)) (by exact BK119.out) hb)
       have n2_:=Aside0.mk (below_step (by exact HB.out) hb)
       clear HO122
       clear BK119
       clear HB
       have HO122:=n0_
       have BK119:=n1_
       have HB:=n2_
       clear n0_ n1_ n2_
       (try clear hb)
       (try clear hb2)
       (try clear hk)
       (try clear hi)
       refine hK.out _ _ ⟨(blk_cell BK119.out 0).trans rfl,(blk_cell BK119.out 1).trans rfl,(blk_cell BK119.out 2).trans rfl,HS3_⟩ (fun hHeld=>?_)
       clear hK K
       refine norm_ (a':=?_) ?_ ?_
       rotate_left
       ·show Act.put _ (some 14) _=_
        simp only [Act.put,List.setIfInBounds_toArray,List.set_cons_zero,List.set_cons_succ,i64_w,i32_w]
        rfl
       refine pure_ (i:=9) (N:=some 15) (v:=?_) (a':=?_) #[true,true,true,true,true,true,true,true,true,true,false] rfl rfl (any_of HT_.out (by kernel_rfl)) (fun _ _ _ h=>h) (Or.inl ⟨by rfl,?_⟩) ?_ ?_
       rotate_left
       ·intro w'
        go_simp
        with_reducible rfl
       rotate_left
       ·simp only [Act.put,List.setIfInBounds_toArray,List.set_cons_zero,List.set_cons_succ,i64_w,i32_w]
        rfl
       refine pure_ (i:=10) (N:=some 4) (v:=?_) (a':=?_) #[true,true,true,true,true,true,true,true,true,true,true] rfl rfl (any_of HT_.out (by kernel_rfl)) (fun _ _ _ h=>h) (Or.inl ⟨by rfl,?_⟩) ?_ ?_
       rotate_left
       ·intro w'
        go_simp
        with_reducible rfl
       rotate_left
       ·simp only [Act.put,List.setIfInBounds_toArray,List.set_cons_zero,List.set_cons_succ,i64_w,i32_w]
        rfl
       refine done_ (done_of HT_.out (by kernel_rfl)) ?_
       have hcz23_0:w22.cell? ⟨gb119,0,none⟩=some (.int .i64 a0_0):=(blk_cell BK119.out 0).trans rfl
       have hcz23_1:w22.cell? ⟨gb119,1,none⟩=some (.int .i64 a0_1):=(blk_cell BK119.out 1).trans rfl
       have hcz23_2:w22.cell? ⟨gb119,2,none⟩=some (.int .i64 a0_2):=(blk_cell BK119.out 2).trans rfl
       have hfz23_0:=blk_frozen BK119.out 0
       have hfz23_1:=blk_frozen BK119.out 1
       have hfz23_2:=blk_frozen BK119.out 2
       try go_wp2
       go_ret
       exact ⟨by first|rfl|(simp [errW_none,errW_some] <;> rfl)|(simp [*,errW_none,errW_some] <;> rfl),by exact HB.out⟩
      rw [if_neg c9] at H
      exact absurd H (by simp)
     rw [if_neg c8] at H
     have c8b0:decide (0<a0_2)=false:=decide_eq_false c8
     clear c8
     by_cases c24:a0_2<0
     ·rw [if_pos c24] at H
      have c24b0:decide (a0_2<0)=true:=decide_eq_true c24
      clear c24
      by_cases c25:(((rdOf ByteArray.empty t120 a0_0) ++ (⟨#[32]⟩:ByteArray)) ++ t124).size+2≤9223372036854775807
      ·rw [if_pos c25] at H
       have c25b0:=eq_true c25
       have c25b1:decide ((((rdOf ByteArray.empty t120 a0_0) ++ (⟨#[32]⟩:ByteArray)) ++ t124).size+2≤9223372036854775807)=true:=decide_eq_true c25
       try have c25b2:(9223372036854775807<(((rdOf ByteArray.empty t120 a0_0) ++ (⟨#[32]⟩:ByteArray)) ++ t124).size+2)=False:=eq_false (Nat.not_lt.2 c25)
       have c25n0n_1:(rdOf ByteArray.empty t120 a0_0).size+1+t124.size+2≤9223372036854775807:=by have:=c25;simp only [ByteArray.size_append] at this;exact this
       have c25n0n_2:(9223372036854775807<(rdOf ByteArray.empty t120 a0_0).size+1+t124.size+2)=False:=eq_false (Nat.not_lt.2 c25n0n_1)
       have c25n0n_3:((rdOf ByteArray.empty t120 a0_0).size+1+t124.size+2≤9223372036854775807)=True:=eq_true c25n0n_1
       obtain rfl:=Option.some.inj H
       go_enter Tryd.func27,Tryd.ntmps27
       try go_wp2_with (first|((with_reducible refine gate_dst (N:=1) rfl ?_);refine box_event ?hg (N:=1) ?hd (cs:=#[.int .i64 a0_0,.int .i64 a0_1,.int .i64 a0_2]) (t:=52) ?hr ?_;(case hd=>rfl);(case hg=>rfl);(case hr=>first|(go_simp;done)|(go_simp;rfl));intro gb119 hg w26 hbox hb;have n0_:=Aside0.mk (below_step (by exact HB.out) hb);have n1_:=Aside0.mk (hbox);have n2_:=Aside0.mk ((by rw [hg];exact (below_size (by exact HB.out)):w.heap.size≤gb119));have n3_:=Aside0.mk ((by rw [hg];exact (below_size (by exact HB.out)):w.heap.size≤gb119));clear HB;have HB:=n0_;have BK119:=n1_;have GW119:=n2_;have GE119:=n3_;clear n0_ n1_ n2_ n3_;clear hb hbox hg)|((with_reducible refine gate_callee (f:=52) rfl ?_);refine goesL_ (some 5) rfl rfl Tryd.func52 (by kernel_rfl) rfl #[] rfl (by (try simp only [List.map_toArray,List.map_cons,List.map_nil]);first|done|rfl|(simp only [List.length_drop,List.length_take];rfl)) ?_;(with_reducible refine (spec_l4words.calls  t120 _ A2.out).mono ?_);rintro e w27 ⟨v121,rfl,ho0,hb⟩;refine ⟨_,rfl,?_⟩;have n0_:=Aside0.mk (Kd.R_lower ho0 (below_size (by exact HB.out)));have n1_:=Aside0.mk (blk_below (g:=gb119) (o:=.cells #[.int .i64 a0_0,.int .i64 a0_1,.int .i64 a0_2] 52 (0,0)) (by exact BK119.out) hb);have n2_:=Aside0.mk (below_step (by exact HB.out) hb);clear BK119;clear HB;have HO122:=n0_;have BK119:=n1_;have HB:=n2_;clear n0_ n1_ n2_;(try clear hb);(try clear hb2);(try clear hk);(try clear hi);(try clear ho0)))
       have n0_:=Aside0.mk (Kd.R_drew HO122.out)
       have n1_:=Aside0.mk (blk_drew BK119.out)
       have n2_:=Aside0.mk (below_drew1 HB.out)
       clear HO122
       clear BK119
       clear HB
       have HO122:=n0_
       have BK119:=n1_
       have HB:=n2_
       clear n0_ n1_ n2_
       obtain ⟨Ao29,co29,eo29⟩:=Kd.R_slice HO122.out
       (first|subst eo29|(injection eo29 with f1_ f2_ f3_;have f4_:=f1_.symm;have f5_:=f3_.symm;clear f1_ f2_ f3_;subst f4_;subst f5_))
       have p123:0≤(a0_0:Int):=of_decide_eq_true (by first|(with_reducible assumption)|assumption)
       have q123:a0_0<(t120.length:Int):=of_decide_eq_true (by first|(with_reducible assumption)|assumption)
       obtain ⟨ad123,e123,hx123_0⟩:=Kd.at_string (Kd.R_reads' HO122.out).2.2 a0_0 p123 q123
       cases e123
       replace p123:=eq_true p123
       replace q123:=eq_true q123
       refine start_ (n:=11) (S:=fun w'=>w'.cell? ⟨gb119,0,none⟩=some (.int .i64 a0_0)∧w'.cell? ⟨gb119,1,none⟩=some (.int .i64 a0_1)∧w'.cell? ⟨gb119,2,none⟩=some (.int .i64 a0_2)∧w'.cell? (ad123.add (a0_0).toNat)=some (.string (rdOf ByteArray.empty t120 a0_0))) (ds:=[]) #[false,false,false,false,false,false,false,false,false,false,false] (by kernel_rfl) rfl rfl ⟨(blk_cell BK119.out 0).trans rfl,(blk_cell BK119.out 1).trans rfl,(blk_cell BK119.out 2).trans rfl,hx123_0⟩ (fun hHeld=>?_);refine with_tabW spec_l4line.tab2 spec_l4line.bits2 (fun HT_ HW_=>?_)
       generalize w27.drew=w28 at HO122 BK119 HB hx123_0 hHeld ⊢
       refine pure_ (i:=0) (N:=some 6) (v:=?_) (a':=?_) #[true,false,false,false,false,false,false,false,false,false,false] rfl rfl (any_of HT_.out (by kernel_rfl)) (fun _ _ _ h=>h) (Or.inl ⟨by rfl,?_⟩) ?_ ?_
       rotate_left
       ·intro w'
        go_simp
        with_reducible rfl
       rotate_left
       ·simp only [Act.put,List.setIfInBounds_toArray,List.set_cons_zero,List.set_cons_succ,i64_w,i32_w]
        rfl
       refine pure_ (i:=1) (N:=some 7) (v:=?_) (a':=?_) #[true,true,false,false,false,false,false,false,false,false,false] rfl rfl (any_of HT_.out (by kernel_rfl)) (fun _ _ _ h=>h) (Or.inl ⟨by rfl,?_⟩) ?_ ?_
       rotate_left
       ·intro w'
        go_simp
        with_reducible rfl
       rotate_left
       ·simp only [Act.put,List.setIfInBounds_toArray,List.set_cons_zero,List.set_cons_succ,i64_w,i32_w]
        rfl
       refine pure_ (i:=6) (N:=some 12) (v:=?_) (a':=?_) #[true,true,false,false,false,false,true,false,false,false,false] rfl rfl (any_of HT_.out (by kernel_rfl)) (fun _ _ _ h=>h) (Or.inl ⟨by rfl,?_⟩) ?_ ?_
       rotate_left
       ·intro w'
        go_simp
        with_reducible rfl
       rotate_left
       ·simp only [Act.put,List.setIfInBounds_toArray,List.set_cons_zero,List.set_cons_succ,i64_w,i32_w]
        rfl
       refine take_ (i:=2) (N:=some 8) (v:=?_) (a':=?_) #[true,true,true,false,false,false,true,false,false,false,false] rfl rfl (take_ofW HT_.out HW_.out (by kernel_rfl)) (fun _ _ _ h=>h) (Or.inl ⟨by rfl,?_⟩) hHeld ?_ ?_
       rotate_left
       ·rintro w' ⟨s0,s1,s2,s3⟩
        go_simp
        with_reducible rfl
       rotate_left
       ·simp only [Act.put,List.setIfInBounds_toArray,List.set_cons_zero,List.set_cons_succ,i64_w,i32_w]
        rfl
       refine pure_ (i:=3) (N:=some 9) (v:=?_) (a':=?_) #[true,true,true,true,false,false,true,false,false,false,false] rfl rfl (any_of HT_.out (by kernel_rfl)) (fun _ _ _ h=>h) (Or.inl ⟨by rfl,?_⟩) ?_ ?_
       rotate_left
       ·intro w'
        go_simp
        with_reducible rfl
       rotate_left
       ·simp only [Act.put,List.setIfInBounds_toArray,List.set_cons_zero,List.set_cons_succ,i64_w,i32_w]
        rfl
       refine take_ (i:=4) (N:=some 10) (v:=?_) (a':=?_) #[true,true,true,true,true,false,true,false,false,false,false] rfl rfl (take_ofW HT_.out HW_.out (by kernel_rfl)) (fun _ _ _ h=>h) (Or.inl ⟨by rfl,?_⟩) hHeld ?_ ?_
       rotate_left
       ·rintro w' ⟨s0,s1,s2,s3⟩
        go_simp
        with_reducible rfl
       rotate_left
       ·simp only [Act.put,List.setIfInBounds_toArray,List.set_cons_zero,List.set_cons_succ,i64_w,i32_w]
        rfl
       refine pure_ (i:=5) (N:=some 11) (v:=?_) (a':=?_) #[true,true,true,true,true,true,true,false,false,false,false] rfl rfl (any_of HT_.out (by kernel_rfl)) (fun _ _ _ h=>h) (Or.inl ⟨by rfl,?_⟩) ?_ ?_
       rotate_left
       ·intro w'
        go_simp
        with_reducible rfl
       rotate_left
       ·simp only [Act.put,List.setIfInBounds_toArray,List.set_cons_zero,List.set_cons_succ,i64_w,i32_w]
        rfl
       refine take_ (i:=7) (N:=some 13) (v:=?_) (a':=?_) #[true,true,true,true,true,true,true,true,false,false,false] rfl rfl (take_ofW HT_.out HW_.out (by kernel_rfl)) (fun _ _ _ h=>h) (Or.inl ⟨by rfl,?_⟩) hHeld ?_ ?_
       rotate_left
       ·rintro w' ⟨s0,s1,s2,s3⟩
        go_simp
        with_reducible rfl
       rotate_left
       ·simp only [Act.put,List.setIfInBounds_toArray,List.set_cons_zero,List.set_cons_succ,i64_w,i32_w]
        rfl
       refine one_ (i:=8) (N:=some 14) #[true,true,true,true,true,true,true,true,true,false,false] rfl rfl (one_of HT_.out (by kernel_rfl)) (by decide) (fun K hK=>?_)
       refine goes_ Tryd.func44 (by kernel_rfl) rfl #[.int .i64 a0_1] (by rfl) rfl rfl (by (try simp only [List.map_toArray,List.map_cons,List.map_nil]);first|done|rfl|(simp only [List.length_drop,List.length_take];rfl)) ?_
       with_reducible refine (spec_l4decimal.calls a0_1 t124 _ A6.out).mono ?_
       rintro e w30 ⟨rfl,hb⟩
       have HS3_:=(hb.cell (World.block_lt_of_cell? _ _ (hHeld.2.2.2))).trans (hHeld.2.2.2)
       refine ⟨_,rfl,?_⟩
       have n0_:=Aside0.mk (Kd.R_below (by exact HO122.out) hb)
       have n1_:=Aside0.mk (blk_below (g:=gb119) (o:=.cells #[.int .i64 a0_0,.int .i64 a0_1,.int .i64 a0_2] 52 (0,0)) (by exact BK119.out) hb)
       have n2_:=Aside0.mk (below_step (by exact HB.out) hb)
       clear HO122
       clear BK119
       clear HB
       have HO122:=n0_
       have BK119:=n1_
       have HB:=n2_
       clear n0_ n1_ n2_
       (try clear hb)
       (try clear hb2)
       (try clear hk)
       (try clear hi)
       refine hK.out _ _ ⟨(blk_cell BK119.out 0).trans rfl,(blk_cell BK119.out 1).trans rfl,(blk_cell BK119.out 2).trans rfl,HS3_⟩ (fun hHeld=>?_)
       clear hK K
       refine norm_ (a':=?_) ?_ ?_
       rotate_left
       ·show Act.put _ (some 14) _=_
        simp only [Act.put,List.setIfInBounds_toArray,List.set_cons_zero,List.set_cons_succ,i64_w,i32_w]
        rfl
       refine pure_ (i:=9) (N:=some 15) (v:=?_) (a':=?_) #[true,true,true,true,true,true,true,true,true,true,false] rfl rfl (any_of HT_.out (by kernel_rfl)) (fun _ _ _ h=>h) (Or.inl ⟨by rfl,?_⟩) ?_ ?_
       rotate_left
       ·intro w'
        go_simp
        with_reducible rfl
       rotate_left
       ·simp only [Act.put,List.setIfInBounds_toArray,List.set_cons_zero,List.set_cons_succ,i64_w,i32_w]
        rfl
       refine pure_ (i:=10) (N:=some 4) (v:=?_) (a':=?_) #[true,true,true,true,true,true,true,true,true,true,true] rfl rfl (any_of HT_.out (by kernel_rfl)) (fun _ _ _ h=>h) (Or.inl ⟨by rfl,?_⟩) ?_ ?_
       rotate_left
       ·intro w'
        go_simp
        with_reducible rfl
       rotate_left
       ·simp only [Act.put,List.setIfInBounds_toArray,List.set_cons_zero,List.set_cons_succ,i64_w,i32_w]
        rfl
       refine done_ (done_of HT_.out (by kernel_rfl)) ?_
       have hcz31_0:w30.cell? ⟨gb119,0,none⟩=some (.int .i64 a0_0):=(blk_cell BK119.out 0).trans rfl
       have hcz31_1:w30.cell? ⟨gb119,1,none⟩=some (.int .i64 a0_1):=(blk_cell BK119.out 1).trans rfl
       have hcz31_2:w30.cell? ⟨gb119,2,none⟩=some (.int .i64 a0_2):=(blk_cell BK119.out 2).trans rfl
       have hfz31_0:=blk_frozen BK119.out 0
       have hfz31_1:=blk_frozen BK119.out 1
       have hfz31_2:=blk_frozen BK119.out 2
       try go_wp2
       go_ret
       exact ⟨by first|rfl|(simp [errW_none,errW_some] <;> rfl)|(simp [*,errW_none,errW_some] <;> rfl),by exact HB.out⟩
      rw [if_neg c25] at H
      exact absurd H (by simp)
     rw [if_neg c24] at H
     have c24b0:decide (a0_2<0)=false:=decide_eq_false c24
     clear c24
     obtain rfl:=Option.some.inj H
     go_enter Tryd.func27,Tryd.ntmps27
     try go_wp2_with (first|((with_reducible refine gate_dst (N:=1) rfl ?_);refine box_event ?hg (N:=1) ?hd (cs:=#[.int .i64 a0_0,.int .i64 a0_1,.int .i64 a0_2]) (t:=52) ?hr ?_;(case hd=>rfl);(case hg=>rfl);(case hr=>first|(go_simp;done)|(go_simp;rfl));intro gb119 hg w32 hbox hb;have n0_:=Aside0.mk (below_step (by exact HB.out) hb);have n1_:=Aside0.mk (hbox);have n2_:=Aside0.mk ((by rw [hg];exact (below_size (by exact HB.out)):w.heap.size≤gb119));have n3_:=Aside0.mk ((by rw [hg];exact (below_size (by exact HB.out)):w.heap.size≤gb119));clear HB;have HB:=n0_;have BK119:=n1_;have GW119:=n2_;have GE119:=n3_;clear n0_ n1_ n2_ n3_;clear hb hbox hg)|((with_reducible refine gate_callee (f:=52) rfl ?_);refine goesL_ (some 5) rfl rfl Tryd.func52 (by kernel_rfl) rfl #[] rfl (by (try simp only [List.map_toArray,List.map_cons,List.map_nil]);first|done|rfl|(simp only [List.length_drop,List.length_take];rfl)) ?_;(with_reducible refine (spec_l4words.calls  t120 _ A2.out).mono ?_);rintro e w33 ⟨v121,rfl,ho0,hb⟩;refine ⟨_,rfl,?_⟩;have n0_:=Aside0.mk (Kd.R_lower ho0 (below_size (by exact HB.out)));have n1_:=Aside0.mk (blk_below (g:=gb119) (o:=.cells #[.int .i64 a0_0,.int .i64 a0_1,.int .i64 a0_2] 52 (0,0)) (by exact BK119.out) hb);have n2_:=Aside0.mk (below_step (by exact HB.out) hb);clear BK119;clear HB;have HO122:=n0_;have BK119:=n1_;have HB:=n2_;clear n0_ n1_ n2_;(try clear hb);(try clear hb2);(try clear hk);(try clear hi);(try clear ho0)))
     have n0_:=Aside0.mk (Kd.R_drew HO122.out)
     have n1_:=Aside0.mk (blk_drew BK119.out)
     have n2_:=Aside0.mk (below_drew1 HB.out)
     clear HO122
     clear BK119
     clear HB
     have HO122:=n0_
     have BK119:=n1_
     have HB:=n2_
     clear n0_ n1_ n2_
     obtain ⟨Ao35,co35,eo35⟩:=Kd.R_slice HO122.out
     (first|subst eo35|(injection eo35 with f1_ f2_ f3_;have f4_:=f1_.symm;have f5_:=f3_.symm;clear f1_ f2_ f3_;subst f4_;subst f5_))
     have p123:0≤(a0_0:Int):=of_decide_eq_true (by first|(with_reducible assumption)|assumption)
     have q123:a0_0<(t120.length:Int):=of_decide_eq_true (by first|(with_reducible assumption)|assumption)
     obtain ⟨ad123,e123,hx123_0⟩:=Kd.at_string (Kd.R_reads' HO122.out).2.2 a0_0 p123 q123
     cases e123
     replace p123:=eq_true p123
     replace q123:=eq_true q123
     refine start_ (n:=11) (S:=fun w'=>w'.cell? ⟨gb119,0,none⟩=some (.int .i64 a0_0)∧w'.cell? ⟨gb119,1,none⟩=some (.int .i64 a0_1)∧w'.cell? ⟨gb119,2,none⟩=some (.int .i64 a0_2)∧w'.cell? (ad123.add (a0_0).toNat)=some (.string (rdOf ByteArray.empty t120 a0_0))) (ds:=[]) #[false,false,false,false,false,false,false,false,false,false,false] (by kernel_rfl) rfl rfl ⟨(blk_cell BK119.out 0).trans rfl,(blk_cell BK119.out 1).trans rfl,(blk_cell BK119.out 2).trans rfl,hx123_0⟩ (fun hHeld=>?_);refine with_tabW spec_l4line.tab2 spec_l4line.bits2 (fun HT_ HW_=>?_)
     generalize w33.drew=w34 at HO122 BK119 HB hx123_0 hHeld ⊢
     refine pure_ (i:=0) (N:=some 6) (v:=?_) (a':=?_) #[true,false,false,false,false,false,false,false,false,false,false] rfl rfl (any_of HT_.out (by kernel_rfl)) (fun _ _ _ h=>h) (Or.inl ⟨by rfl,?_⟩) ?_ ?_
     rotate_left
     ·intro w'
      go_simp
      with_reducible rfl
     rotate_left
     ·simp only [Act.put,List.setIfInBounds_toArray,List.set_cons_zero,List.set_cons_succ,i64_w,i32_w]
      rfl
     refine pure_ (i:=1) (N:=some 7) (v:=?_) (a':=?_) #[true,true,false,false,false,false,false,false,false,false,false] rfl rfl (any_of HT_.out (by kernel_rfl)) (fun _ _ _ h=>h) (Or.inl ⟨by rfl,?_⟩) ?_ ?_
     rotate_left
     ·intro w'
      go_simp
      with_reducible rfl
     rotate_left
     ·simp only [Act.put,List.setIfInBounds_toArray,List.set_cons_zero,List.set_cons_succ,i64_w,i32_w]
      rfl
     refine pure_ (i:=6) (N:=some 12) (v:=?_) (a':=?_) #[true,true,false,false,false,false,true,false,false,false,false] rfl rfl (any_of HT_.out (by kernel_rfl)) (fun _ _ _ h=>h) (Or.inl ⟨by rfl,?_⟩) ?_ ?_
     rotate_left
     ·intro w'
      go_simp
      with_reducible rfl
     rotate_left
     ·simp only [Act.put,List.setIfInBounds_toArray,List.set_cons_zero,List.set_cons_succ,i64_w,i32_w]
      rfl
     refine take_ (i:=2) (N:=some 8) (v:=?_) (a':=?_) #[true,true,true,false,false,false,true,false,false,false,false] rfl rfl (take_ofW HT_.out HW_.out (by kernel_rfl)) (fun _ _ _ h=>h) (Or.inl ⟨by rfl,?_⟩) hHeld ?_ ?_
     rotate_left
     ·rintro w' ⟨s0,s1,s2,s3⟩
      go_simp
      with_reducible rfl
     rotate_left
     ·simp only [Act.put,List.setIfInBounds_toArray,List.set_cons_zero,List.set_cons_succ,i64_w,i32_w]
      rfl
     refine pure_ (i:=3) (N:=some 9) (v:=?_) (a':=?_) #[true,true,true,true,false,false,true,false,false,false,false] rfl rfl (any_of HT_.out (by kernel_rfl)) (fun _ _ _ h=>h) (Or.inl ⟨by rfl,?_⟩) ?_ ?_
     rotate_left
     ·intro w'
      go_simp
      with_reducible rfl
     rotate_left
     ·simp only [Act.put,List.setIfInBounds_toArray,List.set_cons_zero,List.set_cons_succ,i64_w,i32_w]
      rfl
     refine take_ (i:=4) (N:=some 10) (v:=?_) (a':=?_) #[true,true,true,true,true,false,true,false,false,false,false] rfl rfl (take_ofW HT_.out HW_.out (by kernel_rfl)) (fun _ _ _ h=>h) (Or.inl ⟨by rfl,?_⟩) hHeld ?_ ?_
     rotate_left
     ·rintro w' ⟨s0,s1,s2,s3⟩
      go_simp
      with_reducible rfl
     rotate_left
     ·simp only [Act.put,List.setIfInBounds_toArray,List.set_cons_zero,List.set_cons_succ,i64_w,i32_w]
      rfl
     refine pure_ (i:=5) (N:=some 11) (v:=?_) (a':=?_) #[true,true,true,true,true,true,true,false,false,false,false] rfl rfl (any_of HT_.out (by kernel_rfl)) (fun _ _ _ h=>h) (Or.inl ⟨by rfl,?_⟩) ?_ ?_
     rotate_left
     ·intro w'
      go_simp
      with_reducible rfl
     rotate_left
     ·simp only [Act.put,List.setIfInBounds_toArray,List.set_cons_zero,List.set_cons_succ,i64_w,i32_w]
      rfl
     refine take_ (i:=7) (N:=some 13) (v:=?_) (a':=?_) #[true,true,true,true,true,true,true,true,false,false,false] rfl rfl (take_ofW HT_.out HW_.out (by kernel_rfl)) (fun _ _ _ h=>h) (Or.inl ⟨by rfl,?_⟩) hHeld ?_ ?_
     rotate_left
     ·rintro w' ⟨s0,s1,s2,s3⟩
      go_simp
      with_reducible rfl
     rotate_left
     ·simp only [Act.put,List.setIfInBounds_toArray,List.set_cons_zero,List.set_cons_succ,i64_w,i32_w]
      rfl
     refine one_ (i:=8) (N:=some 14) #[true,true,true,true,true,true,true,true,true,false,false] rfl rfl (one_of HT_.out (by kernel_rfl)) (by decide) (fun K hK=>?_)
     refine goes_ Tryd.func44 (by kernel_rfl) rfl #[.int .i64 a0_1] (by rfl) rfl rfl (by (try simp only [List.map_toArray,List.map_cons,List.map_nil]);first|done|rfl|(simp only [List.length_drop,List.length_take];rfl)) ?_
     with_reducible refine (spec_l4decimal.calls a0_1 t124 _ A6.out).mono ?_
     rintro e w36 ⟨rfl,hb⟩
     have HS3_:=(hb.cell (World.block_lt_of_cell? _ _ (hHeld.2.2.2))).trans (hHeld.2.2.2)
     refine ⟨_,rfl,?_⟩
     have n0_:=Aside0.mk (Kd.R_below (by exact HO122.out) hb)
     have n1_:=Aside0.mk (blk_below (g:=gb119) (o:=.cells #[.int .i64 a0_0,.int .i64 a0_1,.int .i64 a0_2] 52 (0,0)) (by exact BK119.out) hb)
     have n2_:=Aside0.mk (below_step (by exact HB.out) hb)
     clear HO122
     clear BK119
     clear HB
     have HO122:=n0_
     have BK119:=n1_
     have HB:=n2_
     clear n0_ n1_ n2_
     (try clear hb)
     (try clear hb2)
     (try clear hk)
     (try clear hi)
     refine hK.out _ _ ⟨(blk_cell BK119.out 0).trans rfl,(blk_cell BK119.out 1).trans rfl,(blk_cell BK119.out 2).trans rfl,HS3_⟩ (fun hHeld=>?_)
     clear hK K
     refine norm_ (a':=?_) ?_ ?_
     rotate_left
     ·show Act.put _ (some 14) _=_
      simp only [Act.put,List.setIfInBounds_toArray,List.set_cons_zero,List.set_cons_succ,i64_w,i32_w]
      rfl
     refine pure_ (i:=9) (N:=some 15) (v:=?_) (a':=?_) #[true,true,true,true,true,true,true,true,true,true,false] rfl rfl (any_of HT_.out (by kernel_rfl)) (fun _ _ _ h=>h) (Or.inl ⟨by rfl,?_⟩) ?_ ?_
     rotate_left
     ·intro w'
      go_simp
      with_reducible rfl
     rotate_left
     ·simp only [Act.put,List.setIfInBounds_toArray,List.set_cons_zero,List.set_cons_succ,i64_w,i32_w]
      rfl
     refine pure_ (i:=10) (N:=some 4) (v:=?_) (a':=?_) #[true,true,true,true,true,true,true,true,true,true,true] rfl rfl (any_of HT_.out (by kernel_rfl)) (fun _ _ _ h=>h) (Or.inl ⟨by rfl,?_⟩) ?_ ?_
     rotate_left
     ·intro w'
      go_simp
      with_reducible rfl
     rotate_left
     ·simp only [Act.put,List.setIfInBounds_toArray,List.set_cons_zero,List.set_cons_succ,i64_w,i32_w]
      rfl
     refine done_ (done_of HT_.out (by kernel_rfl)) ?_
     have hcz37_0:w36.cell? ⟨gb119,0,none⟩=some (.int .i64 a0_0):=(blk_cell BK119.out 0).trans rfl
     have hcz37_1:w36.cell? ⟨gb119,1,none⟩=some (.int .i64 a0_1):=(blk_cell BK119.out 1).trans rfl
     have hcz37_2:w36.cell? ⟨gb119,2,none⟩=some (.int .i64 a0_2):=(blk_cell BK119.out 2).trans rfl
     have hfz37_0:=blk_frozen BK119.out 0
     have hfz37_1:=blk_frozen BK119.out 1
     have hfz37_2:=blk_frozen BK119.out 2
     try go_wp2
     go_ret
     exact ⟨by first|rfl|(simp [errW_none,errW_some] <;> rfl)|(simp [*,errW_none,errW_some] <;> rfl),by exact HB.out⟩
    rw [if_neg c7] at H
    exact absurd H (by simp)
   rw [if_neg c5] at H
   exact absurd H (by simp)
  rw [if_neg c4] at H
  exact absurd H (by simp)
 rw [if_neg c3] at H
 exact absurd H (by simp)
end Go.Proofs.YtpdnabhpkdchjaaDoor.P
namespace Go.Proofs.YtpdnabhpkdchjaaDoor.P
open Go.RowKit Go.Proofs.YtpdnabhpkdchjaaDoorW.PrintWords Go.Proofs.YtpdnabhpkdchjaaDoorW.PrintLast Go.Proofs.YtpdnabhpkdchjaaDoorW.PrintMore
attribute [local go_sem] max2_int min2_int max_two min_two max_three min_three max_four min_four
set_option linter.unusedVariables false
set_option linter.unusedSimpArgs false
def spec_WriteEvents.l0:Nat→List Int→List (S52)→Int→Int→Int→List (S98)→Option (ByteArray)
 | 0,_,_,_,_,_,_=>none
 | k+1,x5,x11,x12,x13,x126000,x126001=>if x13<x12 then (if 0≤x13 then (if x13<(x11.length:Int) then ((spec_EventOk.f k x126000 x126001 ((rd_T52 x11 x13).f0) ((rd_T52 x11 x13).f1) ((rd_T52 x11 x13).f2)).bind fun t128=>(if t128=true then ((spec_l4line.f ((rd_T52 x11 x13).f0) ((rd_T52 x11 x13).f1) ((rd_T52 x11 x13).f2)).bind fun t129=>(if t129.size+1≤9223372036854775807 then (if x5.length+(t129 ++ (⟨#[10]⟩:ByteArray)).size<140737488355328 then (spec_WriteEvents.l0 k (x5 ++ bytesOf (t129 ++ (⟨#[10]⟩:ByteArray))) x11 x12 (wrap64 (x13+1)) x126000 x126001) else (none)) else (none))) else (some (⟨#[]⟩:ByteArray)))) else (none)) else (none)) else (if (x5.length:Int) > 20000 then (some (⟨#[]⟩:ByteArray)) else (some (strOfNums x5)))
def spec_WriteEvents.f (k:Nat) (a0_0:Int) (l0_1:List (S98)) (l1:List (S52)):Option (ByteArray):=if (l1.length:Int) > 2000 then (some (⟨#[]⟩:ByteArray)) else (spec_WriteEvents.l0 k ([]:List Int) l1 (l1.length:Int) 0 a0_0 l0_1)
set_option maxHeartbeats 8000000 in
set_option maxRecDepth 100000 in
theorem spec_WriteEvents.calls (k:Nat) (a0_0:Int) (A0_1:Option Addr) (c0_1:Nat) (l0_1:List (S98)) (A1:Option Addr) (c1:Nat) (l1:List (S52)) (r:ByteArray) (w:World) (hr0_1:Kd.C k98 w A0_1 l0_1.length l0_1) (hc0_1:l0_1.length≤c0_1) (hr1:Kd.C k52 w A1 l1.length l1) (hc1:l1.length≤c1) (h:spec_WriteEvents.f k a0_0 l0_1 l1=some r) :
  Calls Tryd.prog 9 #[.agg #[.int .i64 a0_0,.slice A0_1 l0_1.length c0_1],.slice A1 l1.length c1] w fun e w'=>e=.returned (.string r)∧Below w.heap.size w w':=by
 have hu31:=Tryd.underlying31
 have hu52:=Tryd.underlying52
 have HR0_1:=Aside0.mk hr0_1
 have HC0_1:=Aside0.mk hc0_1
 clear hr0_1 hc0_1
 have HR1:=Aside0.mk hr1
 have HC1:=Aside0.mk hc1
 clear hr1 hc1
 have HB:=Aside0.mk (Below.refl w.heap.size w)
 have H:(if (l1.length:Int) > 2000 then (some (⟨#[]⟩:ByteArray)) else (spec_WriteEvents.l0 k ([]:List Int) l1 (l1.length:Int) 0 a0_0 l0_1))=some r:=h
 clear h
 by_cases c3:(l1.length:Int) > 2000
 ·rw [if_pos c3] at H
  have c3b0:decide (2000<(l1.length:Int))=true:=decide_eq_true c3
  have c3b1:decide (2000<l1.length)=true:=decide_eq_true (by omega)
  clear c3
  obtain rfl:=Option.some.inj H
  go_enter Tryd.func9,Tryd.ntmps9
  go_wp2_with (first|((with_reducible refine gate_dst (N:=2) rfl ?_);refine box_event ?hg (N:=2) ?hd (cs:=#[.int .i64 a0_0,.slice A0_1 l0_1.length c0_1]) (t:=31) ?hr ?_;(case hd=>rfl);(case hg=>rfl);(case hr=>first|(go_simp;done)|(go_simp;rfl));intro gb125 hg w4 hbox hb;have n0_:=Aside0.mk (below_step (by exact HB.out) hb);have n1_:=Aside0.mk (hbox);have n2_:=Aside0.mk ((by rw [hg];exact (below_size (by exact HB.out)):w.heap.size≤gb125));have n3_:=Aside0.mk ((by rw [hg];exact (below_size (by exact HB.out)):w.heap.size≤gb125));clear HB;have HB:=n0_;have BK125:=n1_;have GW125:=n2_;have GE125:=n3_;clear n0_ n1_ n2_ n3_;clear hb hbox hg))
  go_ret
  exact ⟨by first|rfl|(simp [errW_none,errW_some] <;> rfl)|(simp [*,errW_none,errW_some] <;> rfl),by repeat (first|(with_reducible first|exact HB.out|apply below_alloc|apply pw_below_drewN|apply below_drew1|refine below_set ?_ GE125.out)|exact HB.out)⟩
 rw [if_neg c3] at H
 have c3b0:decide (2000<(l1.length:Int))=false:=decide_eq_false c3
 have c3b1:decide (2000<l1.length)=false:=decide_eq_false (by omega)
 clear c3
 have H':=Aside0.mk H
 clear H
 go_enter Tryd.func9,Tryd.ntmps9
 go_wp2_with (first|((with_reducible refine gate_dst (N:=2) rfl ?_);refine box_event ?hg (N:=2) ?hd (cs:=#[.int .i64 a0_0,.slice A0_1 l0_1.length c0_1]) (t:=31) ?hr ?_;(case hd=>rfl);(case hg=>rfl);(case hr=>first|(go_simp;done)|(go_simp;rfl));intro gb125 hg w5 hbox hb;have n0_:=Aside0.mk (below_step (by repeat (first|(with_reducible first|exact HB.out|apply below_alloc|apply pw_below_drewN|apply below_drew1)|exact HB.out)) hb);have n1_:=Aside0.mk (hbox);have n2_:=Aside0.mk ((by rw [hg];exact (below_size (by repeat (first|(with_reducible first|exact HB.out|apply below_alloc|apply pw_below_drewN|apply below_drew1)|exact HB.out))):w.heap.size≤gb125));have n3_:=Aside0.mk ((by rw [hg];exact (below_size (by repeat (first|(with_reducible first|exact HB.out|apply below_alloc|apply pw_below_drewN|apply below_drew1)|exact HB.out))):w.heap.size≤gb125));clear HB;have HB:=n0_;have BK125:=n1_;have GW125:=n2_;have GE125:=n3_;clear n0_ n1_ n2_ n3_;clear hb hbox hg))
 go_loopg [5,13] k (fun kq v5 v13 w'=>∃ (x5_1:List Int) (x13_1:Int),v13=.int .i64 x13_1∧Aside0 (spec_WriteEvents.l0 kq x5_1 l1 (l1.length:Int) x13_1 a0_0 l0_1=some r)∧Aside0 (kq≤k)∧Aside0 (Kd.R (Kd.int .u8) 5 w' w.heap.size (fun _=>True) v5 x5_1)∧Aside0 (w'.heap[gb125]?=some (.cells #[.int .i64 a0_0,(.slice A0_1 l0_1.length c0_1)] 31 (0,0)))∧Aside0 (Below w.heap.size w w'))
 case atStart=>exact ⟨(([]:List Int)),(0),(by first|rfl|(simp;done)|(simp [*];done)),H',⟨Nat.le_refl _⟩,⟨by first|exact Kd.R_nil _ _ _ _ _|exact Kd.N_nil _ _ _ _ _|exact Kd.V_nil _ _ _ _ _|exact Kd.Q_nil _ _ _ _ _|exact Kd.S_nil _ _ _ _ _⟩,⟨by (with_reducible repeat (first|refine blk_drewN ?_ _|refine blk_drew ?_|refine blk_alloc ?_ _));exact BK125.out⟩,⟨by repeat (first|(with_reducible first|exact HB.out|apply below_alloc|apply pw_below_drewN|apply below_drew1|refine below_set ?_ GE125.out)|exact HB.out)⟩⟩
 case round =>
  clear H'
  try clear c1
  try clear p2
  try clear c3
  try clear c3b0
  try clear c3b1
  obtain ⟨x5_1,x13_1,rfl,HA,HK1,HO_5,BK125,HB⟩:=hrel
  cases gk with
  | zero=>exact absurd HA.out (by simp [spec_WriteEvents.l0])
  | succ k1 =>
   have H:=HA.out
   clear HA
   simp only [spec_WriteEvents.l0] at H
   by_cases c6:x13_1<(l1.length:Int)
   ·rw [if_pos c6] at H
    have c6b0:decide (x13_1<(l1.length:Int))=true:=decide_eq_true c6
    clear c6
    by_cases c7:0≤x13_1
    ·rw [if_pos c7] at H
     have c7b0:decide (0≤x13_1)=true:=decide_eq_true c7
     clear c7
     by_cases c8:x13_1<(l1.length:Int)
     ·rw [if_pos c8] at H
      have c8b0:decide (x13_1<(l1.length:Int))=true:=decide_eq_true c8
      clear c8
      replace H:=Option.bind_eq_some_iff.mp H
      obtain ⟨t128,A90,H⟩:=H
      replace H:(if t128=true then ((spec_l4line.f ((rd_T52 l1 x13_1).f0) ((rd_T52 l1 x13_1).f1) ((rd_T52 l1 x13_1).f2)).bind fun t129=>(if t129.size+1≤9223372036854775807 then (if x5_1.length+(t129 ++ (⟨#[10]⟩:ByteArray)).size<140737488355328 then (spec_WriteEvents.l0 k1 (x5_1 ++ bytesOf (t129 ++ (⟨#[10]⟩:ByteArray))) l1 (l1.length:Int) (wrap64 (x13_1+1)) a0_0 l0_1) else (none)) else (none))) else (some (⟨#[]⟩:ByteArray)))=some r:=H
      have A9:=Aside0.mk A90
      clear A90
      by_cases c10:t128=true
      ·subst c10
       have H1:((spec_l4line.f ((rd_T52 l1 x13_1).f0) ((rd_T52 l1 x13_1).f1) ((rd_T52 l1 x13_1).f2)).bind fun t129=>(if t129.size+1≤9223372036854775807 then (if x5_1.length+(t129 ++ (⟨#[10]⟩:ByteArray)).size<140737488355328 then (spec_WriteEvents.l0 k1 (x5_1 ++ bytesOf (t129 ++ (⟨#[10]⟩:ByteArray))) l1 (l1.length:Int) (wrap64 (x13_1+1)) a0_0 l0_1) else (none)) else (none)))=some r:=by rw [if_pos rfl] at H;exact H
       clear H
       have H:=H1
       clear H1
       replace H:=Option.bind_eq_some_iff.mp H
       obtain ⟨t129,A110,H⟩:=H
       replace H:(if t129.size+1≤9223372036854775807 then (if x5_1.length+(t129 ++ (⟨#[10]⟩:ByteArray)).size<140737488355328 then (spec_WriteEvents.l0 k1 (x5_1 ++ bytesOf (t129 ++ (⟨#[10]⟩:ByteArray))) l1 (l1.length:Int) (wrap64 (x13_1+1)) a0_0 l0_1) else (none)) else (none))=some r:=H
       have A11:=Aside0.mk A110
       clear A110
       by_cases c12:t129.size+1≤9223372036854775807
       ·rw [if_pos c12] at H
        have c12b0:=eq_true c12
        have c12b1:decide (t129.size+1≤9223372036854775807)=true:=decide_eq_true c12
        try have c12b2:(9223372036854775807<t129.size+1)=False:=eq_false (Nat.not_lt.2 c12)
        by_cases c13:x5_1.length+(t129 ++ (⟨#[10]⟩:ByteArray)).size<140737488355328
        ·rw [if_pos c13] at H
         have LMc13:=Aside0.mk c13
         clear c13
         obtain ⟨y130,hy130⟩:∃ y_:List Int,y_=(x5_1 ++ bytesOf (t129 ++ (⟨#[10]⟩:ByteArray))):=⟨_,rfl⟩
         replace H:(spec_WriteEvents.l0 k1 y130 l1 (l1.length:Int) (wrap64 (x13_1+1)) a0_0 l0_1)=some r:=by first|(rw [hy130];with_reducible exact H)|(have H2_:=(Option.bind_some _ _).symm.trans H;rw [hy130];with_reducible exact H2_)|(have H2_:=(Option.bind_some _ _).symm.trans H;with_reducible exact H2_)|with_reducible exact H|(rw [hy130];exact H)|exact H
         have Ny130:=Aside0.mk hy130
         clear hy130
         have H':=Aside0.mk H
         clear H
         have p126:0≤(x13_1:Int):=of_decide_eq_true (by first|(with_reducible assumption)|assumption)
         have q126:x13_1<(l1.length:Int):=of_decide_eq_true (by first|(with_reducible assumption)|assumption)
         obtain ⟨ad126,e126,hx126_0,hx126_1,hx126_2⟩:=at_T52 HR1.out x13_1 p126 q126
         cases e126
         replace hx126_0:=(HB.out.cell (World.block_lt_of_cell? w _ hx126_0)).trans hx126_0
         replace hx126_1:=(HB.out.cell (World.block_lt_of_cell? w _ hx126_1)).trans hx126_1
         replace hx126_2:=(HB.out.cell (World.block_lt_of_cell? w _ hx126_2)).trans hx126_2
         replace p126:=eq_true p126
         replace q126:=eq_true q126
         go_wp2_with (first|((with_reducible refine gate_dst (N:=7) rfl ?_);refine box_event ?hg (N:=7) ?hd (cs:=#[.int .i64 0,.int .i64 0,.int .i64 0]) (t:=52) ?hr ?_;(case hd=>rfl);(case hg=>rfl);(case hr=>first|(go_simp;done)|(go_simp;rfl));intro gb127 hg w14 hbox hb;have n0_:=Aside0.mk (Kd.R_below (by (with_reducible repeat (first|apply Kd.R_alloc|apply Kd.R_drewN|apply Kd.R_drew));exact HO_5.out) hb);have n1_:=Aside0.mk (blk_below (g:=gb125) (o:=.cells #[.int .i64 a0_0,.slice A0_1 l0_1.length c0_1] 31 (0,0)) (by (with_reducible repeat (first|refine blk_drewN ?_ _|refine blk_drew ?_|refine blk_alloc ?_ _));exact BK125.out) hb);have n2_:=Aside0.mk (below_step (by repeat (first|(with_reducible first|exact HB.out|apply below_alloc|apply pw_below_drewN|apply below_drew1|refine below_set ?_ GE125.out)|exact HB.out)) hb);have n3_:=Aside0.mk (hbox);have n4_:=Aside0.mk ((by rw [hg];exact (below_size (by repeat (first|(with_reducible first|exact HB.out|apply below_alloc|apply pw_below_drewN|apply below_drew1|refine below_set ?_ GE125.out)|exact HB.out))):w.heap.size≤gb127));have n5_:=Aside0.mk ((by rw [hg];exact (below_size (by repeat (first|(with_reducible first|exact HB.out|apply below_alloc|apply pw_below_drewN|apply below_drew1|refine below_set ?_ GE125.out)|exact HB.out))):w.heap.size≤gb127));have n6_:=Aside0.mk ((by rw [hg];exact Nat.ne_of_lt (blk_lt (g:=gb125) (o:=.cells #[.int .i64 a0_0,.slice A0_1 l0_1.length c0_1] 31 (0,0)) (by (with_reducible repeat (first|refine blk_drewN ?_ _|refine blk_drew ?_|refine blk_alloc ?_ _));exact BK125.out)):gb125 ≠ gb127));have n7_:=Aside0.mk ((by rw [hg];exact Nat.ne_of_gt (blk_lt (g:=gb125) (o:=.cells #[.int .i64 a0_0,.slice A0_1 l0_1.length c0_1] 31 (0,0)) (by (with_reducible repeat (first|refine blk_drewN ?_ _|refine blk_drew ?_|refine blk_alloc ?_ _));exact BK125.out)):gb127 ≠ gb125));clear HO_5;clear BK125;clear HB;have HO_5:=n0_;have BK125:=n1_;have HB:=n2_;have BK127:=n3_;have GW127:=n4_;have GE127:=n5_;have NB125_127:=n6_;have NB127_125:=n7_;clear n0_ n1_ n2_ n3_ n4_ n5_ n6_ n7_;clear hb hbox hg;have hnb15:=NB127_125.out;have hnc15:=NB125_127.out;have hcz16_0:w14.cell? ⟨gb127,0,none⟩=some (.int .i64 0):=(blk_cell BK127.out 0).trans rfl;have hcz16_1:w14.cell? ⟨gb127,1,none⟩=some (.int .i64 0):=(blk_cell BK127.out 1).trans rfl;have hcz16_2:w14.cell? ⟨gb127,2,none⟩=some (.int .i64 0):=(blk_cell BK127.out 2).trans rfl;have hfz16_0:=blk_frozen BK127.out 0;have hfz16_1:=blk_frozen BK127.out 1;have hfz16_2:=blk_frozen BK127.out 2;have hcz17_0:w14.cell? ⟨gb125,0,none⟩=some (.int .i64 a0_0):=(blk_cell BK125.out 0).trans rfl;have hcz17_1:w14.cell? ⟨gb125,1,none⟩=some (.slice A0_1 l0_1.length c0_1):=(blk_cell BK125.out 1).trans rfl;have hfz17_0:=blk_frozen BK125.out 0;have hfz17_1:=blk_frozen BK125.out 1)|((with_reducible refine gate_callee (f:=26) rfl ?_);refine goesL_ (some 19) rfl rfl Tryd.func26 (by kernel_rfl) rfl #[.agg #[.int .i64 a0_0,.slice A0_1 l0_1.length c0_1],.agg #[.int .i64 ((rd_T52 l1 x13_1).f0),.int .i64 ((rd_T52 l1 x13_1).f1),.int .i64 ((rd_T52 l1 x13_1).f2)]] rfl (by (try simp only [List.map_toArray,List.map_cons,List.map_nil]);first|done|rfl|(simp only [List.length_drop,List.length_take];rfl)) ?_;(with_reducible refine (spec_EventOk.calls k1 a0_0 _ _ l0_1 ((rd_T52 l1 x13_1).f0) ((rd_T52 l1 x13_1).f1) ((rd_T52 l1 x13_1).f2) true _ ?side1 ?side2 A9.out).mono ?_);(case side1=>exact Kd.C_below HR0_1.out (by repeat (first|(with_reducible first|exact HB.out|apply below_alloc|apply pw_below_drewN|apply below_drew1|refine below_set ?_ GE125.out|refine below_set ?_ GE127.out)|exact HB.out)));(case side2=>exact HC0_1.out);rintro e w18 ⟨rfl,hb⟩;refine ⟨_,rfl,?_⟩;have n0_:=Aside0.mk (Kd.R_below (by (with_reducible repeat (first|apply Kd.R_alloc|apply Kd.R_drewN|apply Kd.R_drew));exact (Kd.R_mono (Kd.R_far (p:=⟨gb127,2,none⟩) (Kd.R_far (p:=⟨gb127,1,none⟩) (Kd.R_far (p:=⟨gb127,0,none⟩) (Kd.R_types HO_5.out BK127.out (by decide)) (fun _ hk=>hk.2) (.int .i64 ((rd_T52 l1 x13_1).f0))) (fun _ hk=>hk.2) (.int .i64 ((rd_T52 l1 x13_1).f1))) (fun _ hk=>hk.2) (.int .i64 ((rd_T52 l1 x13_1).f2))) (fun _ h_=>h_.1))) hb);have n1_:=Aside0.mk (blk_below (g:=gb125) (o:=.cells #[.int .i64 a0_0,.slice A0_1 l0_1.length c0_1] 31 (0,0)) (by (with_reducible repeat (first|refine blk_drewN ?_ _|refine blk_drew ?_|refine blk_alloc ?_ _));refine blk_far ?_ NB125_127.out _;(with_reducible repeat (first|refine blk_drewN ?_ _|refine blk_drew ?_|refine blk_alloc ?_ _));refine blk_far ?_ NB125_127.out _;(with_reducible repeat (first|refine blk_drewN ?_ _|refine blk_drew ?_|refine blk_alloc ?_ _));refine blk_far ?_ NB125_127.out _;(with_reducible repeat (first|refine blk_drewN ?_ _|refine blk_drew ?_|refine blk_alloc ?_ _));exact BK125.out) hb);have n2_:=Aside0.mk (blk_below (g:=gb127) (o:=.cells #[.int .i64 ((rd_T52 l1 x13_1).f0),.int .i64 ((rd_T52 l1 x13_1).f1),.int .i64 ((rd_T52 l1 x13_1).f2)] 52 (0,0)) (by (with_reducible repeat (first|refine blk_drewN ?_ _|refine blk_drew ?_|refine blk_alloc ?_ _));refine blk_put (cs:=#[.int .i64 ((rd_T52 l1 x13_1).f0),.int .i64 ((rd_T52 l1 x13_1).f1),.int .i64 0]) ?_ 2 _ rfl;(with_reducible repeat (first|refine blk_drewN ?_ _|refine blk_drew ?_|refine blk_alloc ?_ _));refine blk_put (cs:=#[.int .i64 ((rd_T52 l1 x13_1).f0),.int .i64 0,.int .i64 0]) ?_ 1 _ rfl;(with_reducible repeat (first|refine blk_drewN ?_ _|refine blk_drew ?_|refine blk_alloc ?_ _));refine blk_put (cs:=#[.int .i64 0,.int .i64 0,.int .i64 0]) ?_ 0 _ rfl;(with_reducible repeat (first|refine blk_drewN ?_ _|refine blk_drew ?_|refine blk_alloc ?_ _));exact BK127.out) hb);have n3_:=Aside0.mk (below_step (by repeat (first|(with_reducible first|exact HB.out|apply below_alloc|apply pw_below_drewN|apply below_drew1|refine below_set ?_ GE125.out|refine below_set ?_ GE127.out)|exact HB.out)) hb);clear HO_5;clear BK125;clear BK127;clear HB;have HO_5:=n0_;have BK125:=n1_;have BK127:=n2_;have HB:=n3_;clear n0_ n1_ n2_ n3_;(try clear hb);(try clear hb2);(try clear hk);(try clear hi);have hcz19_0:w18.cell? ⟨gb127,0,none⟩=some (.int .i64 ((rd_T52 l1 x13_1).f0)):=(blk_cell BK127.out 0).trans rfl;have hcz19_1:w18.cell? ⟨gb127,1,none⟩=some (.int .i64 ((rd_T52 l1 x13_1).f1)):=(blk_cell BK127.out 1).trans rfl;have hcz19_2:w18.cell? ⟨gb127,2,none⟩=some (.int .i64 ((rd_T52 l1 x13_1).f2)):=(blk_cell BK127.out 2).trans rfl;have hfz19_0:=blk_frozen BK127.out 0;have hfz19_1:=blk_frozen BK127.out 1;have hfz19_2:=blk_frozen BK127.out 2)|((with_reducible refine gate_callee (f:=27) rfl ?_);refine goesL_ (some 23) rfl rfl Tryd.func27 (by kernel_rfl) rfl #[.agg #[.int .i64 ((rd_T52 l1 x13_1).f0),.int .i64 ((rd_T52 l1 x13_1).f1),.int .i64 ((rd_T52 l1 x13_1).f2)]] rfl (by (try simp only [List.map_toArray,List.map_cons,List.map_nil]);first|done|rfl|(simp only [List.length_drop,List.length_take];rfl)) ?_;(with_reducible refine (spec_l4line.calls ((rd_T52 l1 x13_1).f0) ((rd_T52 l1 x13_1).f1) ((rd_T52 l1 x13_1).f2) t129 _ A11.out).mono ?_);rintro e w20 ⟨rfl,hb⟩;refine ⟨_,rfl,?_⟩;have n0_:=Aside0.mk (Kd.R_below (by (with_reducible repeat (first|apply Kd.R_alloc|apply Kd.R_drewN|apply Kd.R_drew));exact HO_5.out) hb);have n1_:=Aside0.mk (blk_below (g:=gb125) (o:=.cells #[.int .i64 a0_0,.slice A0_1 l0_1.length c0_1] 31 (0,0)) (by (with_reducible repeat (first|refine blk_drewN ?_ _|refine blk_drew ?_|refine blk_alloc ?_ _));exact BK125.out) hb);have n2_:=Aside0.mk (blk_below (g:=gb127) (o:=.cells #[.int .i64 ((rd_T52 l1 x13_1).f0),.int .i64 ((rd_T52 l1 x13_1).f1),.int .i64 ((rd_T52 l1 x13_1).f2)] 52 (0,0)) (by (with_reducible repeat (first|refine blk_drewN ?_ _|refine blk_drew ?_|refine blk_alloc ?_ _));exact BK127.out) hb);have n3_:=Aside0.mk (below_step (by repeat (first|(with_reducible first|exact HB.out|apply below_alloc|apply pw_below_drewN|apply below_drew1|refine below_set ?_ GE125.out|refine below_set ?_ GE127.out)|exact HB.out)) hb);clear HO_5;clear BK125;clear BK127;clear HB;have HO_5:=n0_;have BK125:=n1_;have BK127:=n2_;have HB:=n3_;clear n0_ n1_ n2_ n3_;(try clear hb);(try clear hb2);(try clear hk);(try clear hi))|(at_builtin;refine print_append_str (w0:=w) w.heap.size rfl (.tmp 21) _ 46 9 5 rfl Tryd.underlying46 Tryd.underlying9 info5 u5 x5_1 (t129 ++ (⟨#[10]⟩:ByteArray)) rfl rfl ?aO ?aB ?aS ?aL ?_;(case aB=>exact (by repeat (first|(with_reducible first|exact HB.out|apply below_alloc|apply pw_below_drewN|apply below_drew1|refine below_set ?_ GE125.out|refine below_set ?_ GE127.out)|exact HB.out)));(case aO=>exact (Kd.own_of_R (by (with_reducible repeat (first|apply Kd.R_alloc|apply Kd.R_drewN|apply Kd.R_drew));exact HO_5.out)));(case aS=>exact (below_size (by repeat (first|(with_reducible first|exact HB.out|apply below_alloc|apply pw_below_drewN|apply below_drew1|refine below_set ?_ GE125.out|refine below_set ?_ GE127.out)|exact HB.out))));(case aL=>have:=LMc13.out;omega);intro v131 w21 ho0 hb hg;have ho:=Kd.R_of_own (h1:=fun _=>rfl) (ok:=fun _=>True) ho0 (fun _ _=>trivial);clear ho0;have hat:=True.intro;rw [← Ny130.out] at ho;change Kd.R (Kd.int .u8) 5 w21 w.heap.size (fun _=>True) v131 y130 at ho;have n0_:=Aside0.mk (blk_grown (g:=gb125) (o:=.cells #[.int .i64 a0_0,.slice A0_1 l0_1.length c0_1] 31 (0,0)) (by (with_reducible repeat (first|refine blk_drewN ?_ _|refine blk_drew ?_|refine blk_alloc ?_ _));exact BK125.out) hg (Kd.R_ne HO_5.out BK125.out (by decide)));have n1_:=Aside0.mk (blk_grown (g:=gb127) (o:=.cells #[.int .i64 ((rd_T52 l1 x13_1).f0),.int .i64 ((rd_T52 l1 x13_1).f1),.int .i64 ((rd_T52 l1 x13_1).f2)] 52 (0,0)) (by (with_reducible repeat (first|refine blk_drewN ?_ _|refine blk_drew ?_|refine blk_alloc ?_ _));exact BK127.out) hg (Kd.R_ne HO_5.out BK127.out (by decide)));have n2_:=Aside0.mk (hb);have n3_:=Aside0.mk (ho);clear BK125;clear BK127;clear HB;clear HO_5;have BK125:=n0_;have BK127:=n1_;have HB:=n2_;have HO132:=n3_;clear n0_ n1_ n2_ n3_;clear ho hb hg hat))
         go_roundg k1
         case measure=>have:=HK1.out;omega
         case rel=>exact ⟨(y130),(wrap64 (x13_1+1)),(by first|rfl|(simp;done)|(simp [*];done)),H',⟨by have:=HK1.out;omega⟩,⟨by (with_reducible repeat (first|apply Kd.R_alloc|apply Kd.R_drewN|apply Kd.R_drew));exact HO132.out⟩,⟨by (with_reducible repeat (first|refine blk_drewN ?_ _|refine blk_drew ?_|refine blk_alloc ?_ _));exact BK125.out⟩,⟨by repeat (first|(with_reducible first|exact HB.out|apply below_alloc|apply pw_below_drewN|apply below_drew1|refine below_set ?_ GE125.out|refine below_set ?_ GE127.out)|exact HB.out)⟩⟩
        rw [if_neg c13] at H
        exact absurd H (by simp)
       rw [if_neg c12] at H
       exact absurd H (by simp)
      replace c10:=Bool.eq_false_iff.mpr c10
      subst c10
      have H1:(some (⟨#[]⟩:ByteArray))=some r:=by rw [if_neg (show ¬ (false=true) by decide)] at H;exact H
      clear H
      have H:=H1
      clear H1
      obtain rfl:=Option.some.inj H
      have p126:0≤(x13_1:Int):=of_decide_eq_true (by first|(with_reducible assumption)|assumption)
      have q126:x13_1<(l1.length:Int):=of_decide_eq_true (by first|(with_reducible assumption)|assumption)
      obtain ⟨ad126,e126,hx126_0,hx126_1,hx126_2⟩:=at_T52 HR1.out x13_1 p126 q126
      cases e126
      replace hx126_0:=(HB.out.cell (World.block_lt_of_cell? w _ hx126_0)).trans hx126_0
      replace hx126_1:=(HB.out.cell (World.block_lt_of_cell? w _ hx126_1)).trans hx126_1
      replace hx126_2:=(HB.out.cell (World.block_lt_of_cell? w _ hx126_2)).trans hx126_2
      replace p126:=eq_true p126
      replace q126:=eq_true q126
      go_wp2_with (first|((with_reducible refine gate_dst (N:=7) rfl ?_);refine box_event ?hg (N:=7) ?hd (cs:=#[.int .i64 0,.int .i64 0,.int .i64 0]) (t:=52) ?hr ?_;(case hd=>rfl);(case hg=>rfl);(case hr=>first|(go_simp;done)|(go_simp;rfl));intro gb127 hg w22 hbox hb;have n0_:=Aside0.mk (Kd.R_below (by (with_reducible repeat (first|apply Kd.R_alloc|apply Kd.R_drewN|apply Kd.R_drew));exact HO_5.out) hb);have n1_:=Aside0.mk (blk_below (g:=gb125) (o:=.cells #[.int .i64 a0_0,.slice A0_1 l0_1.length c0_1] 31 (0,0)) (by (with_reducible repeat (first|refine blk_drewN ?_ _|refine blk_drew ?_|refine blk_alloc ?_ _));exact BK125.out) hb);have n2_:=Aside0.mk (below_step (by repeat (first|(with_reducible first|exact HB.out|apply below_alloc|apply pw_below_drewN|apply below_drew1|refine below_set ?_ GE125.out)|exact HB.out)) hb);have n3_:=Aside0.mk (hbox);have n4_:=Aside0.mk ((by rw [hg];exact (below_size (by repeat (first|(with_reducible first|exact HB.out|apply below_alloc|apply pw_below_drewN|apply below_drew1|refine below_set ?_ GE125.out)|exact HB.out))):w.heap.size≤gb127));have n5_:=Aside0.mk ((by rw [hg];exact (below_size (by repeat (first|(with_reducible first|exact HB.out|apply below_alloc|apply pw_below_drewN|apply below_drew1|refine below_set ?_ GE125.out)|exact HB.out))):w.heap.size≤gb127));have n6_:=Aside0.mk ((by rw [hg];exact Nat.ne_of_lt (blk_lt (g:=gb125) (o:=.cells #[.int .i64 a0_0,.slice A0_1 l0_1.length c0_1] 31 (0,0)) (by (with_reducible repeat (first|refine blk_drewN ?_ _|refine blk_drew ?_|refine blk_alloc ?_ _));exact BK125.out)):gb125 ≠ gb127));have n7_:=Aside0.mk ((by rw [hg];exact Nat.ne_of_gt (blk_lt (g:=gb125) (o:=.cells #[.int .i64 a0_0,.slice A0_1 l0_1.length c0_1] 31 (0,0)) (by (with_reducible repeat (first|refine blk_drewN ?_ _|refine blk_drew ?_|refine blk_alloc ?_ _));exact BK125.out)):gb127 ≠ gb125));clear HO_5;clear BK125;clear HB;have HO_5:=n0_;have BK125:=n1_;have HB:=n2_;have BK127:=n3_;have GW127:=n4_;have GE127:=n5_;have NB125_127:=n6_;have NB127_125:=n7_;clear n0_ n1_ n2_ n3_ n4_ n5_ n6_ n7_;clear hb hbox hg;have hnb23:=NB127_125.out;have hnc23:=NB125_127.out;have hcz24_0:w22.cell? ⟨gb127,0,none⟩=some (.int .i64 0):=(blk_cell BK127.out 0).trans rfl;have hcz24_1:w22.cell? ⟨gb127,1,none⟩=some (.int .i64 0):=(blk_cell BK127.out 1).trans rfl;have hcz24_2:w22.cell? ⟨gb127,2,none⟩=some (.int .i64 0):=(blk_cell BK127.out 2).trans rfl;have hfz24_0:=blk_frozen BK127.out 0;have hfz24_1:=blk_frozen BK127.out 1;have hfz24_2:=blk_frozen BK127.out 2;have hcz25_0:w22.cell? ⟨gb125,0,none⟩=some (.int .i64 a0_0):=(blk_cell BK125.out 0).trans rfl;have hcz25_1:w22.cell? ⟨gb125,1,none⟩=some (.slice A0_1 l0_1.length c0_1):=(blk_cell BK125.out 1).trans rfl;have hfz25_0:=blk_frozen BK125.out 0;have hfz25_1:=blk_frozen BK125.out 1)|((with_reducible refine gate_callee (f:=26) rfl ?_);refine goesL_ (some 19) rfl rfl Tryd.func26 (by kernel_rfl) rfl #[.agg #[.int .i64 a0_0,.slice A0_1 l0_1.length c0_1],.agg #[.int .i64 ((rd_T52 l1 x13_1).f0),.int .i64 ((rd_T52 l1 x13_1).f1),.int .i64 ((rd_T52 l1 x13_1).f2)]] rfl (by (try simp only [List.map_toArray,List.map_cons,List.map_nil]);first|done|rfl|(simp only [List.length_drop,List.length_take];rfl)) ?_;(with_reducible refine (spec_EventOk.calls k1 a0_0 _ _ l0_1 ((rd_T52 l1 x13_1).f0) ((rd_T52 l1 x13_1).f1) ((rd_T52 l1 x13_1).f2) false _ ?side1 ?side2 A9.out).mono ?_);(case side1=>exact Kd.C_below HR0_1.out (by repeat (first|(with_reducible first|exact HB.out|apply below_alloc|apply pw_below_drewN|apply below_drew1|refine below_set ?_ GE125.out|refine below_set ?_ GE127.out)|exact HB.out)));(case side2=>exact HC0_1.out);rintro e w26 ⟨rfl,hb⟩;refine ⟨_,rfl,?_⟩;have n0_:=Aside0.mk (Kd.R_below (by (with_reducible repeat (first|apply Kd.R_alloc|apply Kd.R_drewN|apply Kd.R_drew));exact (Kd.R_mono (Kd.R_far (p:=⟨gb127,2,none⟩) (Kd.R_far (p:=⟨gb127,1,none⟩) (Kd.R_far (p:=⟨gb127,0,none⟩) (Kd.R_types HO_5.out BK127.out (by decide)) (fun _ hk=>hk.2) (.int .i64 ((rd_T52 l1 x13_1).f0))) (fun _ hk=>hk.2) (.int .i64 ((rd_T52 l1 x13_1).f1))) (fun _ hk=>hk.2) (.int .i64 ((rd_T52 l1 x13_1).f2))) (fun _ h_=>h_.1))) hb);have n1_:=Aside0.mk (blk_below (g:=gb125) (o:=.cells #[.int .i64 a0_0,.slice A0_1 l0_1.length c0_1] 31 (0,0)) (by (with_reducible repeat (first|refine blk_drewN ?_ _|refine blk_drew ?_|refine blk_alloc ?_ _));refine blk_far ?_ NB125_127.out _;(with_reducible repeat (first|refine blk_drewN ?_ _|refine blk_drew ?_|refine blk_alloc ?_ _));refine blk_far ?_ NB125_127.out _;(with_reducible repeat (first|refine blk_drewN ?_ _|refine blk_drew ?_|refine blk_alloc ?_ _));refine blk_far ?_ NB125_127.out _;(with_reducible repeat (first|refine blk_drewN ?_ _|refine blk_drew ?_|refine blk_alloc ?_ _));exact BK125.out) hb);have n2_:=Aside0.mk (blk_below (g:=gb127) (o:=.cells #[.int .i64 ((rd_T52 l1 x13_1).f0),.int .i64 ((rd_T52 l1 x13_1).f1),.int .i64 ((rd_T52 l1 x13_1).f2)] 52 (0,0)) (by (with_reducible repeat (first|refine blk_drewN ?_ _|refine blk_drew ?_|refine blk_alloc ?_ _));refine blk_put (cs:=#[.int .i64 ((rd_T52 l1 x13_1).f0),.int .i64 ((rd_T52 l1 x13_1).f1),.int .i64 0]) ?_ 2 _ rfl;(with_reducible repeat (first|refine blk_drewN ?_ _|refine blk_drew ?_|refine blk_alloc ?_ _));refine blk_put (cs:=#[.int .i64 ((rd_T52 l1 x13_1).f0),.int .i64 0,.int .i64 0]) ?_ 1 _ rfl;(with_reducible repeat (first|refine blk_drewN ?_ _|refine blk_drew ?_|refine blk_alloc ?_ _));refine blk_put (cs:=#[.int .i64 0,.int .i64 0,.int .i64 0]) ?_ 0 _ rfl;(with_reducible repeat (first|refine blk_drewN ?_ _|refine blk_drew ?_|refine blk_alloc ?_ _));exact BK127.out) hb);have n3_:=Aside0.mk (below_step (by repeat (first|(with_reducible first|exact HB.out|apply below_alloc|apply pw_below_drewN|apply below_drew1|refine below_set ?_ GE125.out|refine below_set ?_ GE127.out)|exact HB.out)) hb);clear HO_5;clear BK125;clear BK127;clear HB;have HO_5:=n0_;have BK125:=n1_;have BK127:=n2_;have HB:=n3_;clear n0_ n1_ n2_ n3_;(try clear hb);(try clear hb2);(try clear hk);(try clear hi)))
      go_ret
      exact ⟨by first|rfl|(simp [errW_none,errW_some] <;> rfl)|(simp [*,errW_none,errW_some] <;> rfl),by exact HB.out⟩
     rw [if_neg c8] at H
     exact absurd H (by simp)
    rw [if_neg c7] at H
    exact absurd H (by simp)
   rw [if_neg c6] at H
   have c6b0:decide (x13_1<(l1.length:Int))=false:=decide_eq_false c6
   clear c6
   by_cases c27:(x5_1.length:Int) > 20000
   ·rw [if_pos c27] at H
    have c27b0:decide (20000<(x5_1.length:Int))=true:=decide_eq_true c27
    have c27b1:decide (20000<x5_1.length)=true:=decide_eq_true (by omega)
    clear c27
    obtain rfl:=Option.some.inj H
    obtain ⟨Ao28,co28,eo28⟩:=Kd.R_slice HO_5.out
    subst eo28
    go_wp2
    go_ret
    exact ⟨by first|rfl|(simp [errW_none,errW_some] <;> rfl)|(simp [*,errW_none,errW_some] <;> rfl),by exact HB.out⟩
   rw [if_neg c27] at H
   have c27b0:decide (20000<(x5_1.length:Int))=false:=decide_eq_false c27
   have c27b1:decide (20000<x5_1.length)=false:=decide_eq_false (by omega)
   clear c27
   obtain rfl:=Option.some.inj H
   obtain ⟨Ao29,co29,eo29⟩:=Kd.R_slice HO_5.out
   subst eo29
   have hcv30:=own_string (P:=Tryd.prog) Tryd.underlying46 Tryd.underlying5 Tryd.underlying9 (Kd.own_of_R HO_5.out)
   go_wp2
   go_ret
   exact ⟨by first|rfl|(simp [errW_none,errW_some] <;> rfl)|(simp [*,errW_none,errW_some] <;> rfl),by exact HB.out⟩
end Go.Proofs.YtpdnabhpkdchjaaDoor.P
namespace Go.Proofs.YtpdnabhpkdchjaaDoor.P
open Go Go.RowKit Go.Proofs.YtpdnabhpkdchjaaDoorW.PrintWords Go.Proofs.YtpdnabhpkdchjaaDoorW.PrintLast Go.Proofs.YtpdnabhpkdchjaaDoorW.PrintMore
set_option linter.unusedVariables false
set_option linter.unusedSimpArgs false
abbrev bs (l:List UInt8):ByteArray:=⟨l.toArray⟩
theorem bs_size (l:List UInt8):(bs l).size=l.length:=by simp [bs,ByteArray.size]
theorem bs_bytes (l:List UInt8):bytesOf (bs l)=l.map (fun b=>(b.toNat:Int)):=by simp [bytesOf,bs]
theorem nums_bs (l:List UInt8):strOfNums (l.map (fun b=>(b.toNat:Int)))=bs l:=by
 apply ByteArray.ext
 have h:(fun b:UInt8=>UInt8.ofNat ((b.toNat:Int)).toNat)=id:=by funext b;simp
 simp only [strOfNums,bs,List.map_map]
 rw [show ((fun n:Int=>UInt8.ofNat n.toNat) ∘ fun b:UInt8=>(b.toNat:Int))=id from h,List.map_id]
theorem words_eq (op:Int) (h:1≤op∧op≤5):rdOf ByteArray.empty [(⟨#[]⟩:ByteArray),(⟨#[112,97,115,115]⟩:ByteArray),(⟨#[103,104,111,115,116]⟩:ByteArray),(⟨#[100,101,97,100]⟩:ByteArray),(⟨#[97,108,105,118,101]⟩:ByteArray),(⟨#[114,101,115,101,116]⟩:ByteArray)] op=bs (wordB op.toNat):=by
 obtain rfl|rfl|rfl|rfl|rfl:op=1 ∨ op=2 ∨ op=3 ∨ op=4 ∨ op=5:=by omega
 all_goals rfl
theorem line_f {op of dir:Int} (h:1≤op∧op≤5) (ho:0≤of∧of≤119) (hd:-1≤dir∧dir≤1):spec_l4line.f op of dir=some (bs (wordB op.toNat ++ [32] ++ Lib.decDigits of.toNat ++ dirB dir)):=by
 have e1:spec_l4decimal.f of=some (bs (Lib.decDigits of.toNat)):=if_pos ⟨ho.1,by omega⟩
 have hw:=word_len op.toNat
 have hg:=digits_len of.toNat
 unfold spec_l4line.f
 rw [show spec_l4words.f=some _ from rfl,Option.bind_some,if_pos (by omega),if_pos (by show op<((6:Nat):Int);omega),words_eq op h,if_pos (by rw [bs_size];omega),e1,Option.bind_some]
 have a1:bs (wordB op.toNat) ++ (⟨#[32]⟩:ByteArray)=bs (wordB op.toNat ++ [32]):=bytes_app _ [32]
 have a2:bs (wordB op.toNat ++ [32]) ++ bs (Lib.decDigits of.toNat)=bs (wordB op.toNat ++ [32] ++ Lib.decDigits of.toNat):=bytes_app _ _
 rw [a1,if_pos (by rw [bs_size,bs_size,List.length_append,List.length_singleton];omega),a2]
 have sz:(bs (wordB op.toNat ++ [32] ++ Lib.decDigits of.toNat)).size+2≤9223372036854775807:=by rw [bs_size];simp only [List.length_append,List.length_singleton];omega
 obtain rfl|rfl|rfl:dir=1 ∨ dir=-1 ∨ dir=0:=by omega
 ·rw [if_pos (by omega),if_pos sz,if_neg (by omega)]
  exact congrArg some (bytes_app _ [32,43])
 ·rw [if_neg (by omega),if_pos (by omega),if_pos sz]
  exact congrArg some (bytes_app _ [32,45])
 rw [if_neg (by omega),if_neg (by omega)]
 simp [dirB]
theorem lineB_len {op of dir:Int} (ho:0≤of∧of≤119):(lineB op of dir).length≤130:=by
 have h1:=word_len op.toNat
 have h2:=digits_len of.toNat
 have h3:(dirB dir).length≤2:=by unfold dirB;split <;> (try split) <;> simp
 unfold lineB
 simp only [List.length_append,List.length_singleton]
 omega
theorem write_l0 (n:Int) (l:List S98) (es:List S52) (hes:es.length≤2000) (d:Nat):∀ (i:Nat),i+d=es.length→evsOk n l (es.take i)=true→Ev (fun k=>spec_WriteEvents.l0 k ((textB (es.take i)).map (fun b=>(b.toNat:Int))) es (es.length:Int) i n l) (bs (writeE n l es)):=by
 induction d with
 | zero =>
  intro i hi hok
  obtain rfl:i=es.length:=by omega
  rw [List.take_length] at hok ⊢
  refine Ev.step (f:=fun _=>some (bs (writeE n l es))) (fun k=>?_) (Ev.now _)
  rw [spec_WriteEvents.l0,if_neg (by omega),List.length_map]
  by_cases hl:layoutOk n l=0
  rotate_left
  ·have he:es=[]:=by
    rcases es with _|⟨e,es⟩
    ·rfl
    rw [evsOk,List.all_cons,Bool.and_eq_true] at hok
    exact absurd (ev_parts hok.1).1 hl
   subst he
   rw [if_neg (by simp [textB]),nums_bs,writeE,if_neg (fun h=>hl h.1)]
   rfl
  by_cases hb:(textB es).length≤20000
  ·rw [if_neg (by omega),nums_bs,writeE,if_pos ⟨hl,hes,hok,hb⟩]
  rw [if_pos (by omega),writeE,if_neg (fun h=>hb h.2.2.2)]
 | succ d ih =>
  intro i hi hok
  have hil:i<es.length:=by omega
  have hs:=textB_snoc es i hil
  have ht:=evsOk_take (n:=n) (l:=l) i hil
  rw [hok] at ht
  have hln:=textB_len hok
  have htl:(es.take i).length≤2000:=by rw [List.length_take];omega
  have key:∀ k,spec_WriteEvents.l0 (k+1) ((textB (es.take i)).map (fun b=>(b.toNat:Int))) es (es.length:Int) i n l=((spec_EventOk.f k n l es[i].f0 es[i].f1 es[i].f2).bind fun t128=>(if t128=true then ((spec_l4line.f es[i].f0 es[i].f1 es[i].f2).bind fun t129=>(if t129.size+1≤9223372036854775807 then (if ((textB (es.take i)).map (fun b=>(b.toNat:Int))).length+(t129 ++ (⟨#[10]⟩:ByteArray)).size<140737488355328 then (spec_WriteEvents.l0 k (((textB (es.take i)).map (fun b=>(b.toNat:Int))) ++ bytesOf (t129 ++ (⟨#[10]⟩:ByteArray))) es (es.length:Int) ((i+1:Nat):Int) n l) else (none)) else (none))) else (some (⟨#[]⟩:ByteArray)))):=by
   intro k
   rw [spec_WriteEvents.l0,if_pos (by omega),if_pos (by omega),if_pos (by omega),rd52 es i hil,wrap_succ (by omega)]
  refine Ev.step key ?_
  refine Ev.bind (specEventOk_ev n l _ _ _) ?_
  by_cases he:eventOk n l es[i].f0 es[i].f1 es[i].f2=true
  ·have hp:=ev_parts he
   refine Ev.ite_pos he ?_
   refine Ev.call (line_f hp.2.1 hp.2.2.1 hp.2.2.2.1) ?_
   have hL:=lineB_len (op:=es[i].f0) (dir:=es[i].f2) hp.2.2.1
   have e2:bs (wordB es[i].f0.toNat ++ [32] ++ Lib.decDigits es[i].f1.toNat ++ dirB es[i].f2) ++ (⟨#[10]⟩:ByteArray)=bs (evB es[i]):=bytes_app _ [10]
   have e3:(bs (wordB es[i].f0.toNat ++ [32] ++ Lib.decDigits es[i].f1.toNat ++ dirB es[i].f2)).size+1=(evB es[i]).length:=by
    rw [bs_size];unfold evB lineB;simp only [List.length_append,List.length_singleton]
   rw [e2,e3,bs_size,bs_bytes,← List.map_append,← hs,List.length_map]
   have hL':(evB es[i]).length≤130:=hL
   refine Ev.ite_pos (by omega) (Ev.ite_pos (by omega) ?_)
   exact ih (i+1) (by omega) (by rw [ht,he];rfl)
  have he':eventOk n l es[i].f0 es[i].f1 es[i].f2=false:=by simpa using he
  refine Ev.ite_neg he ?_
  have hw:writeE n l es=[]:=by
   rw [writeE,if_neg]
   rintro ⟨_,_,h3,_⟩
   rw [evsOk,List.all_eq_true] at h3
   have:=h3 _ (List.getElem_mem hil)
   rw [he'] at this
   cases this
  rw [hw]
  exact Ev.now _
theorem specWrite_ev (n:Int) (l:List S98) (es:List S52):Ev (fun k=>spec_WriteEvents.f k n l es) (bs (writeE n l es)):=by
 unfold spec_WriteEvents.f
 by_cases h:es.length≤2000
 ·refine Ev.ite_neg (by omega) ?_
  have:=write_l0 n l es h es.length 0 (by omega) (by simp [evsOk])
  simpa [textB] using this
 refine Ev.ite_pos (by omega) ?_
 rw [writeE,if_neg (fun hh=>h hh.2.1)]
 exact Ev.now _
end Go.Proofs.YtpdnabhpkdchjaaDoor.P
namespace Go.Proofs.YtpdnabhpkdchjaaDoor.P
open Go Go.RowKit Go.Proofs.YtpdnabhpkdchjaaDoorW.PrintWords Go.Proofs.YtpdnabhpkdchjaaDoorW.PrintLast Go.Proofs.YtpdnabhpkdchjaaDoorW.PrintMore
set_option linter.unusedVariables false
set_option linter.unusedSimpArgs false
def numOf (l:List UInt8):Nat:=l.foldl (fun a b=>a * 10+(b.toNat - 48)) 0
theorem numOf_digits (n:Nat):numOf (Lib.decDigits n)=n:=by
 induction n using Nat.strongRecOn with
 | ind n ih =>
  rw [Lib.decDigits]
  by_cases h:n<10
  ·rw [dif_pos h]
   show 0 * 10+((UInt8.ofNat (48+n)).toNat - 48)=n
   rw [UInt8.toNat_ofNat']
   omega
  rw [dif_neg h]
  have:=ih (n / 10) (by omega)
  unfold numOf at this ⊢
  rw [List.foldl_append,this]
  show n / 10 * 10+((UInt8.ofNat (48+n % 10)).toNat - 48)=n
  rw [UInt8.toNat_ofNat']
  omega
theorem digits_inj {a b:Nat} (h:Lib.decDigits a=Lib.decDigits b):a=b:=by
 rw [← numOf_digits a,← numOf_digits b,h]
theorem digits_plain (n:Nat):∀ x ∈ Lib.decDigits n,48≤x.toNat∧x.toNat≤57:=by
 induction n using Nat.strongRecOn with
 | ind n ih =>
  rw [Lib.decDigits]
  by_cases h:n<10
  ·rw [dif_pos h]
   intro x hx
   obtain rfl:x=UInt8.ofNat (48+n):=by simpa using hx
   rw [UInt8.toNat_ofNat']
   omega
  rw [dif_neg h]
  intro x hx
  rcases List.mem_append.1 hx with hx|hx
  ·exact ih (n / 10) (by omega) x hx
  obtain rfl:x=UInt8.ofNat (48+n % 10):=by simpa using hx
  rw [UInt8.toNat_ofNat']
  omega
def lineN (op of dir:Int):List UInt8:=wordB op.toNat ++ [32] ++ Lib.decDigits of.toNat ++ dirB dir
theorem take_upto {a b c:List UInt8} (ha:∀ x ∈ a,x ≠ 32) (h:b=[] ∨ ∃ r,b=32 :: r):(a ++ b).takeWhile (· != 32)=a:=by
 induction a with
 | nil =>
  rcases h with rfl|⟨r,rfl⟩
  ·rfl
  simp [List.takeWhile]
 | cons x a ih =>
  have hx:=ha x List.mem_cons_self
  rw [List.cons_append,List.takeWhile_cons,if_pos (by simpa using hx),ih (fun y hy=>ha y (List.mem_cons_of_mem _ hy))]
theorem word_plain {op:Int} (h:1≤op∧op≤5):∀ x ∈ wordB op.toNat,x ≠ 32∧x ≠ 10:=by
 obtain rfl|rfl|rfl|rfl|rfl:op=1 ∨ op=2 ∨ op=3 ∨ op=4 ∨ op=5:=by omega
 all_goals decide
theorem word_inj {a b:Int} (ha:1≤a∧a≤5) (hb:1≤b∧b≤5) (h:wordB a.toNat=wordB b.toNat):a=b:=by
 obtain rfl|rfl|rfl|rfl|rfl:a=1 ∨ a=2 ∨ a=3 ∨ a=4 ∨ a=5:=by omega
 all_goals
  obtain rfl|rfl|rfl|rfl|rfl:b=1 ∨ b=2 ∨ b=3 ∨ b=4 ∨ b=5:=by omega
  all_goals first|rfl|(exfalso;revert h;decide)
theorem dir_form (d:Int):dirB d=[] ∨ ∃ r,dirB d=32 :: r:=by
 unfold dirB
 split
 ·exact .inr ⟨_,rfl⟩
 split
 ·exact .inr ⟨_,rfl⟩
 exact .inl rfl
theorem dir_inj {a b:Int} (ha:-1≤a∧a≤1) (hb:-1≤b∧b≤1) (h:dirB a=dirB b):a=b:=by
 obtain rfl|rfl|rfl:a=1 ∨ a=-1 ∨ a=0:=by omega
 all_goals
  obtain rfl|rfl|rfl:b=1 ∨ b=-1 ∨ b=0:=by omega
  all_goals first|rfl|(exfalso;revert h;decide)
theorem line_inj {o1 f1 d1 o2 f2 d2:Int} (ho1:1≤o1∧o1≤5) (ho2:1≤o2∧o2≤5) (hf1:0≤f1) (hf2:0≤f2) (hd1:-1≤d1∧d1≤1) (hd2:-1≤d2∧d2≤1) (h:lineN o1 f1 d1=lineN o2 f2 d2):o1=o2∧f1=f2∧d1=d2:=by
 unfold lineN at h
 simp only [List.append_assoc] at h
 have t1:=take_upto (c:=[]) (b:=[32] ++ (Lib.decDigits f1.toNat ++ dirB d1)) (fun x hx=>(word_plain ho1 x hx).1) (.inr ⟨_,rfl⟩)
 have t2:=take_upto (c:=[]) (b:=[32] ++ (Lib.decDigits f2.toNat ++ dirB d2)) (fun x hx=>(word_plain ho2 x hx).1) (.inr ⟨_,rfl⟩)
 have hw:wordB o1.toNat=wordB o2.toNat:=by rw [← t1,← t2,h]
 have e1:=word_inj ho1 ho2 hw
 rw [hw] at h
 have h2:=List.append_cancel_left (List.append_cancel_left h)
 have p:∀ (f:Int),∀ x ∈ Lib.decDigits f.toNat,x ≠ 32:=by
  intro f x hx hc
  have:=(digits_plain _ x hx).1
  rw [hc] at this
  revert this
  decide
 have u1:=take_upto (c:=[]) (p f1) (dir_form d1)
 have u2:=take_upto (c:=[]) (p f2) (dir_form d2)
 have hg:Lib.decDigits f1.toNat=Lib.decDigits f2.toNat:=by rw [← u1,← u2,h2]
 have e2:=digits_inj hg
 rw [hg] at h2
 exact ⟨e1,by omega,dir_inj hd1 hd2 (List.append_cancel_left h2)⟩
def Tells (n:Int) (l:List S98) (s:List UInt8) (e:S52):Prop:=eventOk n l e.f0 e.f1 e.f2=true∧lineN e.f0 e.f1 e.f2=s
theorem Tells.one {n:Int} {l:List S98} {s:List UInt8} {e f:S52} (h:Tells n l s e) (k:Tells n l s f):e=f:=by
 have a:=ev_parts h.1
 have b:=ev_parts k.1
 obtain ⟨h1,h2,h3⟩:=line_inj a.2.1 b.2.1 a.2.2.1.1 b.2.2.1.1 a.2.2.2.1 b.2.2.2.1 (h.2.trans k.2.symm)
 cases e;cases f
 simp_all
open Classical in
noncomputable def evOf (n:Int) (l:List S98) (s:List UInt8):Option S52:=if h:∃ e,Tells n l s e then some h.choose else none
theorem evOf_some {n:Int} {l:List S98} {s:List UInt8} {e:S52} (h:Tells n l s e):evOf n l s=some e:=by
 have hx:∃ e,Tells n l s e:=⟨e,h⟩
 rw [evOf,dif_pos hx,hx.choose_spec.one h]
theorem evOf_none {n:Int} {l:List S98} {s:List UInt8} (h:∀ e,¬ Tells n l s e):evOf n l s=none:=by
 rw [evOf,dif_neg (fun ⟨e,he⟩=>h e he)]
noncomputable def evRes (n:Int) (l:List S98) (s:List UInt8):Int × Int × Int × Bool:=match evOf n l s with|some e=>(e.f0,e.f1,e.f2,true)|none=>(0,0,0,false)
theorem evRes_some {n:Int} {l:List S98} {s:List UInt8} {e:S52} (h:Tells n l s e):evRes n l s=(e.f0,e.f1,e.f2,true):=by rw [evRes,evOf_some h]
theorem evRes_none {n:Int} {l:List S98} {s:List UInt8} (h:∀ e,¬ Tells n l s e):evRes n l s=(0,0,0,false):=by rw [evRes,evOf_none h]
def most (n:Int) (l:List S98):Int:=if n > (l.length:Int) then n else (l.length:Int)
theorem ev_most {n:Int} {l:List S98} {op of dir:Int} (h:eventOk n l op of dir=true):of<most n l∧most n l≤120:=by
 have hl:=(ev_parts h).1
 have hn:=lay_n hl
 unfold eventOk at h
 rw [if_pos hl] at h
 unfold most
 split at h
 ·simp at h;split <;> omega
 split at h
 ·simp at h;split <;> omega
 split at h
 ·simp at h;split <;> omega
 cases h
end Go.Proofs.YtpdnabhpkdchjaaDoor.P
namespace Go.Proofs.YtpdnabhpkdchjaaDoor.P
open Go.RowKit Go.Proofs.YtpdnabhpkdchjaaDoorW.PrintWords Go.Proofs.YtpdnabhpkdchjaaDoorW.PrintLast Go.Proofs.YtpdnabhpkdchjaaDoorW.PrintMore
attribute [local go_sem] max2_int min2_int max_two min_two max_three min_three max_four min_four
set_option linter.unusedVariables false
set_option linter.unusedSimpArgs false
mutual
def spec_l4event.j0:Nat→ByteArray→Int→Int→List (S98)→Option (Int × Int × Int × Bool)
 | 0,_,_,_,_=>none
 | k+1,x1,x6,x228000,x228001=>spec_l4event.l0 k x1 x6 1 x228000 x228001
def spec_l4event.l0:Nat→ByteArray→Int→Int→Int→List (S98)→Option (Int × Int × Int × Bool)
 | 0,_,_,_,_,_=>none
 | k+1,x1,x6,x7,x228000,x228001=>if x7≤5 then ((spec_l4words.f).bind fun t229=>(if 0≤x7 then (if x7<(t229.length:Int) then (if (rdOf ByteArray.empty t229 x7).size+1≤9223372036854775807 then (if (x1.size:Int)<(((rdOf ByteArray.empty t229 x7) ++ (⟨#[32]⟩:ByteArray)).size:Int) then (spec_l4event.j2 k x1 x6 x7 true x228000 x228001) else (if 0≤(((rdOf ByteArray.empty t229 x7) ++ (⟨#[32]⟩:ByteArray)).size:Int) then (if (((rdOf ByteArray.empty t229 x7) ++ (⟨#[32]⟩:ByteArray)).size:Int)≤(x1.size:Int) then (spec_l4event.j2 k x1 x6 x7 ((x1.extract 0 ((((rdOf ByteArray.empty t229 x7) ++ (⟨#[32]⟩:ByteArray)).size:Int):Int).toNat).toList != ((rdOf ByteArray.empty t229 x7) ++ (⟨#[32]⟩:ByteArray)).toList) x228000 x228001) else (none)) else (none))) else (none)) else (none)) else (none))) else (some (0,0,0,false))
def spec_l4event.j2:Nat→ByteArray→Int→Int→Bool→Int→List (S98)→Option (Int × Int × Int × Bool)
 | 0,_,_,_,_,_,_=>none
 | k+1,x1,x6,x7,x44,x228000,x228001=>if x44=true then (spec_l4event.l0 k x1 x6 (wrap64 (x7+1)) x228000 x228001) else (spec_l4event.l1 k x1 x6 x7 0 x228000 x228001)
def spec_l4event.l1:Nat→ByteArray→Int→Int→Int→Int→List (S98)→Option (Int × Int × Int × Bool)
 | 0,_,_,_,_,_,_=>none
 | k+1,x1,x6,x7,x10,x228000,x228001=>if x10<x6 then (spec_l4event.l2 k x1 x6 x7 x10 (-1) x228000 x228001) else (spec_l4event.l0 k x1 x6 (wrap64 (x7+1)) x228000 x228001)
def spec_l4event.l2:Nat→ByteArray→Int→Int→Int→Int→Int→List (S98)→Option (Int × Int × Int × Bool)
 | 0,_,_,_,_,_,_,_=>none
 | k+1,x1,x6,x7,x10,x11,x228000,x228001=>if x11≤1 then ((spec_EventOk.f k x228000 x228001 x7 x10 x11).bind fun t234=>(if t234=true then ((spec_l4line.f x7 x10 x11).bind fun t235=>(if t235.toList=x1.toList then (some (x7,x10,x11,true)) else (spec_l4event.l2 k x1 x6 x7 x10 (wrap64 (x11+1)) x228000 x228001))) else (spec_l4event.l2 k x1 x6 x7 x10 (wrap64 (x11+1)) x228000 x228001))) else (spec_l4event.l1 k x1 x6 x7 (wrap64 (x10+1)) x228000 x228001)
end
def spec_l4event.f (k:Nat) (a0_0:Int) (l0_1:List (S98)) (a1:ByteArray):Option (Int × Int × Int × Bool):=if a0_0 > (l0_1.length:Int) then (spec_l4event.j0 k a1 a0_0 a0_0 l0_1) else (spec_l4event.j0 k a1 (l0_1.length:Int) a0_0 l0_1)
set_option maxHeartbeats 8000000 in
set_option maxRecDepth 100000 in
theorem spec_l4event.calls (k:Nat) (a0_0:Int) (A0_1:Option Addr) (c0_1:Nat) (l0_1:List (S98)) (a1:ByteArray) (r1:Int) (r2:Int) (r3:Int) (r4:Bool) (w:World) (hr0_1:Kd.C k98 w A0_1 l0_1.length l0_1) (hc0_1:l0_1.length≤c0_1) (h:spec_l4event.f k a0_0 l0_1 a1=some (r1,r2,r3,r4)) :
  Calls Tryd.prog 39 #[.agg #[.int .i64 a0_0,.slice A0_1 l0_1.length c0_1],.string a1] w fun e w'=>e=.returned (.tuple #[.agg #[.int .i64 r1,.int .i64 r2,.int .i64 r3],.bool r4])∧Below w.heap.size w w':=by
 have hu31:=Tryd.underlying31
 have hu52:=Tryd.underlying52
 have HR0_1:=Aside0.mk hr0_1
 have HC0_1:=Aside0.mk hc0_1
 clear hr0_1 hc0_1
 have HB:=Aside0.mk (Below.refl w.heap.size w)
 have H:(if a0_0 > (l0_1.length:Int) then (spec_l4event.j0 k a1 a0_0 a0_0 l0_1) else (spec_l4event.j0 k a1 (l0_1.length:Int) a0_0 l0_1))=some (r1,r2,r3,r4):=h
 clear h
 have HC3:=Aside0.mk H
 clear H
 go_enter Tryd.func39,Tryd.ntmps39
 go_upto_if 19 with (first|((with_reducible refine gate_dst (N:=2) rfl ?_);(try (refine gate_guard (by rfl) ?_;dsimp only));refine box_event ?hg (N:=2) ?hd (cs:=#[.int .i64 a0_0,.slice A0_1 l0_1.length c0_1]) (t:=31) ?hr ?_;(case hd=>rfl);(case hg=>rfl);(case hr=>first|(go_simp;done)|(go_simp;rfl));intro gb227 hg w4 hbox hb;have n0_:=Aside0.mk (below_step (by repeat (first|(with_reducible first|exact HB.out|apply below_alloc|apply pw_below_drewN|apply below_drew1)|exact HB.out)) hb);have n1_:=Aside0.mk (hbox);have n2_:=Aside0.mk ((by rw [hg];exact (below_size (by repeat (first|(with_reducible first|exact HB.out|apply below_alloc|apply pw_below_drewN|apply below_drew1)|exact HB.out))):w.heap.size≤gb227));have n3_:=Aside0.mk ((by rw [hg];exact (below_size (by repeat (first|(with_reducible first|exact HB.out|apply below_alloc|apply pw_below_drewN|apply below_drew1)|exact HB.out))):w.heap.size≤gb227));clear HB;have HB:=n0_;have BK227:=n1_;have GW227:=n2_;have GE227:=n3_;clear n0_ n1_ n2_ n3_;clear hb hbox hg)|((with_reducible refine gate_dst (N:=4) rfl ?_);(try (refine gate_guard (by rfl) ?_;dsimp only));refine box_event ?hg (N:=4) ?hd (cs:=#[.int .i64 0,.int .i64 0,.int .i64 0]) (t:=52) ?hr ?_;(case hd=>rfl);(case hg=>rfl);(case hr=>first|(go_simp;done)|(go_simp;rfl));intro gb228 hg w5 hbox hb;have n0_:=Aside0.mk (blk_below (g:=gb227) (o:=.cells #[.int .i64 a0_0,.slice A0_1 l0_1.length c0_1] 31 (0,0)) (by (with_reducible repeat (first|refine blk_drewN ?_ _|refine blk_drew ?_|refine blk_alloc ?_ _));exact BK227.out) hb);have n1_:=Aside0.mk (below_step (by repeat (first|(with_reducible first|exact HB.out|apply below_alloc|apply pw_below_drewN|apply below_drew1|refine below_set ?_ GE227.out)|exact HB.out)) hb);have n2_:=Aside0.mk (hbox);have n3_:=Aside0.mk ((by rw [hg];exact (below_size (by repeat (first|(with_reducible first|exact HB.out|apply below_alloc|apply pw_below_drewN|apply below_drew1|refine below_set ?_ GE227.out)|exact HB.out))):w.heap.size≤gb228));have n4_:=Aside0.mk ((by rw [hg];exact (below_size (by repeat (first|(with_reducible first|exact HB.out|apply below_alloc|apply pw_below_drewN|apply below_drew1|refine below_set ?_ GE227.out)|exact HB.out))):w.heap.size≤gb228));have n5_:=Aside0.mk ((by rw [hg];exact Nat.ne_of_lt (blk_lt (g:=gb227) (o:=.cells #[.int .i64 a0_0,.slice A0_1 l0_1.length c0_1] 31 (0,0)) (by (with_reducible repeat (first|refine blk_drewN ?_ _|refine blk_drew ?_|refine blk_alloc ?_ _));exact BK227.out)):gb227 ≠ gb228));have n6_:=Aside0.mk ((by rw [hg];exact Nat.ne_of_gt (blk_lt (g:=gb227) (o:=.cells #[.int .i64 a0_0,.slice A0_1 l0_1.length c0_1] 31 (0,0)) (by (with_reducible repeat (first|refine blk_drewN ?_ _|refine blk_drew ?_|refine blk_alloc ?_ _));exact BK227.out)):gb228 ≠ gb227));clear BK227;clear HB;have BK227:=n0_;have HB:=n1_;have BK228:=n2_;have GW228:=n3_;have GE228:=n4_;have NB227_228:=n5_;have NB228_227:=n6_;clear n0_ n1_ n2_ n3_ n4_ n5_ n6_;clear hb hbox hg;have hnb6:=NB227_228.out;have hnc6:=NB228_227.out;have hcz7_0:w5.cell? ⟨gb227,0,none⟩=some (.int .i64 a0_0):=(blk_cell BK227.out 0).trans rfl;have hcz7_1:w5.cell? ⟨gb227,1,none⟩=some (.slice A0_1 l0_1.length c0_1):=(blk_cell BK227.out 1).trans rfl;have hfz7_0:=blk_frozen BK227.out 0;have hfz7_1:=blk_frozen BK227.out 1))
 (try simp only [Act.put,List.setIfInBounds_toArray,List.set_cons_zero,List.set_cons_succ])
 go_cut [6] (fun v6 wc=>∃ (kq:Nat) (x6_2:Int),v6=.int .i64 x6_2∧Aside0 (spec_l4event.j0 kq a1 x6_2 a0_0 l0_1=some (r1,r2,r3,r4))∧Aside0 (kq≤k)∧Aside0 (wc.heap[gb227]?=some (.cells #[.int .i64 a0_0,(.slice A0_1 l0_1.length c0_1)] 31 (0,0)))∧Aside0 (wc.heap[gb228]?=some (.cells #[.int .i64 0,.int .i64 0,.int .i64 0] 52 (0,0)))∧Aside0 (Below w.heap.size w wc))
 case first =>
  have H:=HC3.out
  clear HC3
  by_cases c8:a0_0 > (l0_1.length:Int)
  ·rw [if_pos c8] at H
   have c8b0:decide ((l0_1.length:Int)<a0_0)=true:=decide_eq_true c8
   clear c8
   (first|rw [c8b0]|(simp only [i64_w,i32_w];rw [c8b0])|skip)
   have H':=Aside0.mk H
   clear H
   have hnb9:=NB227_228.out
   have hnc9:=NB228_227.out
   have hcz10_0:w5.cell? ⟨gb227,0,none⟩=some (.int .i64 a0_0):=(blk_cell BK227.out 0).trans rfl
   have hcz10_1:w5.cell? ⟨gb227,1,none⟩=some (.slice A0_1 l0_1.length c0_1):=(blk_cell BK227.out 1).trans rfl
   have hfz10_0:=blk_frozen BK227.out 0
   have hfz10_1:=blk_frozen BK227.out 1
   go_wp2
   go_meet
   case rel=>exact ⟨_,(a0_0),(by first|rfl|(simp;done)|(simp [*];done)),H',⟨by first|omega|exact Nat.le_refl _⟩,⟨by (with_reducible repeat (first|refine blk_drewN ?_ _|refine blk_drew ?_|refine blk_alloc ?_ _));exact BK227.out⟩,⟨by (with_reducible repeat (first|refine blk_drewN ?_ _|refine blk_drew ?_|refine blk_alloc ?_ _));exact BK228.out⟩,⟨by repeat (first|(with_reducible first|exact HB.out|apply below_alloc|apply pw_below_drewN|apply below_drew1|refine below_set ?_ GE227.out|refine below_set ?_ GE228.out)|exact HB.out)⟩⟩
  rw [if_neg c8] at H
  have c8b0:decide ((l0_1.length:Int)<a0_0)=false:=decide_eq_false c8
  clear c8
  (first|rw [c8b0]|(simp only [i64_w,i32_w];rw [c8b0])|skip)
  have H':=Aside0.mk H
  clear H
  go_wp2
  go_meet
  case rel=>exact ⟨_,((l0_1.length:Int)),(by first|rfl|(simp;done)|(simp [*];done)),H',⟨by first|omega|exact Nat.le_refl _⟩,⟨by (with_reducible repeat (first|refine blk_drewN ?_ _|refine blk_drew ?_|refine blk_alloc ?_ _));exact BK227.out⟩,⟨by (with_reducible repeat (first|refine blk_drewN ?_ _|refine blk_drew ?_|refine blk_alloc ?_ _));exact BK228.out⟩,⟨by repeat (first|(with_reducible first|exact HB.out|apply below_alloc|apply pw_below_drewN|apply below_drew1|refine below_set ?_ GE227.out|refine below_set ?_ GE228.out)|exact HB.out)⟩⟩
 case rest =>
  clear HC3
  try clear p2
  try clear c3
  try clear c6
  try clear c8
  try clear c8b0
  try clear c9
  try clear hcz10_0
  try clear hcz10_1
  try clear hcz7_0
  try clear hcz7_1
  try clear hfz10_0
  try clear hfz10_1
  try clear hfz7_0
  try clear hfz7_1
  obtain ⟨kq,x6_2,rfl,HA,HJ2,BK227,BK228,HB⟩:=hcut
  cases kq with
  | zero=>exact absurd HA.out (by simp [spec_l4event.j0])
  | succ kj2 =>
   have H:=HA.out
   clear HA
   simp only [spec_l4event.j0] at H
   have H':=Aside0.mk H
   clear H
   go_wp2
   go_loopg [7] kj2 (fun kq v7 w'=>∃ (x7_2:Int) (x229000_2:Int) (x229001_2:Int) (x229002_2:Int),v7=.int .i64 x7_2∧Aside0 (spec_l4event.l0 kq a1 x6_2 x7_2 a0_0 l0_1=some (r1,r2,r3,r4))∧Aside0 (kq≤kj2)∧Aside0 (w'.heap[gb227]?=some (.cells #[.int .i64 a0_0,(.slice A0_1 l0_1.length c0_1)] 31 (0,0)))∧Aside0 (w'.heap[gb228]?=some (.cells #[.int .i64 x229000_2,.int .i64 x229001_2,.int .i64 x229002_2] 52 (0,0)))∧Aside0 (Below w.heap.size w w'))
   case atStart=>exact ⟨(1),(0),(0),(0),(by first|rfl|(simp;done)|(simp [*];done)),H',⟨Nat.le_refl _⟩,⟨by (with_reducible repeat (first|refine blk_drewN ?_ _|refine blk_drew ?_|refine blk_alloc ?_ _));exact BK227.out⟩,⟨by (with_reducible repeat (first|refine blk_drewN ?_ _|refine blk_drew ?_|refine blk_alloc ?_ _));exact BK228.out⟩,⟨by repeat (first|(with_reducible first|exact HB.out|apply below_alloc|apply pw_below_drewN|apply below_drew1|refine below_set ?_ GE227.out|refine below_set ?_ GE228.out)|exact HB.out)⟩⟩
   case round =>
    clear H'
    try clear p2
    try clear c3
    try clear c6
    try clear c8
    try clear c8b0
    try clear c9
    try clear hcz10_0
    try clear hcz10_1
    try clear hcz7_0
    try clear hcz7_1
    try clear hfz10_0
    try clear hfz10_1
    try clear hfz7_0
    try clear hfz7_1
    try clear p2
    obtain ⟨x7_2,x229000_2,x229001_2,x229002_2,rfl,HA,HK2,BK227,BK228,HB⟩:=hrel
    cases gk with
    | zero=>exact absurd HA.out (by simp [spec_l4event.l0])
    | succ k2 =>
     have H:=HA.out
     clear HA
     simp only [spec_l4event.l0] at H
     by_cases c11:x7_2≤5
     ·rw [if_pos c11] at H
      have c11b0:decide (x7_2≤5)=true:=decide_eq_true c11
      clear c11
      replace H:=Option.bind_eq_some_iff.mp H
      obtain ⟨t229,A120,H⟩:=H
      replace H:(if 0≤x7_2 then (if x7_2<(t229.length:Int) then (if (rdOf ByteArray.empty t229 x7_2).size+1≤9223372036854775807 then (if (a1.size:Int)<(((rdOf ByteArray.empty t229 x7_2) ++ (⟨#[32]⟩:ByteArray)).size:Int) then (spec_l4event.j2 k2 a1 x6_2 x7_2 true a0_0 l0_1) else (if 0≤(((rdOf ByteArray.empty t229 x7_2) ++ (⟨#[32]⟩:ByteArray)).size:Int) then (if (((rdOf ByteArray.empty t229 x7_2) ++ (⟨#[32]⟩:ByteArray)).size:Int)≤(a1.size:Int) then (spec_l4event.j2 k2 a1 x6_2 x7_2 ((a1.extract 0 ((((rdOf ByteArray.empty t229 x7_2) ++ (⟨#[32]⟩:ByteArray)).size:Int):Int).toNat).toList != ((rdOf ByteArray.empty t229 x7_2) ++ (⟨#[32]⟩:ByteArray)).toList) a0_0 l0_1) else (none)) else (none))) else (none)) else (none)) else (none))=some (r1,r2,r3,r4):=H
      have A12:=Aside0.mk A120
      clear A120
      by_cases c13:0≤x7_2
      ·rw [if_pos c13] at H
       have c13b0:decide (0≤x7_2)=true:=decide_eq_true c13
       clear c13
       by_cases c14:x7_2<(t229.length:Int)
       ·rw [if_pos c14] at H
        have c14b0:decide (x7_2<(t229.length:Int))=true:=decide_eq_true c14
        clear c14
        by_cases c15:(rdOf ByteArray.empty t229 x7_2).size+1≤9223372036854775807
        ·rw [if_pos c15] at H
         have c15b0:=eq_true c15
         have c15b1:decide ((rdOf ByteArray.empty t229 x7_2).size+1≤9223372036854775807)=true:=decide_eq_true c15
         try have c15b2:(9223372036854775807<(rdOf ByteArray.empty t229 x7_2).size+1)=False:=eq_false (Nat.not_lt.2 c15)
         have HC16:=Aside0.mk H
         clear H
         go_upto_region 9 with (first|((with_reducible refine gate_callee (f:=52) rfl ?_);refine goesL_ (some 26) rfl rfl Tryd.func52 (by kernel_rfl) rfl #[] rfl (by (try simp only [List.map_toArray,List.map_cons,List.map_nil]);first|done|rfl|(simp only [List.length_drop,List.length_take];rfl)) ?_;(with_reducible refine (spec_l4words.calls  t229 _ A12.out).mono ?_);rintro e w17 ⟨v230,rfl,ho0,hb⟩;refine ⟨_,rfl,?_⟩;have n0_:=Aside0.mk (Kd.R_lower ho0 (below_size (by repeat (first|(with_reducible first|exact HB.out|apply below_alloc|apply pw_below_drewN|apply below_drew1|refine below_set ?_ GE227.out|refine below_set ?_ GE228.out)|exact HB.out))));have n1_:=Aside0.mk (blk_below (g:=gb227) (o:=.cells #[.int .i64 a0_0,.slice A0_1 l0_1.length c0_1] 31 (0,0)) (by (with_reducible repeat (first|refine blk_drewN ?_ _|refine blk_drew ?_|refine blk_alloc ?_ _));exact BK227.out) hb);have n2_:=Aside0.mk (blk_below (g:=gb228) (o:=.cells #[.int .i64 x229000_2,.int .i64 x229001_2,.int .i64 x229002_2] 52 (0,0)) (by (with_reducible repeat (first|refine blk_drewN ?_ _|refine blk_drew ?_|refine blk_alloc ?_ _));exact BK228.out) hb);have n3_:=Aside0.mk (below_step (by repeat (first|(with_reducible first|exact HB.out|apply below_alloc|apply pw_below_drewN|apply below_drew1|refine below_set ?_ GE227.out|refine below_set ?_ GE228.out)|exact HB.out)) hb);clear BK227;clear BK228;clear HB;have HO231:=n0_;have BK227:=n1_;have BK228:=n2_;have HB:=n3_;clear n0_ n1_ n2_ n3_;(try clear hb);(try clear hb2);(try clear hk);(try clear hi);(try clear ho0);obtain ⟨Ao18,co18,eo18⟩:=Kd.R_slice HO231.out;subst eo18;have p232:0≤(x7_2:Int):=of_decide_eq_true (by first|(with_reducible assumption)|assumption);have q232:x7_2<(t229.length:Int):=of_decide_eq_true (by first|(with_reducible assumption)|assumption);obtain ⟨ad232,e232,hx232_0⟩:=Kd.at_string (Kd.R_reads' HO231.out).2.2 x7_2 p232 q232;cases e232;replace p232:=eq_true p232;replace q232:=eq_true q232))
         (try simp only [Act.put,List.setIfInBounds_toArray,List.set_cons_zero,List.set_cons_succ])
         go_cut [44] (fun v44 wc=>∃ (kq:Nat) (x44_15:Bool),v44=.bool x44_15∧Aside0 (spec_l4event.j2 kq a1 x6_2 x7_2 x44_15 a0_0 l0_1=some (r1,r2,r3,r4))∧Aside0 (kq≤k2)∧Aside0 (wc.heap[gb227]?=some (.cells #[.int .i64 a0_0,(.slice A0_1 l0_1.length c0_1)] 31 (0,0)))∧Aside0 (wc.heap[gb228]?=some (.cells #[.int .i64 x229000_2,.int .i64 x229001_2,.int .i64 x229002_2] 52 (0,0)))∧Aside0 (Below w.heap.size w wc))
         case first =>
          have H:=HC16.out
          clear HC16
          by_cases c19:(a1.size:Int)<(((rdOf ByteArray.empty t229 x7_2) ++ (⟨#[32]⟩:ByteArray)).size:Int)
          ·rw [if_pos c19] at H
           have c19n1:(a1.size:Int)<((rdOf ByteArray.empty t229 x7_2).size:Int)+1:=by have:=c19;rw [ByteArray.size_append] at this;have e:(⟨#[32]⟩:ByteArray).size=1:=rfl;omega
           have c19n2:decide ((a1.size:Int)<((rdOf ByteArray.empty t229 x7_2).size:Int)+1)=true:=decide_eq_true c19n1
           have c19n3:((a1.size:Int)<((rdOf ByteArray.empty t229 x7_2).size:Int)+1)=True:=eq_true c19n1
           clear c19n1
           have c19b0:decide ((a1.size:Int)<(((rdOf ByteArray.empty t229 x7_2) ++ (⟨#[32]⟩:ByteArray)).size:Int))=true:=decide_eq_true c19
           have c19b1:decide (a1.size<((rdOf ByteArray.empty t229 x7_2) ++ (⟨#[32]⟩:ByteArray)).size)=true:=decide_eq_true (Int.ofNat_lt.mp c19)
           clear c19
           (first|rw [c19b0]|(simp only [i64_w,i32_w];rw [c19b0])|skip)
           have H':=Aside0.mk H
           clear H
           go_wp2
           go_meet
           case rel=>exact ⟨_,(true),(by first|rfl|(simp;done)|(simp [*];done)),H',⟨by have:=HJ2.out;have:=HK2.out;first|omega|exact Nat.le_refl _⟩,⟨by (with_reducible repeat (first|refine blk_drewN ?_ _|refine blk_drew ?_|refine blk_alloc ?_ _));exact BK227.out⟩,⟨by (with_reducible repeat (first|refine blk_drewN ?_ _|refine blk_drew ?_|refine blk_alloc ?_ _));exact BK228.out⟩,⟨by repeat (first|(with_reducible first|exact HB.out|apply below_alloc|apply pw_below_drewN|apply below_drew1|refine below_set ?_ GE227.out|refine below_set ?_ GE228.out)|exact HB.out)⟩⟩
          rw [if_neg c19] at H
          have c19n1:¬ ((a1.size:Int)<((rdOf ByteArray.empty t229 x7_2).size:Int)+1):=by have:=c19;rw [ByteArray.size_append] at this;have e:(⟨#[32]⟩:ByteArray).size=1:=rfl;omega
          have c19n2:decide ((a1.size:Int)<((rdOf ByteArray.empty t229 x7_2).size:Int)+1)=false:=decide_eq_false c19n1
          have c19n3:((a1.size:Int)<((rdOf ByteArray.empty t229 x7_2).size:Int)+1)=False:=eq_false c19n1
          clear c19n1
          have c19b0:decide ((a1.size:Int)<(((rdOf ByteArray.empty t229 x7_2) ++ (⟨#[32]⟩:ByteArray)).size:Int))=false:=decide_eq_false c19
          have c19b1:decide (a1.size<((rdOf ByteArray.empty t229 x7_2) ++ (⟨#[32]⟩:ByteArray)).size)=false:=decide_eq_false (fun h=>c19 (Int.ofNat_lt.mpr h))
          clear c19
          (first|rw [c19b0]|(simp only [i64_w,i32_w];rw [c19b0])|skip)
          by_cases c20:0≤(((rdOf ByteArray.empty t229 x7_2) ++ (⟨#[32]⟩:ByteArray)).size:Int)
          ·rw [if_pos c20] at H
           have c20b0:=eq_true c20
           have c20b1:decide (0≤(((rdOf ByteArray.empty t229 x7_2) ++ (⟨#[32]⟩:ByteArray)).size:Int))=true:=decide_eq_true c20
           by_cases c21:(((rdOf ByteArray.empty t229 x7_2) ++ (⟨#[32]⟩:ByteArray)).size:Int)≤(a1.size:Int)
           ·rw [if_pos c21] at H
            have c21b0:=eq_true c21
            have c21b1:decide ((((rdOf ByteArray.empty t229 x7_2) ++ (⟨#[32]⟩:ByteArray)).size:Int)≤(a1.size:Int))=true:=decide_eq_true c21
            have c21n2:(((rdOf ByteArray.empty t229 x7_2).size:Int)+1≤(a1.size:Int))=True:=eq_true (by have:=c21;rw [ByteArray.size_append] at this;have e:(⟨#[32]⟩:ByteArray).size=1:=rfl;omega)
            have c21n3:(0≤((rdOf ByteArray.empty t229 x7_2).size:Int)+1∧((rdOf ByteArray.empty t229 x7_2).size:Int)+1≤(a1.size:Int))=True:=eq_true ⟨by omega,by have:=c21;rw [ByteArray.size_append] at this;have e:(⟨#[32]⟩:ByteArray).size=1:=rfl;omega⟩
            have c21n4:(0≤((rdOf ByteArray.empty t229 x7_2).size:Int)+1)=True:=eq_true (by omega)
            have c21e:((((rdOf ByteArray.empty t229 x7_2) ++ (⟨#[32]⟩:ByteArray)).size:Int)).toNat=(rdOf ByteArray.empty t229 x7_2).size+1:=by rw [Int.toNat_natCast,ByteArray.size_append];rfl
            have H':=Aside0.mk H
            clear H
            go_wp2
            go_meet
            case rel=>exact ⟨_,(((a1.extract 0 ((((rdOf ByteArray.empty t229 x7_2) ++ (⟨#[32]⟩:ByteArray)).size:Int):Int).toNat).toList != ((rdOf ByteArray.empty t229 x7_2) ++ (⟨#[32]⟩:ByteArray)).toList)),(by first|rfl|(rw [c21e];simp [bne];done)|(simp;done)|(simp [*];done)),H',⟨by have:=HJ2.out;have:=HK2.out;first|omega|exact Nat.le_refl _⟩,⟨by (with_reducible repeat (first|refine blk_drewN ?_ _|refine blk_drew ?_|refine blk_alloc ?_ _));exact BK227.out⟩,⟨by (with_reducible repeat (first|refine blk_drewN ?_ _|refine blk_drew ?_|refine blk_alloc ?_ _));exact BK228.out⟩,⟨by repeat (first|(with_reducible first|exact HB.out|apply below_alloc|apply pw_below_drewN|apply below_drew1|refine below_set ?_ GE227.out|refine below_set ?_ GE228.out)|exact HB.out)⟩⟩
           rw [if_neg c21] at H
           exact absurd H (by simp)
          rw [if_neg c20] at H
          exact absurd H (by simp)
         case rest =>
          clear HC16
          try clear c1
          try clear c2
          try clear p2
          try clear q2
          try clear hx2
          try clear c3
          try clear c5
          try clear c6
          try clear c8
          try clear c8b0
          try clear c9
          try clear c11
          try clear c11b0
          try clear c13
          try clear c13b0
          try clear c14
          try clear c14b0
          try clear c15
          try clear c15b0
          try clear c15b1
          try clear c15b2
          try clear c19
          try clear c19b0
          try clear c19b1
          try clear c20
          try clear c20b0
          try clear c20b1
          try clear c21
          try clear c21b0
          try clear c21b1
          try clear hcz10_0
          try clear hcz10_1
          try clear hcz7_0
          try clear hcz7_1
          try clear hfz10_0
          try clear hfz10_1
          try clear hfz7_0
          try clear hfz7_1
          try clear hx232_0
          try clear p2
          try clear p232
          try clear q232
          obtain ⟨kq,x44_15,rfl,HA,HJ15,BK227,BK228,HB⟩:=hcut
          cases kq with
          | zero=>exact absurd HA.out (by simp [spec_l4event.j2])
          | succ kj15 =>
           have H:=HA.out
           clear HA
           simp only [spec_l4event.j2] at H
           by_cases c22:x44_15=true
           ·subst c22
            have H1:(spec_l4event.l0 kj15 a1 x6_2 (wrap64 (x7_2+1)) a0_0 l0_1)=some (r1,r2,r3,r4):=by rw [if_pos rfl] at H;exact H
            clear H
            have H:=H1
            clear H1
            have H':=Aside0.mk H
            clear H
            go_wp2
            go_roundg kj15
            case measure=>have:=HJ2.out;have:=HK2.out;have:=HJ15.out;omega
            case rel=>exact ⟨(wrap64 (x7_2+1)),(x229000_2),(x229001_2),(x229002_2),(by first|rfl|(simp;done)|(simp [*];done)),H',⟨by have:=HJ2.out;have:=HK2.out;have:=HJ15.out;omega⟩,⟨by (with_reducible repeat (first|refine blk_drewN ?_ _|refine blk_drew ?_|refine blk_alloc ?_ _));exact BK227.out⟩,⟨by (with_reducible repeat (first|refine blk_drewN ?_ _|refine blk_drew ?_|refine blk_alloc ?_ _));exact BK228.out⟩,⟨by repeat (first|(with_reducible first|exact HB.out|apply below_alloc|apply pw_below_drewN|apply below_drew1|refine below_set ?_ GE227.out|refine below_set ?_ GE228.out)|exact HB.out)⟩⟩
           replace c22:=Bool.eq_false_iff.mpr c22
           subst c22
           have H1:(spec_l4event.l1 kj15 a1 x6_2 x7_2 0 a0_0 l0_1)=some (r1,r2,r3,r4):=by rw [if_neg (show ¬ (false=true) by decide)] at H;exact H
           clear H
           have H:=H1
           clear H1
           have H':=Aside0.mk H
           clear H
           go_wp2
           go_loopg [10] kj15 (fun kq v10 w'=>∃ (x10_4:Int) (x229000_4:Int) (x229001_4:Int) (x229002_4:Int),v10=.int .i64 x10_4∧Aside0 (spec_l4event.l1 kq a1 x6_2 x7_2 x10_4 a0_0 l0_1=some (r1,r2,r3,r4))∧Aside0 (kq≤kj15)∧Aside0 (w'.heap[gb227]?=some (.cells #[.int .i64 a0_0,(.slice A0_1 l0_1.length c0_1)] 31 (0,0)))∧Aside0 (w'.heap[gb228]?=some (.cells #[.int .i64 x229000_4,.int .i64 x229001_4,.int .i64 x229002_4] 52 (0,0)))∧Aside0 (Below w.heap.size w w'))
           case atStart=>exact ⟨(0),(x229000_2),(x229001_2),(x229002_2),(by first|rfl|(simp;done)|(simp [*];done)),H',⟨Nat.le_refl _⟩,⟨by (with_reducible repeat (first|refine blk_drewN ?_ _|refine blk_drew ?_|refine blk_alloc ?_ _));exact BK227.out⟩,⟨by (with_reducible repeat (first|refine blk_drewN ?_ _|refine blk_drew ?_|refine blk_alloc ?_ _));exact BK228.out⟩,⟨by repeat (first|(with_reducible first|exact HB.out|apply below_alloc|apply pw_below_drewN|apply below_drew1|refine below_set ?_ GE227.out|refine below_set ?_ GE228.out)|exact HB.out)⟩⟩
           case round =>
            clear H'
            try clear c1
            try clear c2
            try clear p2
            try clear q2
            try clear hx2
            try clear c3
            try clear c5
            try clear c6
            try clear p6
            try clear c8
            try clear c8b0
            try clear c9
            try clear c11
            try clear c11b0
            try clear c13
            try clear c13b0
            try clear c14
            try clear c14b0
            try clear c15
            try clear c15b0
            try clear c15b1
            try clear c15b2
            try clear c19
            try clear c19b0
            try clear c19b1
            try clear c20
            try clear c20b0
            try clear c20b1
            try clear c21
            try clear c21b0
            try clear c21b1
            try clear c22
            try clear hcz10_0
            try clear hcz10_1
            try clear hcz7_0
            try clear hcz7_1
            try clear hfz10_0
            try clear hfz10_1
            try clear hfz7_0
            try clear hfz7_1
            try clear hx232_0
            try clear p2
            try clear p232
            try clear q2
            try clear q232
            obtain ⟨x10_4,x229000_4,x229001_4,x229002_4,rfl,HA,HK4,BK227,BK228,HB⟩:=hrel
            cases gk with
            | zero=>exact absurd HA.out (by simp [spec_l4event.l1])
            | succ k4 =>
             have H:=HA.out
             clear HA
             simp only [spec_l4event.l1] at H
             by_cases c23:x10_4<x6_2
             ·rw [if_pos c23] at H
              have c23b0:decide (x10_4<x6_2)=true:=decide_eq_true c23
              clear c23
              have H':=Aside0.mk H
              clear H
              go_wp2
              go_loopg [11] k4 (fun kq v11 w'=>∃ (x11_5:Int) (x229000_5:Int) (x229001_5:Int) (x229002_5:Int),v11=.int .i64 x11_5∧Aside0 (spec_l4event.l2 kq a1 x6_2 x7_2 x10_4 x11_5 a0_0 l0_1=some (r1,r2,r3,r4))∧Aside0 (kq≤k4)∧Aside0 (w'.heap[gb227]?=some (.cells #[.int .i64 a0_0,(.slice A0_1 l0_1.length c0_1)] 31 (0,0)))∧Aside0 (w'.heap[gb228]?=some (.cells #[.int .i64 x229000_5,.int .i64 x229001_5,.int .i64 x229002_5] 52 (0,0)))∧Aside0 (Below w.heap.size w w'))
              case atStart=>exact ⟨((-1)),(x229000_4),(x229001_4),(x229002_4),(by first|rfl|(simp;done)|(simp [*];done)),H',⟨Nat.le_refl _⟩,⟨by (with_reducible repeat (first|refine blk_drewN ?_ _|refine blk_drew ?_|refine blk_alloc ?_ _));exact BK227.out⟩,⟨by (with_reducible repeat (first|refine blk_drewN ?_ _|refine blk_drew ?_|refine blk_alloc ?_ _));exact BK228.out⟩,⟨by repeat (first|(with_reducible first|exact HB.out|apply below_alloc|apply pw_below_drewN|apply below_drew1|refine below_set ?_ GE227.out|refine below_set ?_ GE228.out)|exact HB.out)⟩⟩
              case round =>
               clear H'
               try clear c1
               try clear c2
               try clear p2
               try clear q2
               try clear hx2
               try clear c3
               try clear c5
               try clear c6
               try clear p6
               try clear c8
               try clear c8b0
               try clear c9
               try clear c11
               try clear c11b0
               try clear c13
               try clear c13b0
               try clear c14
               try clear c14b0
               try clear c15
               try clear c15b0
               try clear c15b1
               try clear c15b2
               try clear c19
               try clear c19b0
               try clear c19b1
               try clear c20
               try clear c20b0
               try clear c20b1
               try clear c21
               try clear c21b0
               try clear c21b1
               try clear c22
               try clear c23
               try clear c23b0
               try clear p23
               try clear q23
               try clear hx23
               try clear hcz10_0
               try clear hcz10_1
               try clear hcz7_0
               try clear hcz7_1
               try clear hfz10_0
               try clear hfz10_1
               try clear hfz7_0
               try clear hfz7_1
               try clear hx232_0
               try clear p2
               try clear p232
               try clear p6
               try clear q2
               try clear q232
               obtain ⟨x11_5,x229000_5,x229001_5,x229002_5,rfl,HA,HK5,BK227,BK228,HB⟩:=hrel
               cases gk with
               | zero=>exact absurd HA.out (by simp [spec_l4event.l2])
               | succ k5 =>
                have H:=HA.out
                clear HA
                simp only [spec_l4event.l2] at H
                by_cases c24:x11_5≤1
                ·rw [if_pos c24] at H
                 have c24b0:decide (x11_5≤1)=true:=decide_eq_true c24
                 clear c24
                 replace H:=Option.bind_eq_some_iff.mp H
                 obtain ⟨t234,A250,H⟩:=H
                 replace H:(if t234=true then ((spec_l4line.f x7_2 x10_4 x11_5).bind fun t235=>(if t235.toList=a1.toList then (some (x7_2,x10_4,x11_5,true)) else (spec_l4event.l2 k5 a1 x6_2 x7_2 x10_4 (wrap64 (x11_5+1)) a0_0 l0_1))) else (spec_l4event.l2 k5 a1 x6_2 x7_2 x10_4 (wrap64 (x11_5+1)) a0_0 l0_1))=some (r1,r2,r3,r4):=H
                 have A25:=Aside0.mk A250
                 clear A250
                 by_cases c26:t234=true
                 ·subst c26
                  have H1:((spec_l4line.f x7_2 x10_4 x11_5).bind fun t235=>(if t235.toList=a1.toList then (some (x7_2,x10_4,x11_5,true)) else (spec_l4event.l2 k5 a1 x6_2 x7_2 x10_4 (wrap64 (x11_5+1)) a0_0 l0_1)))=some (r1,r2,r3,r4):=by rw [if_pos rfl] at H;exact H
                  clear H
                  have H:=H1
                  clear H1
                  replace H:=Option.bind_eq_some_iff.mp H
                  obtain ⟨t235,A270,H⟩:=H
                  replace H:(if t235.toList=a1.toList then (some (x7_2,x10_4,x11_5,true)) else (spec_l4event.l2 k5 a1 x6_2 x7_2 x10_4 (wrap64 (x11_5+1)) a0_0 l0_1))=some (r1,r2,r3,r4):=H
                  have A27:=Aside0.mk A270
                  clear A270
                  by_cases c28:t235.toList=a1.toList
                  ·rw [if_pos c28] at H
                   have c28b0:(t235.toList==a1.toList)=true:=beq_iff_eq.mpr c28
                   have c28b1:(t235.toList != a1.toList)=false:=bne_eq_false_iff_eq.mpr c28
                   clear c28
                   simp only [Option.some.injEq,Prod.mk.injEq] at H
                   obtain ⟨rfl,rfl,rfl,rfl⟩:=H
                   go_wp2_with (first|((with_reducible refine gate_dst (N:=12) rfl ?_);(try (refine gate_guard (by rfl) ?_;dsimp only));refine box_event ?hg (N:=12) ?hd (cs:=#[.int .i64 0,.int .i64 0,.int .i64 0]) (t:=52) ?hr ?_;(case hd=>rfl);(case hg=>rfl);(case hr=>first|(go_simp;done)|(go_simp;rfl));intro gb233 hg w29 hbox hb;have n0_:=Aside0.mk (blk_below (g:=gb227) (o:=.cells #[.int .i64 a0_0,.slice A0_1 l0_1.length c0_1] 31 (0,0)) (by (with_reducible repeat (first|refine blk_drewN ?_ _|refine blk_drew ?_|refine blk_alloc ?_ _));exact BK227.out) hb);have n1_:=Aside0.mk (blk_below (g:=gb228) (o:=.cells #[.int .i64 x229000_5,.int .i64 x229001_5,.int .i64 x229002_5] 52 (0,0)) (by (with_reducible repeat (first|refine blk_drewN ?_ _|refine blk_drew ?_|refine blk_alloc ?_ _));exact BK228.out) hb);have n2_:=Aside0.mk (below_step (by repeat (first|(with_reducible first|exact HB.out|apply below_alloc|apply pw_below_drewN|apply below_drew1|refine below_set ?_ GE227.out|refine below_set ?_ GE228.out)|exact HB.out)) hb);have n3_:=Aside0.mk (hbox);have n4_:=Aside0.mk ((by rw [hg];exact (below_size (by repeat (first|(with_reducible first|exact HB.out|apply below_alloc|apply pw_below_drewN|apply below_drew1|refine below_set ?_ GE227.out|refine below_set ?_ GE228.out)|exact HB.out))):w.heap.size≤gb233));have n5_:=Aside0.mk ((by rw [hg];exact (below_size (by repeat (first|(with_reducible first|exact HB.out|apply below_alloc|apply pw_below_drewN|apply below_drew1|refine below_set ?_ GE227.out|refine below_set ?_ GE228.out)|exact HB.out))):w.heap.size≤gb233));have n6_:=Aside0.mk ((by rw [hg];exact Nat.ne_of_lt (blk_lt (g:=gb227) (o:=.cells #[.int .i64 a0_0,.slice A0_1 l0_1.length c0_1] 31 (0,0)) (by (with_reducible repeat (first|refine blk_drewN ?_ _|refine blk_drew ?_|refine blk_alloc ?_ _));exact BK227.out)):gb227 ≠ gb233));have n7_:=Aside0.mk ((by rw [hg];exact Nat.ne_of_gt (blk_lt (g:=gb227) (o:=.cells #[.int .i64 a0_0,.slice A0_1 l0_1.length c0_1] 31 (0,0)) (by (with_reducible repeat (first|refine blk_drewN ?_ _|refine blk_drew ?_|refine blk_alloc ?_ _));exact BK227.out)):gb233 ≠ gb227));have n8_:=Aside0.mk ((by rw [hg];exact Nat.ne_of_lt (blk_lt (g:=gb228) (o:=.cells #[.int .i64 x229000_5,.int .i64 x229001_5,.int .i64 x229002_5] 52 (0,0)) (by (with_reducible repeat (first|refine blk_drewN ?_ _|refine blk_drew ?_|refine blk_alloc ?_ _));exact BK228.out)):gb228 ≠ gb233));have n9_:=Aside0.mk ((by rw [hg];exact Nat.ne_of_gt (blk_lt (g:=gb228) (o:=.cells #[.int .i64 x229000_5,.int .i64 x229001_5,.int .i64 x229002_5] 52 (0,0)) (by (with_reducible repeat (first|refine blk_drewN ?_ _|refine blk_drew ?_|refine blk_alloc ?_ _));exact BK228.out)):gb233 ≠ gb228));clear BK227;clear BK228;clear HB;have BK227:=n0_;have BK228:=n1_;have HB:=n2_;have BK233:=n3_;have GW233:=n4_;have GE233:=n5_;have NB227_233:=n6_;have NB233_227:=n7_;have NB228_233:=n8_;have NB233_228:=n9_;clear n0_ n1_ n2_ n3_ n4_ n5_ n6_ n7_ n8_ n9_;clear hb hbox hg;have hnb30:=NB233_227.out;have hnc30:=NB227_233.out;have hnb31:=NB233_228.out;have hnc31:=NB228_233.out;have hcz32_0:w29.cell? ⟨gb233,0,none⟩=some (.int .i64 0):=(blk_cell BK233.out 0).trans rfl;have hcz32_1:w29.cell? ⟨gb233,1,none⟩=some (.int .i64 0):=(blk_cell BK233.out 1).trans rfl;have hcz32_2:w29.cell? ⟨gb233,2,none⟩=some (.int .i64 0):=(blk_cell BK233.out 2).trans rfl;have hfz32_0:=blk_frozen BK233.out 0;have hfz32_1:=blk_frozen BK233.out 1;have hfz32_2:=blk_frozen BK233.out 2;have hnb33:=NB227_228.out;have hnc33:=NB228_227.out;have hcz34_0:w29.cell? ⟨gb227,0,none⟩=some (.int .i64 a0_0):=(blk_cell BK227.out 0).trans rfl;have hcz34_1:w29.cell? ⟨gb227,1,none⟩=some (.slice A0_1 l0_1.length c0_1):=(blk_cell BK227.out 1).trans rfl;have hfz34_0:=blk_frozen BK227.out 0;have hfz34_1:=blk_frozen BK227.out 1)|((with_reducible refine gate_callee (f:=26) rfl ?_);refine goesL_ (some 60) rfl rfl Tryd.func26 (by kernel_rfl) rfl #[.agg #[.int .i64 a0_0,.slice A0_1 l0_1.length c0_1],.agg #[.int .i64 x7_2,.int .i64 x10_4,.int .i64 x11_5]] rfl (by (try simp only [List.map_toArray,List.map_cons,List.map_nil]);first|done|rfl|(simp only [List.length_drop,List.length_take];rfl)) ?_;(with_reducible refine (spec_EventOk.calls k5 a0_0 _ _ l0_1 x7_2 x10_4 x11_5 true _ ?side1 ?side2 A25.out).mono ?_);(case side1=>exact Kd.C_below HR0_1.out (by repeat (first|(with_reducible first|exact HB.out|apply below_alloc|apply pw_below_drewN|apply below_drew1|refine below_set ?_ GE227.out|refine below_set ?_ GE228.out|refine below_set ?_ GE233.out)|exact HB.out)));(case side2=>exact HC0_1.out);rintro e w35 ⟨rfl,hb⟩;refine ⟨_,rfl,?_⟩;have n0_:=Aside0.mk (blk_below (g:=gb227) (o:=.cells #[.int .i64 a0_0,.slice A0_1 l0_1.length c0_1] 31 (0,0)) (by (with_reducible repeat (first|refine blk_drewN ?_ _|refine blk_drew ?_|refine blk_alloc ?_ _));refine blk_far ?_ NB227_233.out _;(with_reducible repeat (first|refine blk_drewN ?_ _|refine blk_drew ?_|refine blk_alloc ?_ _));refine blk_far ?_ NB227_233.out _;(with_reducible repeat (first|refine blk_drewN ?_ _|refine blk_drew ?_|refine blk_alloc ?_ _));refine blk_far ?_ NB227_233.out _;(with_reducible repeat (first|refine blk_drewN ?_ _|refine blk_drew ?_|refine blk_alloc ?_ _));exact BK227.out) hb);have n1_:=Aside0.mk (blk_below (g:=gb228) (o:=.cells #[.int .i64 x229000_5,.int .i64 x229001_5,.int .i64 x229002_5] 52 (0,0)) (by (with_reducible repeat (first|refine blk_drewN ?_ _|refine blk_drew ?_|refine blk_alloc ?_ _));refine blk_far ?_ NB228_233.out _;(with_reducible repeat (first|refine blk_drewN ?_ _|refine blk_drew ?_|refine blk_alloc ?_ _));refine blk_far ?_ NB228_233.out _;(with_reducible repeat (first|refine blk_drewN ?_ _|refine blk_drew ?_|refine blk_alloc ?_ _));refine blk_far ?_ NB228_233.out _;(with_reducible repeat (first|refine blk_drewN ?_ _|refine blk_drew ?_|refine blk_alloc ?_ _));exact BK228.out) hb);have n2_:=Aside0.mk (blk_below (g:=gb233) (o:=.cells #[.int .i64 x7_2,.int .i64 x10_4,.int .i64 x11_5] 52 (0,0)) (by (with_reducible repeat (first|refine blk_drewN ?_ _|refine blk_drew ?_|refine blk_alloc ?_ _));refine blk_put (cs:=#[.int .i64 x7_2,.int .i64 x10_4,.int .i64 0]) ?_ 2 _ rfl;(with_reducible repeat (first|refine blk_drewN ?_ _|refine blk_drew ?_|refine blk_alloc ?_ _));refine blk_put (cs:=#[.int .i64 x7_2,.int .i64 0,.int .i64 0]) ?_ 1 _ rfl;(with_reducible repeat (first|refine blk_drewN ?_ _|refine blk_drew ?_|refine blk_alloc ?_ _));refine blk_put (cs:=#[.int .i64 0,.int .i64 0,.int .i64 0]) ?_ 0 _ rfl;(with_reducible repeat (first|refine blk_drewN ?_ _|refine blk_drew ?_|refine blk_alloc ?_ _));exact BK233.out) hb);have n3_:=Aside0.mk (below_step (by repeat (first|(with_reducible first|exact HB.out|apply below_alloc|apply pw_below_drewN|apply below_drew1|refine below_set ?_ GE227.out|refine below_set ?_ GE228.out|refine below_set ?_ GE233.out)|exact HB.out)) hb);clear BK227;clear BK228;clear BK233;clear HB;have BK227:=n0_;have BK228:=n1_;have BK233:=n2_;have HB:=n3_;clear n0_ n1_ n2_ n3_;(try clear hb);(try clear hb2);(try clear hk);(try clear hi);have hcz36_0:w35.cell? ⟨gb233,0,none⟩=some (.int .i64 x7_2):=(blk_cell BK233.out 0).trans rfl;have hcz36_1:w35.cell? ⟨gb233,1,none⟩=some (.int .i64 x10_4):=(blk_cell BK233.out 1).trans rfl;have hcz36_2:w35.cell? ⟨gb233,2,none⟩=some (.int .i64 x11_5):=(blk_cell BK233.out 2).trans rfl;have hfz36_0:=blk_frozen BK233.out 0;have hfz36_1:=blk_frozen BK233.out 1;have hfz36_2:=blk_frozen BK233.out 2)|(go_at_call 27;(with_reducible refine (spec_l4line.calls x7_2 x10_4 x11_5 t235 _ A27.out).mono ?_);rintro e w37 ⟨rfl,hb⟩;have n0_:=Aside0.mk (blk_below (g:=gb227) (o:=.cells #[.int .i64 a0_0,.slice A0_1 l0_1.length c0_1] 31 (0,0)) (by (with_reducible repeat (first|refine blk_drewN ?_ _|refine blk_drew ?_|refine blk_alloc ?_ _));exact BK227.out) hb);have n1_:=Aside0.mk (blk_below (g:=gb228) (o:=.cells #[.int .i64 x229000_5,.int .i64 x229001_5,.int .i64 x229002_5] 52 (0,0)) (by (with_reducible repeat (first|refine blk_drewN ?_ _|refine blk_drew ?_|refine blk_alloc ?_ _));exact BK228.out) hb);have n2_:=Aside0.mk (blk_below (g:=gb233) (o:=.cells #[.int .i64 x7_2,.int .i64 x10_4,.int .i64 x11_5] 52 (0,0)) (by (with_reducible repeat (first|refine blk_drewN ?_ _|refine blk_drew ?_|refine blk_alloc ?_ _));exact BK233.out) hb);have n3_:=Aside0.mk (below_step (by repeat (first|(with_reducible first|exact HB.out|apply below_alloc|apply pw_below_drewN|apply below_drew1|refine below_set ?_ GE227.out|refine below_set ?_ GE228.out|refine below_set ?_ GE233.out)|exact HB.out)) hb);clear BK227;clear BK228;clear BK233;clear HB;have BK227:=n0_;have BK228:=n1_;have BK233:=n2_;have HB:=n3_;clear n0_ n1_ n2_ n3_;(try clear hb);(try clear hb2);(try clear hk);(try clear hi);have hcz38_0:w37.cell? ⟨gb233,0,none⟩=some (.int .i64 x7_2):=(blk_cell BK233.out 0).trans rfl;have hcz38_1:w37.cell? ⟨gb233,1,none⟩=some (.int .i64 x10_4):=(blk_cell BK233.out 1).trans rfl;have hcz38_2:w37.cell? ⟨gb233,2,none⟩=some (.int .i64 x11_5):=(blk_cell BK233.out 2).trans rfl;have hfz38_0:=blk_frozen BK233.out 0;have hfz38_1:=blk_frozen BK233.out 1;have hfz38_2:=blk_frozen BK233.out 2;have hcz39_0:w37.cell? ⟨gb228,0,none⟩=some (.int .i64 x229000_5):=(blk_cell BK228.out 0).trans rfl;have hcz39_1:w37.cell? ⟨gb228,1,none⟩=some (.int .i64 x229001_5):=(blk_cell BK228.out 1).trans rfl;have hcz39_2:w37.cell? ⟨gb228,2,none⟩=some (.int .i64 x229002_5):=(blk_cell BK228.out 2).trans rfl;have hfz39_0:=blk_frozen BK228.out 0;have hfz39_1:=blk_frozen BK228.out 1;have hfz39_2:=blk_frozen BK228.out 2))
                   refine bodyPost_ret (results_ct rfl _ _ gb228 52 #[.int .i64 x7_2,.int .i64 x10_4,.int .i64 x11_5] (0,0) _ rfl (by (with_reducible repeat (first|refine blk_drewN ?_ _|refine blk_drew ?_|refine blk_alloc ?_ _));refine blk_put (cs:=#[.int .i64 x7_2,.int .i64 x10_4,.int .i64 x229002_5]) ?_ 2 _ rfl;(with_reducible repeat (first|refine blk_drewN ?_ _|refine blk_drew ?_|refine blk_alloc ?_ _));refine blk_put (cs:=#[.int .i64 x7_2,.int .i64 x229001_5,.int .i64 x229002_5]) ?_ 1 _ rfl;(with_reducible repeat (first|refine blk_drewN ?_ _|refine blk_drew ?_|refine blk_alloc ?_ _));refine blk_put (cs:=#[.int .i64 x229000_5,.int .i64 x229001_5,.int .i64 x229002_5]) ?_ 0 _ rfl;(with_reducible repeat (first|refine blk_drewN ?_ _|refine blk_drew ?_|refine blk_alloc ?_ _));exact BK228.out) Tryd.underlying52 rfl (by kernel_rfl)) rfl ?_
                   exact ⟨by first|rfl|(simp [errW_none,errW_some] <;> rfl)|(simp [*,errW_none,errW_some] <;> rfl),by repeat (first|(with_reducible first|exact HB.out|apply below_alloc|apply pw_below_drewN|apply below_drew1|refine below_set ?_ GE227.out|refine below_set ?_ GE228.out|refine below_set ?_ GE233.out)|exact HB.out)⟩
                  rw [if_neg c28] at H
                  have c28b0:(t235.toList==a1.toList)=false:=beq_eq_false_iff_ne.mpr c28
                  have c28b1:(t235.toList != a1.toList)=true:=bne_iff_ne.mpr c28
                  have H':=Aside0.mk H
                  clear H
                  go_wp2_with (first|((with_reducible refine gate_dst (N:=12) rfl ?_);(try (refine gate_guard (by rfl) ?_;dsimp only));refine box_event ?hg (N:=12) ?hd (cs:=#[.int .i64 0,.int .i64 0,.int .i64 0]) (t:=52) ?hr ?_;(case hd=>rfl);(case hg=>rfl);(case hr=>first|(go_simp;done)|(go_simp;rfl));intro gb233 hg w40 hbox hb;have n0_:=Aside0.mk (blk_below (g:=gb227) (o:=.cells #[.int .i64 a0_0,.slice A0_1 l0_1.length c0_1] 31 (0,0)) (by (with_reducible repeat (first|refine blk_drewN ?_ _|refine blk_drew ?_|refine blk_alloc ?_ _));exact BK227.out) hb);have n1_:=Aside0.mk (blk_below (g:=gb228) (o:=.cells #[.int .i64 x229000_5,.int .i64 x229001_5,.int .i64 x229002_5] 52 (0,0)) (by (with_reducible repeat (first|refine blk_drewN ?_ _|refine blk_drew ?_|refine blk_alloc ?_ _));exact BK228.out) hb);have n2_:=Aside0.mk (below_step (by repeat (first|(with_reducible first|exact HB.out|apply below_alloc|apply pw_below_drewN|apply below_drew1|refine below_set ?_ GE227.out|refine below_set ?_ GE228.out)|exact HB.out)) hb);have n3_:=Aside0.mk (hbox);have n4_:=Aside0.mk ((by rw [hg];exact (below_size (by repeat (first|(with_reducible first|exact HB.out|apply below_alloc|apply pw_below_drewN|apply below_drew1|refine below_set ?_ GE227.out|refine below_set ?_ GE228.out)|exact HB.out))):w.heap.size≤gb233));have n5_:=Aside0.mk ((by rw [hg];exact (below_size (by repeat (first|(with_reducible first|exact HB.out|apply below_alloc|apply pw_below_drewN|apply below_drew1|refine below_set ?_ GE227.out|refine below_set ?_ GE228.out)|exact HB.out))):w.heap.size≤gb233));have n6_:=Aside0.mk ((by rw [hg];exact Nat.ne_of_lt (blk_lt (g:=gb227) (o:=.cells #[.int .i64 a0_0,.slice A0_1 l0_1.length c0_1] 31 (0,0)) (by (with_reducible repeat (first|refine blk_drewN ?_ _|refine blk_drew ?_|refine blk_alloc ?_ _));exact BK227.out)):gb227 ≠ gb233));have n7_:=Aside0.mk ((by rw [hg];exact Nat.ne_of_gt (blk_lt (g:=gb227) (o:=.cells #[.int .i64 a0_0,.slice A0_1 l0_1.length c0_1] 31 (0,0)) (by (with_reducible repeat (first|refine blk_drewN ?_ _|refine blk_drew ?_|refine blk_alloc ?_ _));exact BK227.out)):gb233 ≠ gb227));have n8_:=Aside0.mk ((by rw [hg];exact Nat.ne_of_lt (blk_lt (g:=gb228) (o:=.cells #[.int .i64 x229000_5,.int .i64 x229001_5,.int .i64 x229002_5] 52 (0,0)) (by (with_reducible repeat (first|refine blk_drewN ?_ _|refine blk_drew ?_|refine blk_alloc ?_ _));exact BK228.out)):gb228 ≠ gb233));have n9_:=Aside0.mk ((by rw [hg];exact Nat.ne_of_gt (blk_lt (g:=gb228) (o:=.cells #[.int .i64 x229000_5,.int .i64 x229001_5,.int .i64 x229002_5] 52 (0,0)) (by (with_reducible repeat (first|refine blk_drewN ?_ _|refine blk_drew ?_|refine blk_alloc ?_ _));exact BK228.out)):gb233 ≠ gb228));clear BK227;clear BK228;clear HB;have BK227:=n0_;have BK228:=n1_;have HB:=n2_;have BK233:=n3_;have GW233:=n4_;have GE233:=n5_;have NB227_233:=n6_;have NB233_227:=n7_;have NB228_233:=n8_;have NB233_228:=n9_;clear n0_ n1_ n2_ n3_ n4_ n5_ n6_ n7_ n8_ n9_;clear hb hbox hg;have hnb41:=NB233_227.out;have hnc41:=NB227_233.out;have hnb42:=NB233_228.out;have hnc42:=NB228_233.out;have hcz43_0:w40.cell? ⟨gb233,0,none⟩=some (.int .i64 0):=(blk_cell BK233.out 0).trans rfl;have hcz43_1:w40.cell? ⟨gb233,1,none⟩=some (.int .i64 0):=(blk_cell BK233.out 1).trans rfl;have hcz43_2:w40.cell? ⟨gb233,2,none⟩=some (.int .i64 0):=(blk_cell BK233.out 2).trans rfl;have hfz43_0:=blk_frozen BK233.out 0;have hfz43_1:=blk_frozen BK233.out 1;have hfz43_2:=blk_frozen BK233.out 2;have hnb44:=NB227_228.out;have hnc44:=NB228_227.out;have hcz45_0:w40.cell? ⟨gb227,0,none⟩=some (.int .i64 a0_0):=(blk_cell BK227.out 0).trans rfl;have hcz45_1:w40.cell? ⟨gb227,1,none⟩=some (.slice A0_1 l0_1.length c0_1):=(blk_cell BK227.out 1).trans rfl;have hfz45_0:=blk_frozen BK227.out 0;have hfz45_1:=blk_frozen BK227.out 1)|((with_reducible refine gate_callee (f:=26) rfl ?_);refine goesL_ (some 60) rfl rfl Tryd.func26 (by kernel_rfl) rfl #[.agg #[.int .i64 a0_0,.slice A0_1 l0_1.length c0_1],.agg #[.int .i64 x7_2,.int .i64 x10_4,.int .i64 x11_5]] rfl (by (try simp only [List.map_toArray,List.map_cons,List.map_nil]);first|done|rfl|(simp only [List.length_drop,List.length_take];rfl)) ?_;(with_reducible refine (spec_EventOk.calls k5 a0_0 _ _ l0_1 x7_2 x10_4 x11_5 true _ ?side1 ?side2 A25.out).mono ?_);(case side1=>exact Kd.C_below HR0_1.out (by repeat (first|(with_reducible first|exact HB.out|apply below_alloc|apply pw_below_drewN|apply below_drew1|refine below_set ?_ GE227.out|refine below_set ?_ GE228.out|refine below_set ?_ GE233.out)|exact HB.out)));(case side2=>exact HC0_1.out);rintro e w46 ⟨rfl,hb⟩;refine ⟨_,rfl,?_⟩;have n0_:=Aside0.mk (blk_below (g:=gb227) (o:=.cells #[.int .i64 a0_0,.slice A0_1 l0_1.length c0_1] 31 (0,0)) (by (with_reducible repeat (first|refine blk_drewN ?_ _|refine blk_drew ?_|refine blk_alloc ?_ _));refine blk_far ?_ NB227_233.out _;(with_reducible repeat (first|refine blk_drewN ?_ _|refine blk_drew ?_|refine blk_alloc ?_ _));refine blk_far ?_ NB227_233.out _;(with_reducible repeat (first|refine blk_drewN ?_ _|refine blk_drew ?_|refine blk_alloc ?_ _));refine blk_far ?_ NB227_233.out _;(with_reducible repeat (first|refine blk_drewN ?_ _|refine blk_drew ?_|refine blk_alloc ?_ _));exact BK227.out) hb);have n1_:=Aside0.mk (blk_below (g:=gb228) (o:=.cells #[.int .i64 x229000_5,.int .i64 x229001_5,.int .i64 x229002_5] 52 (0,0)) (by (with_reducible repeat (first|refine blk_drewN ?_ _|refine blk_drew ?_|refine blk_alloc ?_ _));refine blk_far ?_ NB228_233.out _;(with_reducible repeat (first|refine blk_drewN ?_ _|refine blk_drew ?_|refine blk_alloc ?_ _));refine blk_far ?_ NB228_233.out _;(with_reducible repeat (first|refine blk_drewN ?_ _|refine blk_drew ?_|refine blk_alloc ?_ _));refine blk_far ?_ NB228_233.out _;(with_reducible repeat (first|refine blk_drewN ?_ _|refine blk_drew ?_|refine blk_alloc ?_ _));exact BK228.out) hb);have n2_:=Aside0.mk (blk_below (g:=gb233) (o:=.cells #[.int .i64 x7_2,.int .i64 x10_4,.int .i64 x11_5] 52 (0,0)) (by (with_reducible repeat (first|refine blk_drewN ?_ _|refine blk_drew ?_|refine blk_alloc ?_ _));refine blk_put (cs:=#[.int .i64 x7_2,.int .i64 x10_4,.int .i64 0]) ?_ 2 _ rfl;(with_reducible repeat (first|refine blk_drewN ?_ _|refine blk_drew ?_|refine blk_alloc ?_ _));refine blk_put (cs:=#[.int .i64 x7_2,.int .i64 0,.int .i64 0]) ?_ 1 _ rfl;(with_reducible repeat (first|refine blk_drewN ?_ _|refine blk_drew ?_|refine blk_alloc ?_ _));refine blk_put (cs:=#[.int .i64 0,.int .i64 0,.int .i64 0]) ?_ 0 _ rfl;(with_reducible repeat (first|refine blk_drewN ?_ _|refine blk_drew ?_|refine blk_alloc ?_ _));exact BK233.out) hb);have n3_:=Aside0.mk (below_step (by repeat (first|(with_reducible first|exact HB.out|apply below_alloc|apply pw_below_drewN|apply below_drew1|refine below_set ?_ GE227.out|refine below_set ?_ GE228.out|refine below_set ?_ GE233.out)|exact HB.out)) hb);clear BK227;clear BK228;clear BK233;clear HB;have BK227:=n0_;have BK228:=n1_;have BK233:=n2_;have HB:=n3_;clear n0_ n1_ n2_ n3_;(try clear hb);(try clear hb2);(try clear hk);(try clear hi);have hcz47_0:w46.cell? ⟨gb233,0,none⟩=some (.int .i64 x7_2):=(blk_cell BK233.out 0).trans rfl;have hcz47_1:w46.cell? ⟨gb233,1,none⟩=some (.int .i64 x10_4):=(blk_cell BK233.out 1).trans rfl;have hcz47_2:w46.cell? ⟨gb233,2,none⟩=some (.int .i64 x11_5):=(blk_cell BK233.out 2).trans rfl;have hfz47_0:=blk_frozen BK233.out 0;have hfz47_1:=blk_frozen BK233.out 1;have hfz47_2:=blk_frozen BK233.out 2)|(go_at_call 27;(with_reducible refine (spec_l4line.calls x7_2 x10_4 x11_5 t235 _ A27.out).mono ?_);rintro e w48 ⟨rfl,hb⟩;have n0_:=Aside0.mk (blk_below (g:=gb227) (o:=.cells #[.int .i64 a0_0,.slice A0_1 l0_1.length c0_1] 31 (0,0)) (by (with_reducible repeat (first|refine blk_drewN ?_ _|refine blk_drew ?_|refine blk_alloc ?_ _));exact BK227.out) hb);have n1_:=Aside0.mk (blk_below (g:=gb228) (o:=.cells #[.int .i64 x229000_5,.int .i64 x229001_5,.int .i64 x229002_5] 52 (0,0)) (by (with_reducible repeat (first|refine blk_drewN ?_ _|refine blk_drew ?_|refine blk_alloc ?_ _));exact BK228.out) hb);have n2_:=Aside0.mk (blk_below (g:=gb233) (o:=.cells #[.int .i64 x7_2,.int .i64 x10_4,.int .i64 x11_5] 52 (0,0)) (by (with_reducible repeat (first|refine blk_drewN ?_ _|refine blk_drew ?_|refine blk_alloc ?_ _));exact BK233.out) hb);have n3_:=Aside0.mk (below_step (by repeat (first|(with_reducible first|exact HB.out|apply below_alloc|apply pw_below_drewN|apply below_drew1|refine below_set ?_ GE227.out|refine below_set ?_ GE228.out|refine below_set ?_ GE233.out)|exact HB.out)) hb);clear BK227;clear BK228;clear BK233;clear HB;have BK227:=n0_;have BK228:=n1_;have BK233:=n2_;have HB:=n3_;clear n0_ n1_ n2_ n3_;(try clear hb);(try clear hb2);(try clear hk);(try clear hi)))
                  go_roundg k5
                  case measure=>have:=HJ2.out;have:=HK2.out;have:=HJ15.out;have:=HK4.out;have:=HK5.out;omega
                  case rel=>exact ⟨(wrap64 (x11_5+1)),(x229000_5),(x229001_5),(x229002_5),(by first|rfl|(simp;done)|(simp [*];done)),H',⟨by have:=HJ2.out;have:=HK2.out;have:=HJ15.out;have:=HK4.out;have:=HK5.out;omega⟩,⟨by (with_reducible repeat (first|refine blk_drewN ?_ _|refine blk_drew ?_|refine blk_alloc ?_ _));exact BK227.out⟩,⟨by (with_reducible repeat (first|refine blk_drewN ?_ _|refine blk_drew ?_|refine blk_alloc ?_ _));exact BK228.out⟩,⟨by repeat (first|(with_reducible first|exact HB.out|apply below_alloc|apply pw_below_drewN|apply below_drew1|refine below_set ?_ GE227.out|refine below_set ?_ GE228.out|refine below_set ?_ GE233.out)|exact HB.out)⟩⟩
                 replace c26:=Bool.eq_false_iff.mpr c26
                 subst c26
                 have H1:(spec_l4event.l2 k5 a1 x6_2 x7_2 x10_4 (wrap64 (x11_5+1)) a0_0 l0_1)=some (r1,r2,r3,r4):=by rw [if_neg (show ¬ (false=true) by decide)] at H;exact H
                 clear H
                 have H:=H1
                 clear H1
                 have H':=Aside0.mk H
                 clear H
                 go_wp2_with (first|((with_reducible refine gate_dst (N:=12) rfl ?_);(try (refine gate_guard (by rfl) ?_;dsimp only));refine box_event ?hg (N:=12) ?hd (cs:=#[.int .i64 0,.int .i64 0,.int .i64 0]) (t:=52) ?hr ?_;(case hd=>rfl);(case hg=>rfl);(case hr=>first|(go_simp;done)|(go_simp;rfl));intro gb233 hg w49 hbox hb;have n0_:=Aside0.mk (blk_below (g:=gb227) (o:=.cells #[.int .i64 a0_0,.slice A0_1 l0_1.length c0_1] 31 (0,0)) (by (with_reducible repeat (first|refine blk_drewN ?_ _|refine blk_drew ?_|refine blk_alloc ?_ _));exact BK227.out) hb);have n1_:=Aside0.mk (blk_below (g:=gb228) (o:=.cells #[.int .i64 x229000_5,.int .i64 x229001_5,.int .i64 x229002_5] 52 (0,0)) (by (with_reducible repeat (first|refine blk_drewN ?_ _|refine blk_drew ?_|refine blk_alloc ?_ _));exact BK228.out) hb);have n2_:=Aside0.mk (below_step (by repeat (first|(with_reducible first|exact HB.out|apply below_alloc|apply pw_below_drewN|apply below_drew1|refine below_set ?_ GE227.out|refine below_set ?_ GE228.out)|exact HB.out)) hb);have n3_:=Aside0.mk (hbox);have n4_:=Aside0.mk ((by rw [hg];exact (below_size (by repeat (first|(with_reducible first|exact HB.out|apply below_alloc|apply pw_below_drewN|apply below_drew1|refine below_set ?_ GE227.out|refine below_set ?_ GE228.out)|exact HB.out))):w.heap.size≤gb233));have n5_:=Aside0.mk ((by rw [hg];exact (below_size (by repeat (first|(with_reducible first|exact HB.out|apply below_alloc|apply pw_below_drewN|apply below_drew1|refine below_set ?_ GE227.out|refine below_set ?_ GE228.out)|exact HB.out))):w.heap.size≤gb233));have n6_:=Aside0.mk ((by rw [hg];exact Nat.ne_of_lt (blk_lt (g:=gb227) (o:=.cells #[.int .i64 a0_0,.slice A0_1 l0_1.length c0_1] 31 (0,0)) (by (with_reducible repeat (first|refine blk_drewN ?_ _|refine blk_drew ?_|refine blk_alloc ?_ _));exact BK227.out)):gb227 ≠ gb233));have n7_:=Aside0.mk ((by rw [hg];exact Nat.ne_of_gt (blk_lt (g:=gb227) (o:=.cells #[.int .i64 a0_0,.slice A0_1 l0_1.length c0_1] 31 (0,0)) (by (with_reducible repeat (first|refine blk_drewN ?_ _|refine blk_drew ?_|refine blk_alloc ?_ _));exact BK227.out)):gb233 ≠ gb227));have n8_:=Aside0.mk ((by rw [hg];exact Nat.ne_of_lt (blk_lt (g:=gb228) (o:=.cells #[.int .i64 x229000_5,.int .i64 x229001_5,.int .i64 x229002_5] 52 (0,0)) (by (with_reducible repeat (first|refine blk_drewN ?_ _|refine blk_drew ?_|refine blk_alloc ?_ _));exact BK228.out)):gb228 ≠ gb233));have n9_:=Aside0.mk ((by rw [hg];exact Nat.ne_of_gt (blk_lt (g:=gb228) (o:=.cells #[.int .i64 x229000_5,.int .i64 x229001_5,.int .i64 x229002_5] 52 (0,0)) (by (with_reducible repeat (first|refine blk_drewN ?_ _|refine blk_drew ?_|refine blk_alloc ?_ _));exact BK228.out)):gb233 ≠ gb228));clear BK227;clear BK228;clear HB;have BK227:=n0_;have BK228:=n1_;have HB:=n2_;have BK233:=n3_;have GW233:=n4_;have GE233:=n5_;have NB227_233:=n6_;have NB233_227:=n7_;have NB228_233:=n8_;have NB233_228:=n9_;clear n0_ n1_ n2_ n3_ n4_ n5_ n6_ n7_ n8_ n9_;clear hb hbox hg;have hnb50:=NB233_227.out;have hnc50:=NB227_233.out;have hnb51:=NB233_228.out;have hnc51:=NB228_233.out;have hcz52_0:w49.cell? ⟨gb233,0,none⟩=some (.int .i64 0):=(blk_cell BK233.out 0).trans rfl;have hcz52_1:w49.cell? ⟨gb233,1,none⟩=some (.int .i64 0):=(blk_cell BK233.out 1).trans rfl;have hcz52_2:w49.cell? ⟨gb233,2,none⟩=some (.int .i64 0):=(blk_cell BK233.out 2).trans rfl;have hfz52_0:=blk_frozen BK233.out 0;have hfz52_1:=blk_frozen BK233.out 1;have hfz52_2:=blk_frozen BK233.out 2;have hnb53:=NB227_228.out;have hnc53:=NB228_227.out;have hcz54_0:w49.cell? ⟨gb227,0,none⟩=some (.int .i64 a0_0):=(blk_cell BK227.out 0).trans rfl;have hcz54_1:w49.cell? ⟨gb227,1,none⟩=some (.slice A0_1 l0_1.length c0_1):=(blk_cell BK227.out 1).trans rfl;have hfz54_0:=blk_frozen BK227.out 0;have hfz54_1:=blk_frozen BK227.out 1)|((with_reducible refine gate_callee (f:=26) rfl ?_);refine goesL_ (some 60) rfl rfl Tryd.func26 (by kernel_rfl) rfl #[.agg #[.int .i64 a0_0,.slice A0_1 l0_1.length c0_1],.agg #[.int .i64 x7_2,.int .i64 x10_4,.int .i64 x11_5]] rfl (by (try simp only [List.map_toArray,List.map_cons,List.map_nil]);first|done|rfl|(simp only [List.length_drop,List.length_take];rfl)) ?_;(with_reducible refine (spec_EventOk.calls k5 a0_0 _ _ l0_1 x7_2 x10_4 x11_5 false _ ?side1 ?side2 A25.out).mono ?_);(case side1=>exact Kd.C_below HR0_1.out (by repeat (first|(with_reducible first|exact HB.out|apply below_alloc|apply pw_below_drewN|apply below_drew1|refine below_set ?_ GE227.out|refine below_set ?_ GE228.out|refine below_set ?_ GE233.out)|exact HB.out)));(case side2=>exact HC0_1.out);rintro e w55 ⟨rfl,hb⟩;refine ⟨_,rfl,?_⟩;have n0_:=Aside0.mk (blk_below (g:=gb227) (o:=.cells #[.int .i64 a0_0,.slice A0_1 l0_1.length c0_1] 31 (0,0)) (by (with_reducible repeat (first|refine blk_drewN ?_ _|refine blk_drew ?_|refine blk_alloc ?_ _));refine blk_far ?_ NB227_233.out _;(with_reducible repeat (first|refine blk_drewN ?_ _|refine blk_drew ?_|refine blk_alloc ?_ _));refine blk_far ?_ NB227_233.out _;(with_reducible repeat (first|refine blk_drewN ?_ _|refine blk_drew ?_|refine blk_alloc ?_ _));refine blk_far ?_ NB227_233.out _;(with_reducible repeat (first|refine blk_drewN ?_ _|refine blk_drew ?_|refine blk_alloc ?_ _));exact BK227.out) hb);have n1_:=Aside0.mk (blk_below (g:=gb228) (o:=.cells #[.int .i64 x229000_5,.int .i64 x229001_5,.int .i64 x229002_5] 52 (0,0)) (by (with_reducible repeat (first|refine blk_drewN ?_ _|refine blk_drew ?_|refine blk_alloc ?_ _));refine blk_far ?_ NB228_233.out _;(with_reducible repeat (first|refine blk_drewN ?_ _|refine blk_drew ?_|refine blk_alloc ?_ _));refine blk_far ?_ NB228_233.out _;(with_reducible repeat (first|refine blk_drewN ?_ _|refine blk_drew ?_|refine blk_alloc ?_ _));refine blk_far ?_ NB228_233.out _;(with_reducible repeat (first|refine blk_drewN ?_ _|refine blk_drew ?_|refine blk_alloc ?_ _));exact BK228.out) hb);have n2_:=Aside0.mk (blk_below (g:=gb233) (o:=.cells #[.int .i64 x7_2,.int .i64 x10_4,.int .i64 x11_5] 52 (0,0)) (by (with_reducible repeat (first|refine blk_drewN ?_ _|refine blk_drew ?_|refine blk_alloc ?_ _));refine blk_put (cs:=#[.int .i64 x7_2,.int .i64 x10_4,.int .i64 0]) ?_ 2 _ rfl;(with_reducible repeat (first|refine blk_drewN ?_ _|refine blk_drew ?_|refine blk_alloc ?_ _));refine blk_put (cs:=#[.int .i64 x7_2,.int .i64 0,.int .i64 0]) ?_ 1 _ rfl;(with_reducible repeat (first|refine blk_drewN ?_ _|refine blk_drew ?_|refine blk_alloc ?_ _));refine blk_put (cs:=#[.int .i64 0,.int .i64 0,.int .i64 0]) ?_ 0 _ rfl;(with_reducible repeat (first|refine blk_drewN ?_ _|refine blk_drew ?_|refine blk_alloc ?_ _));exact BK233.out) hb);have n3_:=Aside0.mk (below_step (by repeat (first|(with_reducible first|exact HB.out|apply below_alloc|apply pw_below_drewN|apply below_drew1|refine below_set ?_ GE227.out|refine below_set ?_ GE228.out|refine below_set ?_ GE233.out)|exact HB.out)) hb);clear BK227;clear BK228;clear BK233;clear HB;have BK227:=n0_;have BK228:=n1_;have BK233:=n2_;have HB:=n3_;clear n0_ n1_ n2_ n3_;(try clear hb);(try clear hb2);(try clear hk);(try clear hi)))
                 go_roundg k5
                 case measure=>have:=HJ2.out;have:=HK2.out;have:=HJ15.out;have:=HK4.out;have:=HK5.out;omega
                 case rel=>exact ⟨(wrap64 (x11_5+1)),(x229000_5),(x229001_5),(x229002_5),(by first|rfl|(simp;done)|(simp [*];done)),H',⟨by have:=HJ2.out;have:=HK2.out;have:=HJ15.out;have:=HK4.out;have:=HK5.out;omega⟩,⟨by (with_reducible repeat (first|refine blk_drewN ?_ _|refine blk_drew ?_|refine blk_alloc ?_ _));exact BK227.out⟩,⟨by (with_reducible repeat (first|refine blk_drewN ?_ _|refine blk_drew ?_|refine blk_alloc ?_ _));exact BK228.out⟩,⟨by repeat (first|(with_reducible first|exact HB.out|apply below_alloc|apply pw_below_drewN|apply below_drew1|refine below_set ?_ GE227.out|refine below_set ?_ GE228.out|refine below_set ?_ GE233.out)|exact HB.out)⟩⟩
                rw [if_neg c24] at H
                have c24b0:decide (x11_5≤1)=false:=decide_eq_false c24
                clear c24
                have H':=Aside0.mk H
                clear H
                go_wp2
                go_roundg k5
                case measure=>have:=HJ2.out;have:=HK2.out;have:=HJ15.out;have:=HK4.out;have:=HK5.out;omega
                case rel=>exact ⟨(wrap64 (x10_4+1)),(x229000_5),(x229001_5),(x229002_5),(by first|rfl|(simp;done)|(simp [*];done)),H',⟨by have:=HJ2.out;have:=HK2.out;have:=HJ15.out;have:=HK4.out;have:=HK5.out;omega⟩,⟨by (with_reducible repeat (first|refine blk_drewN ?_ _|refine blk_drew ?_|refine blk_alloc ?_ _));exact BK227.out⟩,⟨by (with_reducible repeat (first|refine blk_drewN ?_ _|refine blk_drew ?_|refine blk_alloc ?_ _));exact BK228.out⟩,⟨by repeat (first|(with_reducible first|exact HB.out|apply below_alloc|apply pw_below_drewN|apply below_drew1|refine below_set ?_ GE227.out|refine below_set ?_ GE228.out)|exact HB.out)⟩⟩
             rw [if_neg c23] at H
             have c23b0:decide (x10_4<x6_2)=false:=decide_eq_false c23
             clear c23
             have H':=Aside0.mk H
             clear H
             go_wp2
             go_roundg k4
             case measure=>have:=HJ2.out;have:=HK2.out;have:=HJ15.out;have:=HK4.out;omega
             case rel=>exact ⟨(wrap64 (x7_2+1)),(x229000_4),(x229001_4),(x229002_4),(by first|rfl|(simp;done)|(simp [*];done)),H',⟨by have:=HJ2.out;have:=HK2.out;have:=HJ15.out;have:=HK4.out;omega⟩,⟨by (with_reducible repeat (first|refine blk_drewN ?_ _|refine blk_drew ?_|refine blk_alloc ?_ _));exact BK227.out⟩,⟨by (with_reducible repeat (first|refine blk_drewN ?_ _|refine blk_drew ?_|refine blk_alloc ?_ _));exact BK228.out⟩,⟨by repeat (first|(with_reducible first|exact HB.out|apply below_alloc|apply pw_below_drewN|apply below_drew1|refine below_set ?_ GE227.out|refine below_set ?_ GE228.out)|exact HB.out)⟩⟩
        rw [if_neg c15] at H
        exact absurd H (by simp)
       rw [if_neg c14] at H
       exact absurd H (by simp)
      rw [if_neg c13] at H
      exact absurd H (by simp)
     rw [if_neg c11] at H
     have c11b0:decide (x7_2≤5)=false:=decide_eq_false c11
     clear c11
     simp only [Option.some.injEq,Prod.mk.injEq] at H
     obtain ⟨rfl,rfl,rfl,rfl⟩:=H
     have hnb56:=NB228_227.out
     have hnc56:=NB227_228.out
     have hcz57_0:wr.cell? ⟨gb228,0,none⟩=some (.int .i64 x229000_2):=(blk_cell BK228.out 0).trans rfl
     have hcz57_1:wr.cell? ⟨gb228,1,none⟩=some (.int .i64 x229001_2):=(blk_cell BK228.out 1).trans rfl
     have hcz57_2:wr.cell? ⟨gb228,2,none⟩=some (.int .i64 x229002_2):=(blk_cell BK228.out 2).trans rfl
     have hfz57_0:=blk_frozen BK228.out 0
     have hfz57_1:=blk_frozen BK228.out 1
     have hfz57_2:=blk_frozen BK228.out 2
     go_wp2
     refine bodyPost_ret (results_ct rfl _ _ gb228 52 #[.int .i64 0,.int .i64 0,.int .i64 0] (0,0) _ rfl (by (with_reducible repeat (first|refine blk_drewN ?_ _|refine blk_drew ?_|refine blk_alloc ?_ _));refine blk_put (cs:=#[.int .i64 0,.int .i64 0,.int .i64 x229002_2]) ?_ 2 _ rfl;(with_reducible repeat (first|refine blk_drewN ?_ _|refine blk_drew ?_|refine blk_alloc ?_ _));refine blk_put (cs:=#[.int .i64 0,.int .i64 x229001_2,.int .i64 x229002_2]) ?_ 1 _ rfl;(with_reducible repeat (first|refine blk_drewN ?_ _|refine blk_drew ?_|refine blk_alloc ?_ _));refine blk_put (cs:=#[.int .i64 x229000_2,.int .i64 x229001_2,.int .i64 x229002_2]) ?_ 0 _ rfl;(with_reducible repeat (first|refine blk_drewN ?_ _|refine blk_drew ?_|refine blk_alloc ?_ _));exact BK228.out) Tryd.underlying52 rfl (by kernel_rfl)) rfl ?_
     exact ⟨by first|rfl|(simp [errW_none,errW_some] <;> rfl)|(simp [*,errW_none,errW_some] <;> rfl),by repeat (first|(with_reducible first|exact HB.out|apply below_alloc|apply pw_below_drewN|apply below_drew1|refine below_set ?_ GE227.out|refine below_set ?_ GE228.out)|exact HB.out)⟩
end Go.Proofs.YtpdnabhpkdchjaaDoor.P
namespace Go.Proofs.YtpdnabhpkdchjaaDoor.P
open Go Go.RowKit Go.Proofs.YtpdnabhpkdchjaaDoorW.PrintWords Go.Proofs.YtpdnabhpkdchjaaDoorW.PrintLast Go.Proofs.YtpdnabhpkdchjaaDoorW.PrintMore
set_option linter.unusedVariables false
set_option linter.unusedSimpArgs false
theorem bs_toList (s:List UInt8):(bs s).toList=s:=by
 have h:∀ (d:Nat) (i:Nat) (r:List UInt8),i+d=s.length→ByteArray.toList.loop (bs s) i r=r.reverse ++ s.drop i:=by
  intro d
  induction d with
  | zero =>
   intro i r hi
   rw [ByteArray.toList.loop,if_neg (by rw [bs_size];omega),List.drop_of_length_le (by omega),List.append_nil]
  | succ d ih =>
   intro i r hi
   have hl:i<s.length:=by omega
   rw [ByteArray.toList.loop,if_pos (by rw [bs_size];omega),ih (i+1) _ (by omega),List.reverse_cons,List.append_assoc]
   congr 1
   rw [List.drop_eq_getElem_cons hl]
   simp [ByteArray.get!,bs,hl]
 have:=h s.length 0 [] (by omega)
 rw [ByteArray.toList,this]
 simp
theorem bs_take (s:List UInt8) (i j:Nat):(bs s).extract i j=bs ((s.take j).drop i):=by
 apply ByteArray.ext
 simp [bs,ByteArray.data_extract]
 rw [List.drop_take]
section
variable {n : Int} {l : List S98} {s : List UInt8}
theorem l4_l2 {op of:Int} (ho:1≤op∧op≤5) (hf:0≤of∧of≤119) (HN:(∀ e,Tells n l s e→op<e.f0 ∨ op=e.f0∧of+1≤e.f1)→Ev (fun k=>spec_l4event.l1 k (bs s) (most n l) op (of+1) n l) (evRes n l s)) (d:Nat) :
  ∀ dir:Int,dir+d=2→-1≤dir→(∀ e,Tells n l s e→op<e.f0 ∨ op=e.f0∧(of<e.f1 ∨ of=e.f1∧dir≤e.f2))→Ev (fun k=>spec_l4event.l2 k (bs s) (most n l) op of dir n l) (evRes n l s):=by
 induction d with
 | zero =>
  intro dir hd h0 inv
  refine Ev.step (fun k=>?_) (HN (fun e he=>?_))
  ·rw [spec_l4event.l2,if_neg (by omega),wrap_id (by omega) (by omega)]
  have:=inv e he
  have hp:=ev_parts he.1
  omega
 | succ d ih =>
  intro dir hd h0 inv
  refine Ev.step (fun k=>by rw [spec_l4event.l2,if_pos (by omega),wrap_id (x:=dir+1) (by omega) (by omega)]) ?_
  refine Ev.bind (specEventOk_ev n l op of dir) ?_
  have next:(∀ e,Tells n l s e→¬ (e.f0=op∧e.f1=of∧e.f2=dir))→Ev (fun k=>spec_l4event.l2 k (bs s) (most n l) op of (dir+1) n l) (evRes n l s):=by
   intro hno
   refine ih (dir+1) (by omega) (by omega) (fun e he=>?_)
   have h1:=inv e he
   have h2:=hno e he
   omega
  by_cases he:eventOk n l op of dir=true
  ·refine Ev.ite_pos he ?_
   refine Ev.call (line_f ho hf ⟨h0,by omega⟩) ?_
   by_cases hs:lineN op of dir=s
   ·refine Ev.ite_pos (by rw [bs_toList,bs_toList];exact hs) ?_
    rw [evRes_some (e:=⟨op,of,dir⟩) ⟨he,hs⟩]
    exact Ev.now _
   refine Ev.ite_neg (by rw [bs_toList,bs_toList];exact hs) (next (fun e ht hc=>?_))
   obtain ⟨h1,h2,h3⟩:=hc
   have:=ht.2
   rw [h1,h2,h3] at this
   exact hs this
  refine Ev.ite_neg he (next (fun e ht hc=>?_))
  obtain ⟨h1,h2,h3⟩:=hc
  have:=ht.1
  rw [h1,h2,h3] at this
  exact he this
theorem l4_l1 {op:Int} (hm:most n l≤120) (ho:1≤op∧op≤5) (HN:(∀ e,Tells n l s e→op+1≤e.f0)→Ev (fun k=>spec_l4event.l0 k (bs s) (most n l) (op+1) n l) (evRes n l s)) (d:Nat) :
  ∀ of:Int,(of+d=most n l ∨ most n l≤of∧d=0∧of≤120)→0≤of→(∀ e,Tells n l s e→op<e.f0 ∨ op=e.f0∧of≤e.f1)→Ev (fun k=>spec_l4event.l1 k (bs s) (most n l) op of n l) (evRes n l s):=by
 induction d with
 | zero =>
  intro of hd h0 inv
  refine Ev.step (fun k=>?_) (HN (fun e he=>?_))
  ·rw [spec_l4event.l1,if_neg (by omega),wrap_id (by omega) (by omega)]
  have:=inv e he
  have hp:=ev_most he.1
  omega
 | succ d ih =>
  intro of hd h0 inv
  have hlt:of<most n l:=by omega
  refine Ev.step (fun k=>by rw [spec_l4event.l1,if_pos hlt]) ?_
  refine l4_l2 ho ⟨h0,by omega⟩ (fun hi=>ih (of+1) (by omega) (by omega) hi) 3 (-1) (by omega) (by omega) (fun e he=>?_)
  have:=inv e he
  have hp:=ev_parts he.1
  omega
theorem l4_l0 (hm:most n l≤120) (d:Nat) :
  ∀ op:Int,op+d=6→1≤op→(∀ e,Tells n l s e→op≤e.f0)→Ev (fun k=>spec_l4event.l0 k (bs s) (most n l) op n l) (evRes n l s):=by
 induction d with
 | zero =>
  intro op hd h0 inv
  refine Ev.step (f:=fun _=>some (evRes n l s)) (fun k=>?_) (Ev.now _)
  rw [spec_l4event.l0,if_neg (by omega),evRes_none]
  intro e he
  have:=inv e he
  have hp:=ev_parts he.1
  omega
 | succ d ih =>
  intro op hd h0 inv
  have ho:1≤op∧op≤5:=⟨h0,by omega⟩
  have hw:=word_len op.toNat
  have a1:bs (wordB op.toNat) ++ (⟨#[32]⟩:ByteArray)=bs (wordB op.toNat ++ [32]):=bytes_app _ [32]
  have next:(∀ e,Tells n l s e→¬ e.f0=op)→Ev (fun k=>spec_l4event.l0 k (bs s) (most n l) (op+1) n l) (evRes n l s):=by
   intro hno
   refine ih (op+1) (by omega) (by omega) (fun e he=>?_)
   have:=inv e he
   have:=hno e he
   omega
  have pre:∀ e,Tells n l s e→e.f0=op→∃ r,s=wordB op.toNat ++ [32] ++ r:=by
   intro e he h
   refine ⟨Lib.decDigits e.f1.toNat ++ dirB e.f2,?_⟩
   rw [← he.2,h]
   unfold lineN
   simp
  have j2t:∀ b:Bool,(b=true→∀ e,Tells n l s e→¬ e.f0=op)→Ev (fun k=>spec_l4event.j2 k (bs s) (most n l) op b n l) (evRes n l s):=by
   intro b hb
   cases b with
   | true =>
    refine Ev.step (fun k=>?_) (next (hb rfl))
    rw [spec_l4event.j2,if_pos rfl,wrap_id (by omega) (by omega)]
   | false =>
    have l1s:Ev (fun k=>spec_l4event.l1 k (bs s) (most n l) op 0 n l) (evRes n l s):=by
     by_cases hmn:0≤most n l
     ·refine l4_l1 hm ho (fun hi=>ih (op+1) (by omega) (by omega) hi) (most n l).toNat 0 (by omega) (by omega) (fun e he=>?_)
      have:=inv e he
      have hp:=ev_parts he.1
      omega
     refine l4_l1 hm ho (fun hi=>ih (op+1) (by omega) (by omega) hi) 0 0 (by omega) (by omega) (fun e he=>?_)
     have:=inv e he
     have hp:=ev_parts he.1
     omega
    refine Ev.step (fun k=>?_) l1s
    rw [spec_l4event.j2,if_neg (by simp)]
  refine Ev.step (fun k=>by rw [spec_l4event.l0,if_pos (by omega),show spec_l4words.f=some _ from rfl,Option.bind_some,if_pos (by omega),if_pos (by show op<((6:Nat):Int);omega),words_eq op ho,if_pos (by rw [bs_size];omega),a1]) ?_
  by_cases hlt:s.length<(wordB op.toNat ++ [32]).length
  ·refine Ev.ite_pos (by rw [bs_size,bs_size];omega) (j2t true (fun _ e he hc=>?_))
   obtain ⟨r,hr⟩:=pre e he hc
   rw [hr] at hlt
   simp at hlt
  refine Ev.ite_neg (by rw [bs_size,bs_size];omega) ?_
  refine Ev.ite_pos (by omega) (Ev.ite_pos (by rw [bs_size,bs_size];omega) ?_)
  refine j2t _ (fun hb e he hc=>?_)
  obtain ⟨r,hr⟩:=pre e he hc
  rw [bs_size,Int.toNat_natCast,bs_take,bs_toList,bs_toList,List.drop_zero] at hb
  rw [hr,List.take_left'] at hb
  ·simp at hb
  rfl
theorem l4event_ev (hl:layoutOk n l=0):Ev (fun k=>spec_l4event.f k n l (bs s)) (evRes n l s):=by
 have hn:=lay_n hl
 have hm:most n l≤120:=by unfold most;split <;> omega
 have key:Ev (fun k=>spec_l4event.j0 k (bs s) (most n l) n l) (evRes n l s):=by
  refine Ev.step (fun k=>by rw [spec_l4event.j0]) (l4_l0 hm 5 1 (by omega) (by omega) (fun e he=>?_))
  have hp:=ev_parts he.1
  omega
 unfold spec_l4event.f
 unfold most at key
 by_cases h:n > (l.length:Int)
 ·rw [if_pos h] at key
  exact Ev.ite_pos h key
 rw [if_neg h] at key
 exact Ev.ite_neg h key
end
end Go.Proofs.YtpdnabhpkdchjaaDoor.P
namespace Go.Proofs.YtpdnabhpkdchjaaDoor.P
open Go Go.RowKit Go.Proofs.YtpdnabhpkdchjaaDoorW.PrintWords Go.Proofs.YtpdnabhpkdchjaaDoorW.PrintLast Go.Proofs.YtpdnabhpkdchjaaDoorW.PrintMore
set_option linter.unusedVariables false
set_option linter.unusedSimpArgs false
open Classical in
noncomputable def readGo (n:Int) (l:List S98):Nat→List UInt8→Int→List S52→Int × Int × List S52
 | 0,_,_,out=>(0,0,out)
 | f+1,s,m,out=>if s=[] then (0,0,out) else if (10:UInt8) ∉ s then (3,m+1,[]) else
  match evOf n l (s.takeWhile (· != 10)) with
  | none=>(3,m+1,[])
  | some e=>if out.length=2000 then (3,m+1,[]) else readGo n l f (s.dropWhile (· != 10)).tail (m+1) (out ++ [e])
noncomputable def readE (n:Int) (l:List S98) (s:List UInt8):Int × Int × List S52 :=
 if layoutOk n l=0 then (if s.length > 20000 then (2,0,[]) else readGo n l s.length s 0 []) else (1,0,[])
theorem line_cut {a r:List UInt8} (h:(10:UInt8) ∉ a):(a ++ 10 :: r).takeWhile (· != 10)=a∧((a ++ 10 :: r).dropWhile (· != 10)).tail=r:=by
 induction a with
 | nil=>simp [List.takeWhile,List.dropWhile]
 | cons x a ih =>
  simp only [List.mem_cons,not_or] at h
  have hx:(x != 10)=true:=by simpa using (fun hc=>h.1 hc.symm)
  have:=ih h.2
  rw [List.cons_append,List.takeWhile_cons,List.dropWhile_cons,if_pos hx,if_pos hx]
  exact ⟨by rw [this.1],this.2⟩
end Go.Proofs.YtpdnabhpkdchjaaDoor.P
namespace Go.Proofs.YtpdnabhpkdchjaaDoor.P
open Go Go.RowKit Go.Proofs.YtpdnabhpkdchjaaDoorW.PrintWords Go.Proofs.YtpdnabhpkdchjaaDoorW.PrintLast Go.Proofs.YtpdnabhpkdchjaaDoorW.PrintMore
set_option linter.unusedVariables false
set_option linter.unusedSimpArgs false
theorem lineN_plain {op of dir:Int} (h:1≤op∧op≤5):(10:UInt8) ∉ lineN op of dir:=by
 unfold lineN
 intro hx
 rcases List.mem_append.1 hx with hx|hx
 ·rcases List.mem_append.1 hx with hx|hx
  ·rcases List.mem_append.1 hx with hx|hx
   ·exact (word_plain h _ hx).2 rfl
   revert hx;decide
  have:=(digits_plain _ _ hx).1
  revert this;decide
 revert hx
 unfold dirB
 split
 ·decide
 split
 ·decide
 simp
theorem evB_lineR (e:S52):evB e=lineN e.f0 e.f1 e.f2 ++ [10]:=rfl
theorem readGo_text {n:Int} {l:List S98}:∀ (es:List S52) (f:Nat) (m:Int) (out:List S52),evsOk n l es=true→out.length+es.length≤2000→(textB es).length≤f→readGo n l f (textB es) m out=(0,0,out ++ es)
 | [],f,m,out,_,_,_=>by
  have e:textB []=[]:=rfl
  rw [e,List.append_nil]
  cases f <;> simp [readGo]
 | e :: es,f,m,out,h,hn,hf=>by
  rw [evsOk,List.all_cons,Bool.and_eq_true] at h
  have hp:=ev_parts h.1
  have h10:=lineN_plain (of:=e.f1) (dir:=e.f2) hp.2.1
  have e1:textB (e :: es)=lineN e.f0 e.f1 e.f2 ++ 10 :: textB es:=by rw [textB,List.map_cons,List.flatten_cons,evB_lineR,List.append_assoc,List.singleton_append];rfl
  have hc:=line_cut (r:=textB es) h10
  rw [e1] at hf ⊢
  rw [List.length_append,List.length_cons] at hf
  obtain ⟨f,rfl⟩:∃ f',f=f'+1:=⟨f - 1,by omega⟩
  rw [List.length_cons] at hn
  rw [readGo,if_neg (by simp),if_neg (by simp),hc.1,hc.2,evOf_some (e:=e) ⟨h.1,rfl⟩]
  dsimp only
  rw [if_neg (by omega),readGo_text es f (m+1) (out ++ [e]) h.2 (by rw [List.length_append,List.length_singleton];omega) (by omega),List.append_assoc,List.singleton_append]
theorem readE_text {n:Int} {l:List S98} {es:List S52} (hl:layoutOk n l=0) (h:evsOk n l es=true) (hn:es.length≤2000) (hz:(textB es).length≤20000):readE n l (textB es)=(0,0,es):=by
 rw [readE,if_pos hl,if_neg (by omega),readGo_text es _ _ _ h (by simpa using hn) (Nat.le_refl _),List.nil_append]
theorem readGo_form {n:Int} {l:List S98}:∀ (f:Nat) (s:List UInt8) (m:Int) (out:List S52),0≤m→out.length≤2000→((readGo n l f s m out).1=0 ∨ (readGo n l f s m out).1=3)∧(readGo n l f s m out).2.2.length≤2000∧0≤(readGo n l f s m out).2.1∧(readGo n l f s m out).2.1≤m+f
 | 0,s,m,out,h0,h=>by rw [readGo];exact ⟨.inl rfl,h,Int.le_refl _,by show (0:Int)≤m+((0:Nat):Int);omega⟩
 | f+1,s,m,out,h0,h=>by
  rw [readGo]
  split
  ·exact ⟨.inl rfl,h,by simp,by simp;omega⟩
  split
  ·exact ⟨.inr rfl,by simp,by simp;omega,by simp;omega⟩
  split
  ·exact ⟨.inr rfl,by simp,by simp;omega,by simp;omega⟩
  split
  ·exact ⟨.inr rfl,by simp,by simp;omega,by simp;omega⟩
  rename_i e _ h2
  have:=readGo_form (n:=n) (l:=l) f (s.dropWhile (· != 10)).tail (m+1) (out ++ [e]) (by omega) (by rw [List.length_append,List.length_singleton];omega)
  exact ⟨this.1,this.2.1,this.2.2.1,by omega⟩
theorem readE_form (n:Int) (l:List S98) (s:List UInt8):(0≤(readE n l s).1∧(readE n l s).1≤3)∧(0≤(readE n l s).2.1∧(readE n l s).2.1≤20000)∧(readE n l s).2.2.length≤2000:=by
 unfold readE
 split
 ·split
  ·simp
  have:=readGo_form (n:=n) (l:=l) s.length s 0 [] (by omega) (by simp)
  exact ⟨by rcases this.1 with h|h <;> omega,⟨this.2.2.1,by omega⟩,this.2.1⟩
 simp
end Go.Proofs.YtpdnabhpkdchjaaDoor.P
namespace Go.Proofs.YtpdnabhpkdchjaaDoor.P
open Go.RowKit Go.Proofs.YtpdnabhpkdchjaaDoorW.PrintWords Go.Proofs.YtpdnabhpkdchjaaDoorW.PrintLast Go.Proofs.YtpdnabhpkdchjaaDoorW.PrintMore
set_option linter.unusedVariables false
set_option linter.unusedSimpArgs false
section
variable {code : List Int} {n : Int} {l : List S98} {ho : Bool}
structure EvJ (n:Int) (l:List S98) (s:EvP):Prop where
 dead0:-1≤s.dead
 dead1:s.dead<(l.length:Int)
 ok:∀ e ∈ s.out,eventOk n l e.f0 e.f1 e.f2=true
theorem EvJ.add {s:EvP} (h:EvJ n l s) (c:Int × Int) (th:List Int) (d:Int) (h0:-1≤d) (h1:d<(l.length:Int)) (e:S52) (hok:eventOk n l e.f0 e.f1 e.f2=true):EvJ n l ⟨c,th,d,s.out ++ [e]⟩:=by
 refine ⟨h0,h1,fun x hx=>?_⟩
 have hx2:x ∈ s.out ∨ x=e:=by simpa using hx
 rcases hx2 with hx|rfl
 ·exact h.ok x hx
 exact hok
theorem dir_of {v:Int} (h0:0≤v) (h1:v<2):wrap64 (1 - wrap64 (2 * v))=1 ∨ wrap64 (1 - wrap64 (2 * v))=-1:=by
 rw [wrap_id (x:=2 * v) (by omega) (by omega),wrap_id (by omega) (by omega)]
 omega
theorem ok12 (hl0:layoutOk n l=0) {op k d:Int} (ho:op=1 ∨ op=2) (h0:0≤k) (h1:k<(l.length:Int)) (hd:d=1 ∨ d=-1):eventOk n l op k d=true:=by
 unfold eventOk
 rw [if_pos hl0,if_pos ho,decide_eq_true h0,decide_eq_true h1]
 rcases hd with rfl|rfl <;> rfl
theorem ok34 (hl0:layoutOk n l=0) {op k:Int} (ho:op=3 ∨ op=4) (h0:0≤k) (h1:k<(l.length:Int)):eventOk n l op k 0=true:=by
 unfold eventOk
 rw [if_pos hl0,if_neg (by omega),if_pos ho,decide_eq_true h0,decide_eq_true h1]
 rfl
theorem ok5 (hl0:layoutOk n l=0) {k:Int} (h0:0≤k) (h1:k<n):eventOk n l 5 k 0=true:=by
 unfold eventOk
 rw [if_pos hl0,if_neg (by omega),if_neg (by omega),if_pos rfl,decide_eq_true h0,decide_eq_true h1]
 rfl
theorem evAsk_ok {yes ho:Bool} {c:Int × Int} {m b:Int} (hc:CurOk code b c) (hb:b≤2000000000) (hm:0<m):CurOk code (b+2) (evAsk code yes ho c m).2:=by
 unfold evAsk
 obtain ⟨v,c',_,hp,_,_,hc'⟩:=pick_ok hc (by omega) hm
 cases yes with
 | true=>exact hc.mono (by omega)
 | false =>
  cases ho with
  | true=>exact hc.mono (by omega)
  | false=>simp only [hp];exact hc'
theorem evStep_ok {s:EvP} {b:Int} (hl0:layoutOk n l=0) (hlp:0<l.length) (h:EvJ n l s) (hc:CurOk code b s.c) (hb:b≤1900000000) :
  EvJ n l (evStep code n l ho s)∧CurOk code (b+12) (evStep code n l ho s).c∧(evStep code n l ho s).out.length≤s.out.length+1:=by
 have hn:=lay_n hl0
 obtain ⟨k,c1,_,hk,k0,k1,hc1⟩:=pick_ok (m:=(l.length:Int)) hc (by omega) (by omega)
 obtain ⟨a,c2,_,ha,a0,a1,hc2⟩:=pick_ok (m:=16) hc1 (by omega) (by omega)
 unfold evStep
 simp only [hk,ha]
 split
 ·obtain ⟨v,c3,_,hv,v0,v1,hc3⟩:=pick_ok (m:=2) hc2 (by omega) (by omega)
  simp only [hv]
  exact ⟨h.add _ _ _ h.dead0 h.dead1 _ (ok12 hl0 (.inr rfl) k0 k1 (dir_of v0 v1)),hc3.mono (by omega),by simp⟩
 split
 ·exact ⟨h.add _ _ _ (by omega) k1 _ (ok34 hl0 (.inl rfl) k0 k1),hc2.mono (by omega),by simp⟩
 split
 ·refine ⟨h.add _ _ _ (by omega) (by omega) _ (ok34 hl0 (.inr rfl) ?_ ?_),hc2.mono (by omega),by simp⟩
  ·show 0≤(if 0≤s.dead then s.dead else k)
   split
   ·assumption
   exact k0
  show (if 0≤s.dead then s.dead else k)<(l.length:Int)
  split
  ·exact h.dead1
  exact k1
 split
 ·unfold evReset
  obtain ⟨v,c3,_,hv,v0,v1,hc3⟩:=pick_ok (m:=n) hc2 (by omega) (by omega)
  simp only [hv]
  have hq:=evAsk_ok (yes:=rd s.th v==0) (ho:=ho) (m:=4) hc3 (by omega) (by omega)
  generalize evAsk code (rd s.th v==0) ho c3 4=q at hq
  obtain ⟨yes,c4⟩:=q
  cases yes with
  | true=>exact ⟨h.add _ _ _ h.dead0 h.dead1 _ (ok5 hl0 v0 v1),hq.mono (by omega),by simp⟩
  | false=>exact ⟨⟨h.dead0,h.dead1,h.ok⟩,hq.mono (by omega),by simp⟩
 unfold evPass
 obtain ⟨v,c3,_,hv,v0,v1,hc3⟩:=pick_ok (m:=2) hc2 (by omega) (by omega)
 simp only [hv]
 obtain ⟨d,hd⟩:∃ d,d=wrap64 (1 - wrap64 (2 * v)):=⟨_,rfl⟩
 have hdir:=dir_of v0 v1
 rw [← hd] at hdir ⊢
 obtain ⟨f,hf⟩:∃ f,f=if d<0 then (rd_T98 l k).f1 else (rd_T98 l k).f0:=⟨_,rfl⟩
 obtain ⟨t,ht⟩:∃ t,t=if d<0 then (rd_T98 l k).f0 else (rd_T98 l k).f1:=⟨_,rfl⟩
 rw [← hf,← ht]
 have hq:=evAsk_ok (yes:=decide (f<0) || decide (0<rd s.th f)) (ho:=ho) (m:=8) hc3 (by omega) (by omega)
 generalize evAsk code (decide (f<0) || decide (0<rd s.th f)) ho c3 8=q at hq
 obtain ⟨yes,c4⟩:=q
 cases yes with
 | true =>
  rw [if_pos rfl]
  exact ⟨h.add _ _ _ h.dead0 h.dead1 _ (ok12 hl0 (.inl rfl) k0 k1 hdir),hq.mono (by omega),by simp⟩
 | false =>
  rw [if_neg (by simp)]
  exact ⟨⟨h.dead0,h.dead1,h.ok⟩,hq.mono (by omega),by simp⟩
theorem evLoop_ok (hl0:layoutOk n l=0):∀ (q:Nat) (s:EvP) (b:Int),EvJ n l s→CurOk code b s.c→b+12 * q≤1900000000 →
  EvJ n l (evLoop code n l ho q s)∧(evLoop code n l ho q s).out.length≤s.out.length+q:=by
 have hn:=lay_n hl0
 intro q
 induction q with
 | zero=>intro s b h hc _;exact ⟨h,by simp [evLoop]⟩
 | succ q ih =>
  intro s b h hc hb
  unfold evLoop
  by_cases hz:l.length=0
  ·obtain ⟨v,c3,_,hv,v0,v1,hc3⟩:=pick_ok (m:=n) hc (by omega) (by omega)
   rw [if_pos hz]
   simp only [hv]
   exact ⟨h.add _ _ _ h.dead0 h.dead1 _ (ok5 hl0 v0 v1),by simp⟩
  rw [if_neg hz]
  obtain ⟨k1,k2,k3⟩:=evStep_ok (code:=code) (ho:=ho) hl0 (by omega) h hc (by omega)
  obtain ⟨j1,j3⟩:=ih _ _ k1 k2 (by omega)
  exact ⟨j1,by omega⟩
theorem evDraw_ok {b:Int} {c:Int × Int} (hl0:layoutOk n l=0) (hc:CurOk code b c) (hb:b≤1000000000):EvJ n l (evDraw code n l ho c)∧(evDraw code n l ho c).out.length≤30:=by
 have hn:=lay_n hl0
 unfold evDraw
 obtain ⟨v,c1,_,hv,v0,v1,hc1⟩:=pick_ok (m:=30) hc (by omega) (by omega)
 simp only [hv]
 have h:=evLoop_ok (code:=code) (ho:=ho) hl0 v.toNat ⟨c1,List.replicate n.toNat 0,-1,[]⟩ (b+2)
  ⟨by show (-1:Int)≤-1;decide,by show (-1:Int)<_;omega,fun e he=>absurd he (by simp)⟩ hc1 (by omega)
 exact ⟨h.1,by have:=h.2;simp at this;omega⟩
theorem drawn_text {es:List S52} (hl0:layoutOk n l=0) (h:∀ e ∈ es,eventOk n l e.f0 e.f1 e.f2=true) (hn:es.length≤30):writeE n l es=textB es∧readE n l (textB es)=(0,0,es):=by
 have hok:evsOk n l es=true:=List.all_eq_true.2 h
 have hlen:=textB_len hok
 exact ⟨by rw [writeE,if_pos ⟨hl0,by omega,hok,by omega⟩],readE_text hl0 hok (by omega) (by omega)⟩
end
end Go.Proofs.YtpdnabhpkdchjaaDoor.P
namespace Go.Proofs.YtpdnabhpkdchjaaDoor.P
open Go.RowKit Go.Proofs.YtpdnabhpkdchjaaDoorW.PrintWords Go.Proofs.YtpdnabhpkdchjaaDoorW.PrintLast Go.Proofs.YtpdnabhpkdchjaaDoorW.PrintMore
set_option linter.unusedVariables false
set_option linter.unusedSimpArgs false
section
variable {w : World} {base : Nat} {ok : Nat → Prop} {g n c : Nat} {l : List S87}
theorem sec_at (h:Kd.R k87 87 w base ok (.slice (some ⟨g,0,none⟩) n c) l) (i:Int) (h0:0≤i) (h1:i<n) :
  w.cell? ⟨g,i.toNat * 5,none⟩=some (.int .i64 (rd_T87 l i).f0)∧w.cell? ⟨g,i.toNat * 5+1,none⟩=some (.int .i64 (rd_T87 l i).f1)∧w.cell? ⟨g,i.toNat * 5+2,none⟩=some (.bool (rd_T87 l i).f2) ∧
  w.cell? ⟨g,i.toNat * 5+3,none⟩=some (.bool (rd_T87 l i).f3)∧w.cell? ⟨g,i.toNat * 5+4,none⟩=some (.int .i64 (rd_T87 l i).f4) ∧
  w.frozen? ⟨g,i.toNat * 5,none⟩=false∧w.frozen? ⟨g,i.toNat * 5+1,none⟩=false∧w.frozen? ⟨g,i.toNat * 5+2,none⟩=false∧w.frozen? ⟨g,i.toNat * 5+3,none⟩=false∧w.frozen? ⟨g,i.toNat * 5+4,none⟩=false:=by
 obtain ⟨ce,hcl,hM,hcc,hfr⟩:=Kd.R_elem h z87 i h0 h1
 obtain rfl:=k87_openM hM
 exact ⟨hcc 0 _ rfl,hcc 1 _ rfl,hcc 2 _ rfl,hcc 3 _ rfl,hcc 4 _ rfl,hfr 0,hfr 1,hfr 2,hfr 3,hfr 4⟩
theorem sec_put (h:Kd.R k87 87 w base ok (.slice (some ⟨g,0,none⟩) n c) l) (i:Int) (h0:0≤i) (h1:i<n) (j:Nat) (hj:j<5) (u:Value) (x':S87)
  (hx:([.int .i64 (rd_T87 l i).f0,.int .i64 (rd_T87 l i).f1,.bool (rd_T87 l i).f2,.bool (rd_T87 l i).f3,.int .i64 (rd_T87 l i).f4]:List Value).take j ++ [u] ++ ([.int .i64 (rd_T87 l i).f0,.int .i64 (rd_T87 l i).f1,.bool (rd_T87 l i).f2,.bool (rd_T87 l i).f3,.int .i64 (rd_T87 l i).f4]:List Value).drop (j+1)=[.int .i64 x'.f0,.int .i64 x'.f1,.bool x'.f2,.bool x'.f3,.int .i64 x'.f4]) :
  Kd.R k87 87 (w.setCell ⟨g,i.toNat * 5+j,none⟩ u) base ok (.slice (some ⟨g,0,none⟩) n c) (l.set i.toNat x')∧w.grownBy (w.setCell ⟨g,i.toNat * 5+j,none⟩ u) (some g):=by
 obtain ⟨ce,hcl,hM,hcc,hfr⟩:=Kd.R_elem h z87 i h0 h1
 have hM0:=k87_openM hM
 change ce=[.int .i64 (rd_T87 l i).f0,.int .i64 (rd_T87 l i).f1,.bool (rd_T87 l i).f2,.bool (rd_T87 l i).f3,.int .i64 (rd_T87 l i).f4] at hM0
 subst hM0
 have HP:=Kd.R_seg h i h0 h1 (seg:=[u]) (j:=j) (okp:=fun k=>ok k∧k ≠ g) hcl hcc (show j+1≤5 by omega) (x':=x') (by
  have e:([.int .i64 (rd_T87 l i).f0,.int .i64 (rd_T87 l i).f1,.bool (rd_T87 l i).f2,.bool (rd_T87 l i).f3,.int .i64 (rd_T87 l i).f4]:List Value).take j ++ [u] ++ ([.int .i64 (rd_T87 l i).f0,.int .i64 (rd_T87 l i).f1,.bool (rd_T87 l i).f2,.bool (rd_T87 l i).f3,.int .i64 (rd_T87 l i).f4]:List Value).drop (j+1)=_:=hx
  show k87.M w base _ x' (_ ++ [u] ++ List.drop (j+1) _)
  rw [e]
  exact k87_mkM _ _ _ x') (fun _ hk=>hk)
 exact HP
def SecSt (base:Nat) (ok:Nat→Prop) (g n c:Nat) (l:List S87) (i:Int) (w0 w:World) (y:S87):Prop :=
 Kd.R k87 87 w base ok (.slice (some ⟨g,0,none⟩) n c) (l.set i.toNat y)∧w0.grownBy w (some g)
variable {i : Int} {w0 : World} {a0 a1 a4 : Int} {a2 a3 : Bool}
theorem SecSt.start (h:Kd.R k87 87 w base ok (.slice (some ⟨g,0,none⟩) n c) l) (h0:0≤i) (h1:i<n):SecSt base ok g n c l i w w ⟨(rd_T87 l i).f0,(rd_T87 l i).f1,(rd_T87 l i).f2,(rd_T87 l i).f3,(rd_T87 l i).f4⟩:=by
 refine ⟨?_,World.grownBy.refl w _⟩
 have hl:=(Kd.R_reads' h).1
 have e:l.set i.toNat ⟨(rd_T87 l i).f0,(rd_T87 l i).f1,(rd_T87 l i).f2,(rd_T87 l i).f3,(rd_T87 l i).f4⟩=l:=by
  have hlt:i.toNat<l.length:=by omega
  show l.set i.toNat (rd_T87 l i)=l
  simp only [rd_T87,List.getD_eq_getElem?_getD,List.getElem?_eq_getElem hlt,Option.getD_some,List.set_getElem_self]
 rw [e]
 exact h
theorem SecSt.put (h:SecSt base ok g n c l i w0 w ⟨a0,a1,a2,a3,a4⟩) (h0:0≤i) (h1:i<n) (j:Nat) (hj:j<5) (u:Value) (x':S87)
  (hx:([.int .i64 a0,.int .i64 a1,.bool a2,.bool a3,.int .i64 a4]:List Value).take j ++ [u] ++ ([.int .i64 a0,.int .i64 a1,.bool a2,.bool a3,.int .i64 a4]:List Value).drop (j+1)=[.int .i64 x'.f0,.int .i64 x'.f1,.bool x'.f2,.bool x'.f3,.int .i64 x'.f4]) :
  SecSt base ok g n c l i w0 (w.setCell ⟨g,i.toNat * 5+j,none⟩ u) x':=by
 have hl:=(Kd.R_reads' h.1).1
 have hlt:i.toNat<l.length:=by simp at hl;omega
 have e:rd_T87 (l.set i.toNat ⟨a0,a1,a2,a3,a4⟩) i=⟨a0,a1,a2,a3,a4⟩:=by
  simp [rd_T87,List.getD_eq_getElem?_getD,List.getElem?_set_self hlt]
 obtain ⟨h2,h3⟩:=sec_put h.1 i h0 h1 j hj u x' (by rw [e];exact hx)
 rw [List.set_set] at h2
 exact ⟨h2,h.2.trans h3⟩
theorem SecSt.put0 (h:SecSt base ok g n c l i w0 w ⟨a0,a1,a2,a3,a4⟩) (h0:0≤i) (h1:i<n) {u:Int} {off:Nat} (ho:off=i.toNat * 5+0):SecSt base ok g n c l i w0 (w.setCell ⟨g,off,none⟩ (.int .i64 u)) ⟨u,a1,a2,a3,a4⟩:=ho ▸ h.put h0 h1 0 (by omega) _ _ rfl
theorem SecSt.put1 (h:SecSt base ok g n c l i w0 w ⟨a0,a1,a2,a3,a4⟩) (h0:0≤i) (h1:i<n) {u:Int} {off:Nat} (ho:off=i.toNat * 5+1):SecSt base ok g n c l i w0 (w.setCell ⟨g,off,none⟩ (.int .i64 u)) ⟨a0,u,a2,a3,a4⟩:=ho ▸ h.put h0 h1 1 (by omega) _ _ rfl
theorem SecSt.put2 (h:SecSt base ok g n c l i w0 w ⟨a0,a1,a2,a3,a4⟩) (h0:0≤i) (h1:i<n) {u:Bool} {off:Nat} (ho:off=i.toNat * 5+2):SecSt base ok g n c l i w0 (w.setCell ⟨g,off,none⟩ (.bool u)) ⟨a0,a1,u,a3,a4⟩:=ho ▸ h.put h0 h1 2 (by omega) _ _ rfl
theorem SecSt.put3 (h:SecSt base ok g n c l i w0 w ⟨a0,a1,a2,a3,a4⟩) (h0:0≤i) (h1:i<n) {u:Bool} {off:Nat} (ho:off=i.toNat * 5+3):SecSt base ok g n c l i w0 (w.setCell ⟨g,off,none⟩ (.bool u)) ⟨a0,a1,a2,u,a4⟩:=ho ▸ h.put h0 h1 3 (by omega) _ _ rfl
theorem SecSt.put4 (h:SecSt base ok g n c l i w0 w ⟨a0,a1,a2,a3,a4⟩) (h0:0≤i) (h1:i<n) {u:Int} {off:Nat} (ho:off=i.toNat * 5+4):SecSt base ok g n c l i w0 (w.setCell ⟨g,off,none⟩ (.int .i64 u)) ⟨a0,a1,a2,a3,u⟩:=ho ▸ h.put h0 h1 4 (by omega) _ _ rfl
theorem SecSt.eq {y z:S87} (h:SecSt base ok g n c l i w0 w y) (e:z=y):SecSt base ok g n c l i w0 w z:=e ▸ h
end
def cntN (x:S87) (b:Int):Int:=if -1000000≤wrap64 (x.f1+b)∧wrap64 (x.f1+b)≤1000000 then wrap64 (x.f1+b) else x.f1
def countS (x:S87) (b:Int):S87:=⟨x.f0,cntN x b,x.f2 || decide (cntN x b<0),x.f3 && !(decide (cntN x b=0) && decide (b=-1)),b⟩
theorem cnt_in {x:S87} {b:Int} (h1:-1000000≤wrap64 (x.f1+b)) (h2:wrap64 (x.f1+b)≤1000000):cntN x b=wrap64 (x.f1+b):=by unfold cntN;rw [if_pos ⟨h1,h2⟩]
theorem cnt_lo {x:S87} {b:Int} (h1:¬ -1000000≤wrap64 (x.f1+b)):cntN x b=x.f1:=by unfold cntN;rw [if_neg (fun h=>h1 h.1)]
theorem cnt_hi {x:S87} {b:Int} (h1:¬ wrap64 (x.f1+b)≤1000000):cntN x b=x.f1:=by unfold cntN;rw [if_neg (fun h=>h1 h.2)]
theorem countS_eq {x:S87} {b C:Int} {lost sw:Bool} (hC:cntN x b=C) (hl:(x.f2 || decide (C<0))=lost) (hs:(x.f3 && !(decide (C=0) && decide (b=-1)))=sw):countS x b=⟨x.f0,C,lost,sw,b⟩:=by
 unfold countS
 rw [hC,hl,hs]
theorem cnt_out (s b:Int) (v:Value) (w:World) (h:s<0):Calls Tryd.prog 74 #[.int .i64 s,.int .i64 b,v] w fun e w'=>e=.returned (.tuple #[])∧w=w':=by
 have h1:decide (s<0)=true:=decide_eq_true h
 go_enter Tryd.func74,Tryd.ntmps74
 go_wp2
 refine bodyPost_ret (results_none rfl _ _ _) rfl ?_
 exact ⟨rfl,rfl⟩
set_option maxHeartbeats 4000000 in
set_option maxRecDepth 100000 in
theorem cnt_calls (s b:Int) (bo:Bool) (g gr n c:Nat) (v2:Value) (l:List S87) (w:World) (base:Nat) (ok:Nat→Prop) (h0:0≤s) (h1:s<n)
  (hb:w.heap[g]?=some (.cells #[.bool bo,.slice (some ⟨gr,0,none⟩) n c,v2] 83 (0,0))) (HO:Kd.R k87 87 w base ok (.slice (some ⟨gr,0,none⟩) n c) l) :
  Calls Tryd.prog 74 #[.int .i64 s,.int .i64 b,.pointer (some ⟨g,0,none⟩)] w fun e w'=>e=.returned (.tuple #[])∧Kd.R k87 87 w' base ok (.slice (some ⟨gr,0,none⟩) n c) (l.set s.toNat (countS (rd_T87 l s) b))∧w.grownBy w' (some gr):=by
 obtain ⟨x0,x1,x2,x3,x4,f0,f1,f2,f3,f4⟩:=sec_at HO s h0 h1
 have hc1:w.cell? ⟨g,1,none⟩=some (.slice (some ⟨gr,0,none⟩) n c):=(blk_cell hb 1).trans rfl
 have hs:decide (s<0)=false:=decide_eq_false (by omega)
 have H0:=Aside0.mk h0
 have H1:=Aside0.mk h1
 have HO2:=Aside0.mk HO
 have hp0:=eq_true h0
 have hp1:=eq_true h1
 have ST:=Aside0.mk (SecSt.start HO H0.out H1.out)
 generalize hx:rd_T87 l s=x at x0 x1 x2 x3 x4 ST ⊢
 have HX:=hx
 clear hx hb h0 h1 HO HO2 HX
 by_cases q1:-1000000≤wrap64 (x.f1+b)
 ·skip
  have f1:decide (wrap64 (x.f1+b) ≥ -1000000)=true:=decide_eq_true q1
  have Q1:=Aside0.mk q1
  clear q1
  by_cases q2:wrap64 (x.f1+b)≤1000000
  ·skip
   have f2:decide (wrap64 (x.f1+b)≤1000000)=true:=decide_eq_true q2
   have Q2:=Aside0.mk q2
   clear q2
   by_cases q3:wrap64 (x.f1+b)<0
   ·skip
    have f3:decide (wrap64 (x.f1+b)<0)=true:=decide_eq_true q3
    have Q3:=Aside0.mk q3
    clear q3
    rcases Bool.eq_false_or_eq_true x.f3 with q4|q4
    ·skip
     by_cases q5:wrap64 (x.f1+b)=0
     ·skip
      have f5:(wrap64 (x.f1+b)==0)=true:=beq_iff_eq.mpr q5
      have Q5:=Aside0.mk q5
      clear q5
      exact absurd Q5.out (by have:=Q3.out;omega)
     skip
     have f5:(wrap64 (x.f1+b)==0)=false:=beq_eq_false_iff_ne.mpr q5
     have Q5:=Aside0.mk q5
     clear q5
     go_enter Tryd.func74,Tryd.ntmps74
     go_wp2
     go_end0
     exact ⟨rfl,SecSt.eq (((ST.out.put1 H0.out H1.out rfl).put4 H0.out H1.out rfl).put2 H0.out H1.out rfl) (countS_eq (cnt_in (by have:=Q1.out;omega) (by have:=Q2.out;omega)) (by rw [decide_eq_true (by have:=Q3.out;omega)];simp) (by rw [decide_eq_false (by have:=Q5.out;omega)];simp))⟩
    have Q4:=Aside0.mk q4
    go_enter Tryd.func74,Tryd.ntmps74
    go_wp2
    go_end0
    exact ⟨rfl,SecSt.eq (((ST.out.put1 H0.out H1.out rfl).put4 H0.out H1.out rfl).put2 H0.out H1.out rfl) (countS_eq (cnt_in (by have:=Q1.out;omega) (by have:=Q2.out;omega)) (by rw [decide_eq_true (by have:=Q3.out;omega)];simp) (by rw [Q4.out];rfl))⟩
   skip
   have f3:decide (wrap64 (x.f1+b)<0)=false:=decide_eq_false q3
   have Q3:=Aside0.mk q3
   clear q3
   rcases Bool.eq_false_or_eq_true x.f3 with q4|q4
   ·skip
    by_cases q5:wrap64 (x.f1+b)=0
    ·skip
     have f5:(wrap64 (x.f1+b)==0)=true:=beq_iff_eq.mpr q5
     have Q5:=Aside0.mk q5
     clear q5
     by_cases q6:b=-1
     ·skip
      have f6:(b==-1)=true:=beq_iff_eq.mpr q6
      have Q6:=Aside0.mk q6
      clear q6
      go_enter Tryd.func74,Tryd.ntmps74
      go_wp2
      go_end0
      exact ⟨rfl,SecSt.eq (((ST.out.put1 H0.out H1.out rfl).put4 H0.out H1.out rfl).put3 H0.out H1.out rfl) (countS_eq (cnt_in (by have:=Q1.out;omega) (by have:=Q2.out;omega)) (by rw [decide_eq_false (by have:=Q3.out;omega)];simp) (by rw [decide_eq_true (by have:=Q5.out;omega),decide_eq_true (by have:=Q6.out;omega)];simp))⟩
     skip
     have f6:(b==-1)=false:=beq_eq_false_iff_ne.mpr q6
     have Q6:=Aside0.mk q6
     clear q6
     go_enter Tryd.func74,Tryd.ntmps74
     go_wp2
     go_end0
     exact ⟨rfl,SecSt.eq ((ST.out.put1 H0.out H1.out rfl).put4 H0.out H1.out rfl) (countS_eq (cnt_in (by have:=Q1.out;omega) (by have:=Q2.out;omega)) (by rw [decide_eq_false (by have:=Q3.out;omega)];simp) (by rw [decide_eq_false (show ¬ b=-1 from Q6.out)];simp))⟩
    skip
    have f5:(wrap64 (x.f1+b)==0)=false:=beq_eq_false_iff_ne.mpr q5
    have Q5:=Aside0.mk q5
    clear q5
    go_enter Tryd.func74,Tryd.ntmps74
    go_wp2
    go_end0
    exact ⟨rfl,SecSt.eq ((ST.out.put1 H0.out H1.out rfl).put4 H0.out H1.out rfl) (countS_eq (cnt_in (by have:=Q1.out;omega) (by have:=Q2.out;omega)) (by rw [decide_eq_false (by have:=Q3.out;omega)];simp) (by rw [decide_eq_false (by have:=Q5.out;omega)];simp))⟩
   have Q4:=Aside0.mk q4
   go_enter Tryd.func74,Tryd.ntmps74
   go_wp2
   go_end0
   exact ⟨rfl,SecSt.eq ((ST.out.put1 H0.out H1.out rfl).put4 H0.out H1.out rfl) (countS_eq (cnt_in (by have:=Q1.out;omega) (by have:=Q2.out;omega)) (by rw [decide_eq_false (by have:=Q3.out;omega)];simp) (by rw [Q4.out];rfl))⟩
  skip
  have f2:decide (wrap64 (x.f1+b)≤1000000)=false:=decide_eq_false q2
  have Q2:=Aside0.mk q2
  clear q2
  by_cases q3:x.f1<0
  ·skip
   have f3:decide (x.f1<0)=true:=decide_eq_true q3
   have Q3:=Aside0.mk q3
   clear q3
   rcases Bool.eq_false_or_eq_true x.f3 with q4|q4
   ·skip
    by_cases q5:x.f1=0
    ·skip
     have f5:(x.f1==0)=true:=beq_iff_eq.mpr q5
     have Q5:=Aside0.mk q5
     clear q5
     exact absurd Q5.out (by have:=Q3.out;omega)
    skip
    have f5:(x.f1==0)=false:=beq_eq_false_iff_ne.mpr q5
    have Q5:=Aside0.mk q5
    clear q5
    go_enter Tryd.func74,Tryd.ntmps74
    go_wp2
    go_end0
    exact ⟨rfl,SecSt.eq ((ST.out.put4 H0.out H1.out rfl).put2 H0.out H1.out rfl) (countS_eq (cnt_hi (by have:=Q2.out;omega)) (by rw [decide_eq_true (by have:=Q3.out;omega)];simp) (by rw [decide_eq_false (by have:=Q5.out;omega)];simp))⟩
   have Q4:=Aside0.mk q4
   go_enter Tryd.func74,Tryd.ntmps74
   go_wp2
   go_end0
   exact ⟨rfl,SecSt.eq ((ST.out.put4 H0.out H1.out rfl).put2 H0.out H1.out rfl) (countS_eq (cnt_hi (by have:=Q2.out;omega)) (by rw [decide_eq_true (by have:=Q3.out;omega)];simp) (by rw [Q4.out];rfl))⟩
  skip
  have f3:decide (x.f1<0)=false:=decide_eq_false q3
  have Q3:=Aside0.mk q3
  clear q3
  rcases Bool.eq_false_or_eq_true x.f3 with q4|q4
  ·skip
   by_cases q5:x.f1=0
   ·skip
    have f5:(x.f1==0)=true:=beq_iff_eq.mpr q5
    have Q5:=Aside0.mk q5
    clear q5
    by_cases q6:b=-1
    ·skip
     have f6:(b==-1)=true:=beq_iff_eq.mpr q6
     have Q6:=Aside0.mk q6
     clear q6
     go_enter Tryd.func74,Tryd.ntmps74
     go_wp2
     go_end0
     exact ⟨rfl,SecSt.eq ((ST.out.put4 H0.out H1.out rfl).put3 H0.out H1.out rfl) (countS_eq (cnt_hi (by have:=Q2.out;omega)) (by rw [decide_eq_false (by have:=Q3.out;omega)];simp) (by rw [decide_eq_true (by have:=Q5.out;omega),decide_eq_true (by have:=Q6.out;omega)];simp))⟩
    skip
    have f6:(b==-1)=false:=beq_eq_false_iff_ne.mpr q6
    have Q6:=Aside0.mk q6
    clear q6
    go_enter Tryd.func74,Tryd.ntmps74
    go_wp2
    go_end0
    exact ⟨rfl,SecSt.eq (ST.out.put4 H0.out H1.out rfl) (countS_eq (cnt_hi (by have:=Q2.out;omega)) (by rw [decide_eq_false (by have:=Q3.out;omega)];simp) (by rw [decide_eq_false (show ¬ b=-1 from Q6.out)];simp))⟩
   skip
   have f5:(x.f1==0)=false:=beq_eq_false_iff_ne.mpr q5
   have Q5:=Aside0.mk q5
   clear q5
   go_enter Tryd.func74,Tryd.ntmps74
   go_wp2
   go_end0
   exact ⟨rfl,SecSt.eq (ST.out.put4 H0.out H1.out rfl) (countS_eq (cnt_hi (by have:=Q2.out;omega)) (by rw [decide_eq_false (by have:=Q3.out;omega)];simp) (by rw [decide_eq_false (by have:=Q5.out;omega)];simp))⟩
  have Q4:=Aside0.mk q4
  go_enter Tryd.func74,Tryd.ntmps74
  go_wp2
  go_end0
  exact ⟨rfl,SecSt.eq (ST.out.put4 H0.out H1.out rfl) (countS_eq (cnt_hi (by have:=Q2.out;omega)) (by rw [decide_eq_false (by have:=Q3.out;omega)];simp) (by rw [Q4.out];rfl))⟩
 skip
 have f1:decide (wrap64 (x.f1+b) ≥ -1000000)=false:=decide_eq_false q1
 have Q1:=Aside0.mk q1
 clear q1
 by_cases q3:x.f1<0
 ·skip
  have f3:decide (x.f1<0)=true:=decide_eq_true q3
  have Q3:=Aside0.mk q3
  clear q3
  rcases Bool.eq_false_or_eq_true x.f3 with q4|q4
  ·skip
   by_cases q5:x.f1=0
   ·skip
    have f5:(x.f1==0)=true:=beq_iff_eq.mpr q5
    have Q5:=Aside0.mk q5
    clear q5
    exact absurd Q5.out (by have:=Q3.out;omega)
   skip
   have f5:(x.f1==0)=false:=beq_eq_false_iff_ne.mpr q5
   have Q5:=Aside0.mk q5
   clear q5
   go_enter Tryd.func74,Tryd.ntmps74
   go_wp2
   go_end0
   exact ⟨rfl,SecSt.eq ((ST.out.put4 H0.out H1.out rfl).put2 H0.out H1.out rfl) (countS_eq (cnt_lo (by have:=Q1.out;omega)) (by rw [decide_eq_true (by have:=Q3.out;omega)];simp) (by rw [decide_eq_false (by have:=Q5.out;omega)];simp))⟩
  have Q4:=Aside0.mk q4
  go_enter Tryd.func74,Tryd.ntmps74
  go_wp2
  go_end0
  exact ⟨rfl,SecSt.eq ((ST.out.put4 H0.out H1.out rfl).put2 H0.out H1.out rfl) (countS_eq (cnt_lo (by have:=Q1.out;omega)) (by rw [decide_eq_true (by have:=Q3.out;omega)];simp) (by rw [Q4.out];rfl))⟩
 skip
 have f3:decide (x.f1<0)=false:=decide_eq_false q3
 have Q3:=Aside0.mk q3
 clear q3
 rcases Bool.eq_false_or_eq_true x.f3 with q4|q4
 ·skip
  by_cases q5:x.f1=0
  ·skip
   have f5:(x.f1==0)=true:=beq_iff_eq.mpr q5
   have Q5:=Aside0.mk q5
   clear q5
   by_cases q6:b=-1
   ·skip
    have f6:(b==-1)=true:=beq_iff_eq.mpr q6
    have Q6:=Aside0.mk q6
    clear q6
    go_enter Tryd.func74,Tryd.ntmps74
    go_wp2
    go_end0
    exact ⟨rfl,SecSt.eq ((ST.out.put4 H0.out H1.out rfl).put3 H0.out H1.out rfl) (countS_eq (cnt_lo (by have:=Q1.out;omega)) (by rw [decide_eq_false (by have:=Q3.out;omega)];simp) (by rw [decide_eq_true (by have:=Q5.out;omega),decide_eq_true (by have:=Q6.out;omega)];simp))⟩
   skip
   have f6:(b==-1)=false:=beq_eq_false_iff_ne.mpr q6
   have Q6:=Aside0.mk q6
   clear q6
   go_enter Tryd.func74,Tryd.ntmps74
   go_wp2
   go_end0
   exact ⟨rfl,SecSt.eq (ST.out.put4 H0.out H1.out rfl) (countS_eq (cnt_lo (by have:=Q1.out;omega)) (by rw [decide_eq_false (by have:=Q3.out;omega)];simp) (by rw [decide_eq_false (show ¬ b=-1 from Q6.out)];simp))⟩
  skip
  have f5:(x.f1==0)=false:=beq_eq_false_iff_ne.mpr q5
  have Q5:=Aside0.mk q5
  clear q5
  go_enter Tryd.func74,Tryd.ntmps74
  go_wp2
  go_end0
  exact ⟨rfl,SecSt.eq (ST.out.put4 H0.out H1.out rfl) (countS_eq (cnt_lo (by have:=Q1.out;omega)) (by rw [decide_eq_false (by have:=Q3.out;omega)];simp) (by rw [decide_eq_false (by have:=Q5.out;omega)];simp))⟩
 have Q4:=Aside0.mk q4
 go_enter Tryd.func74,Tryd.ntmps74
 go_wp2
 go_end0
 exact ⟨rfl,SecSt.eq (ST.out.put4 H0.out H1.out rfl) (countS_eq (cnt_lo (by have:=Q1.out;omega)) (by rw [decide_eq_false (by have:=Q3.out;omega)];simp) (by rw [Q4.out];rfl))⟩
end Go.Proofs.YtpdnabhpkdchjaaDoor.P
namespace Go.Proofs.YtpdnabhpkdchjaaDoor.P
open Go.RowKit Go.Proofs.YtpdnabhpkdchjaaDoorW.PrintWords Go.Proofs.YtpdnabhpkdchjaaDoorW.PrintLast Go.Proofs.YtpdnabhpkdchjaaDoorW.PrintMore
set_option linter.unusedVariables false
set_option linter.unusedSimpArgs false
def loseS (x:S87):S87:=⟨x.f0,x.f1,true,x.f3,x.f4⟩
theorem lose_none (s:Int) (v:Value) (w:World) (h:s<0):Calls Tryd.prog 75 #[.int .i64 s,v] w fun e w'=>e=.returned (.tuple #[])∧w=w':=by
 have h1:decide (s ≥ 0)=false:=decide_eq_false (by omega)
 go_enter Tryd.func75,Tryd.ntmps75
 go_wp2
 go_end0
 exact ⟨rfl,rfl⟩
set_option maxHeartbeats 4000000 in
set_option maxRecDepth 100000 in
theorem lose_calls (s:Int) (bo:Bool) (g gr n c:Nat) (v2:Value) (l:List S87) (w:World) (base:Nat) (ok:Nat→Prop) (h0:0≤s) (h1:s<n)
  (hb:w.heap[g]?=some (.cells #[.bool bo,.slice (some ⟨gr,0,none⟩) n c,v2] 83 (0,0))) (HO:Kd.R k87 87 w base ok (.slice (some ⟨gr,0,none⟩) n c) l) :
  Calls Tryd.prog 75 #[.int .i64 s,.pointer (some ⟨g,0,none⟩)] w fun e w'=>e=.returned (.tuple #[])∧Kd.R k87 87 w' base ok (.slice (some ⟨gr,0,none⟩) n c) (l.set s.toNat (loseS (rd_T87 l s)))∧w.grownBy w' (some gr):=by
 obtain ⟨x0,x1,x2,x3,x4,f0,f1,f2,f3,f4⟩:=sec_at HO s h0 h1
 have hc1:w.cell? ⟨g,1,none⟩=some (.slice (some ⟨gr,0,none⟩) n c):=(blk_cell hb 1).trans rfl
 have hs:decide (s ≥ 0)=true:=decide_eq_true (by omega)
 have H0:=Aside0.mk h0
 have H1:=Aside0.mk h1
 have hp0:=eq_true h0
 have hp1:=eq_true h1
 have ST:=Aside0.mk (SecSt.start HO H0.out H1.out)
 generalize hx:rd_T87 l s=x at x0 x1 x2 x3 x4 ST ⊢
 clear hx hb h0 h1 HO
 go_enter Tryd.func75,Tryd.ntmps75
 go_wp2
 go_end0
 exact ⟨rfl,SecSt.eq (ST.out.put2 H0.out H1.out rfl) rfl⟩
end Go.Proofs.YtpdnabhpkdchjaaDoor.P
namespace Go.Proofs.YtpdnabhpkdchjaaDoor.P
open Go.RowKit Go.Proofs.YtpdnabhpkdchjaaDoorW.PrintWords Go.Proofs.YtpdnabhpkdchjaaDoorW.PrintLast Go.Proofs.YtpdnabhpkdchjaaDoorW.PrintMore
attribute [local go_sem] max2_int min2_int max_two min_two max_three min_three max_four min_four
set_option linter.unusedVariables false
set_option linter.unusedSimpArgs false
mutual
def spec_Around.j0:Nat→Int→Bool→Int→List (S98)→Option (List Int)
 | 0,_,_,_,_=>none
 | k+1,x1,x18,x340000,x340001=>if x18=true then (some ([]:List Int)) else (spec_Around.l0 k x1 ([]:List Int) x340001 (x340001.length:Int) 0)
def spec_Around.l0:Nat→Int→List Int→List (S98)→Int→Int→Option (List Int)
 | 0,_,_,_,_,_=>none
 | k+1,x1,x5,x20,x21,x22=>if x22<x21 then (if 0≤x22 then (if x22<(x20.length:Int) then (if ((rd_T98 x20 x22).f0)=x1 then (if x5.length<17592186044416 then (spec_Around.l0 k x1 (x5 ++ [x22]) x20 x21 (wrap64 (x22+1))) else (none)) else (if ((rd_T98 x20 x22).f1)=x1 then (if x5.length<17592186044416 then (spec_Around.l0 k x1 (x5 ++ [x22]) x20 x21 (wrap64 (x22+1))) else (none)) else (spec_Around.l0 k x1 x5 x20 x21 (wrap64 (x22+1))))) else (none)) else (none)) else (some x5)
end
def spec_Around.f (k:Nat) (a0_0:Int) (l0_1:List (S98)) (a1:Int):Option (List Int):=(spec_LayoutOk.f k a0_0 l0_1).bind fun t340=>(if t340=0 then ((spec_l1in.f a1 0 (wrap64 (a0_0 - 1))).bind fun t341=>(spec_Around.j0 k a1 (!t341) a0_0 l0_1)) else (spec_Around.j0 k a1 true a0_0 l0_1))
set_option maxHeartbeats 8000000 in
set_option maxRecDepth 100000 in
theorem spec_Around.calls (k:Nat) (a0_0:Int) (A0_1:Option Addr) (c0_1:Nat) (l0_1:List (S98)) (a1:Int) (r:List Int) (w:World) (hr0_1:Kd.C k98 w A0_1 l0_1.length l0_1) (hc0_1:l0_1.length≤c0_1) (h:spec_Around.f k a0_0 l0_1 a1=some r) :
  Calls Tryd.prog 79 #[.agg #[.int .i64 a0_0,.slice A0_1 l0_1.length c0_1],.int .i64 a1] w fun e w'=>∃ v0_:Value,e=.returned (v0_)∧Kd.R (Kd.int .i64) 3 w' w.heap.size (fun _=>True) v0_ r∧Below w.heap.size w w':=by
 have hu31:=Tryd.underlying31
 have hu98:=Tryd.underlying98
 have HR0_1:=Aside0.mk hr0_1
 have HC0_1:=Aside0.mk hc0_1
 clear hr0_1 hc0_1
 have HB:=Aside0.mk (Below.refl w.heap.size w)
 have H:((spec_LayoutOk.f k a0_0 l0_1).bind fun t340=>(if t340=0 then ((spec_l1in.f a1 0 (wrap64 (a0_0 - 1))).bind fun t341=>(spec_Around.j0 k a1 (!t341) a0_0 l0_1)) else (spec_Around.j0 k a1 true a0_0 l0_1)))=some r:=h
 clear h
 have HC3:=Aside0.mk H
 clear H
 go_enter Tryd.func79,Tryd.ntmps79
 go_upto_region 1 with (first|((with_reducible refine gate_dst (N:=2) rfl ?_);refine box_event ?hg (N:=2) ?hd (cs:=#[.int .i64 a0_0,.slice A0_1 l0_1.length c0_1]) (t:=31) ?hr ?_;(case hd=>rfl);(case hg=>rfl);(case hr=>first|(go_simp;done)|(go_simp;rfl));intro gb339 hg w4 hbox hb;have n0_:=Aside0.mk (below_step (by exact HB.out) hb);have n1_:=Aside0.mk (hbox);have n2_:=Aside0.mk ((by rw [hg];exact (below_size (by exact HB.out)):w.heap.size≤gb339));have n3_:=Aside0.mk ((by rw [hg];exact (below_size (by exact HB.out)):w.heap.size≤gb339));clear HB;have HB:=n0_;have BK339:=n1_;have GW339:=n2_;have GE339:=n3_;clear n0_ n1_ n2_ n3_;clear hb hbox hg))
 (try simp only [Act.put,List.setIfInBounds_toArray,List.set_cons_zero,List.set_cons_succ])
 go_cut [18] (fun v18 wc=>∃ (kq:Nat) (x18_2:Bool),v18=.bool x18_2∧Aside0 (spec_Around.j0 kq a1 x18_2 a0_0 l0_1=some r)∧Aside0 (kq≤k)∧Aside0 (wc.heap[gb339]?=some (.cells #[.int .i64 a0_0,(.slice A0_1 l0_1.length c0_1)] 31 (0,0)))∧Aside0 (Below w.heap.size w wc))
 case first =>
  have H:=HC3.out
  clear HC3
  replace H:=Option.bind_eq_some_iff.mp H
  obtain ⟨t340,A50,H⟩:=H
  replace H:(if t340=0 then ((spec_l1in.f a1 0 (wrap64 (a0_0 - 1))).bind fun t341=>(spec_Around.j0 k a1 (!t341) a0_0 l0_1)) else (spec_Around.j0 k a1 true a0_0 l0_1))=some r:=H
  have A5:=Aside0.mk A50
  clear A50
  by_cases c6:t340=0
  ·rw [if_pos c6] at H
   have c6b0:(t340==0)=true:=beq_iff_eq.mpr c6
   have c6b1:(t340 != 0)=false:=bne_eq_false_iff_eq.mpr c6
   clear c6
   (first|rw [c6b0]|(simp only [i64_w,i32_w];rw [c6b0])|skip)
   replace H:=Option.bind_eq_some_iff.mp H
   obtain ⟨t341,A70,H⟩:=H
   replace H:(spec_Around.j0 k a1 (!t341) a0_0 l0_1)=some r:=H
   have A7:=Aside0.mk A70
   clear A70
   have H':=Aside0.mk H
   clear H
   have hcz8_0:w4.cell? ⟨gb339,0,none⟩=some (.int .i64 a0_0):=(blk_cell BK339.out 0).trans rfl
   have hcz8_1:w4.cell? ⟨gb339,1,none⟩=some (.slice A0_1 l0_1.length c0_1):=(blk_cell BK339.out 1).trans rfl
   have hfz8_0:=blk_frozen BK339.out 0
   have hfz8_1:=blk_frozen BK339.out 1
   go_wp2_with (first|((with_reducible refine gate_callee (f:=38) rfl ?_);refine goesL_ (some 9) rfl rfl Tryd.func38 (by kernel_rfl) rfl #[.agg #[.int .i64 a0_0,.slice A0_1 l0_1.length c0_1]] rfl (by (try simp only [List.map_toArray,List.map_cons,List.map_nil]);first|done|rfl|(simp only [List.length_drop,List.length_take];rfl)) ?_;(with_reducible refine (spec_LayoutOk.calls k a0_0 _ _ l0_1 t340 _ ?side1 ?side2 A5.out).mono ?_);(case side1=>repeat (first|exact (Kd.C_below HR0_1.out HB.out)|(with_reducible refine Kd.C_alloc ?_ _)|(with_reducible refine Kd.C_drewN ?_ _)|(with_reducible refine Kd.C_drew ?_)));(case side2=>exact HC0_1.out);rintro e w9 ⟨rfl,hb⟩;refine ⟨_,rfl,?_⟩;have n0_:=Aside0.mk (blk_below (g:=gb339) (o:=.cells #[.int .i64 a0_0,.slice A0_1 l0_1.length c0_1] 31 (0,0)) (by exact BK339.out) hb);have n1_:=Aside0.mk (below_step (by exact HB.out) hb);clear BK339;clear HB;have BK339:=n0_;have HB:=n1_;clear n0_ n1_;(try clear hb);(try clear hb2);(try clear hk);(try clear hi);have hcz10_0:w9.cell? ⟨gb339,0,none⟩=some (.int .i64 a0_0):=(blk_cell BK339.out 0).trans rfl;have hcz10_1:w9.cell? ⟨gb339,1,none⟩=some (.slice A0_1 l0_1.length c0_1):=(blk_cell BK339.out 1).trans rfl;have hfz10_0:=blk_frozen BK339.out 0;have hfz10_1:=blk_frozen BK339.out 1)|(go_at_call 51;(with_reducible refine (spec_l1in.calls a1 0 (wrap64 (a0_0 - 1)) t341 _ A7.out).mono ?_);rintro e w' ⟨rfl,⟨nd,rfl⟩⟩))
   go_meet
   case rel=>exact ⟨_,(!t341),(by first|rfl|(simp;done)|(simp [*];done)),H',⟨by first|omega|exact Nat.le_refl _⟩,⟨by (with_reducible repeat (first|refine blk_drewN ?_ _|refine blk_drew ?_|refine blk_alloc ?_ _));exact BK339.out⟩,⟨by repeat (first|(with_reducible first|exact HB.out|apply below_alloc|apply pw_below_drewN|apply below_drew1|refine below_set ?_ GE339.out)|exact HB.out)⟩⟩
  rw [if_neg c6] at H
  have c6b0:(t340==0)=false:=beq_eq_false_iff_ne.mpr c6
  have c6b1:(t340 != 0)=true:=bne_iff_ne.mpr c6
  (first|rw [c6b0]|(simp only [i64_w,i32_w];rw [c6b0])|skip)
  have H':=Aside0.mk H
  clear H
  have hcz11_0:w4.cell? ⟨gb339,0,none⟩=some (.int .i64 a0_0):=(blk_cell BK339.out 0).trans rfl
  have hcz11_1:w4.cell? ⟨gb339,1,none⟩=some (.slice A0_1 l0_1.length c0_1):=(blk_cell BK339.out 1).trans rfl
  have hfz11_0:=blk_frozen BK339.out 0
  have hfz11_1:=blk_frozen BK339.out 1
  go_wp2_with (first|((with_reducible refine gate_callee (f:=38) rfl ?_);refine goesL_ (some 9) rfl rfl Tryd.func38 (by kernel_rfl) rfl #[.agg #[.int .i64 a0_0,.slice A0_1 l0_1.length c0_1]] rfl (by (try simp only [List.map_toArray,List.map_cons,List.map_nil]);first|done|rfl|(simp only [List.length_drop,List.length_take];rfl)) ?_;(with_reducible refine (spec_LayoutOk.calls k a0_0 _ _ l0_1 t340 _ ?side1 ?side2 A5.out).mono ?_);(case side1=>repeat (first|exact (Kd.C_below HR0_1.out HB.out)|(with_reducible refine Kd.C_alloc ?_ _)|(with_reducible refine Kd.C_drewN ?_ _)|(with_reducible refine Kd.C_drew ?_)));(case side2=>exact HC0_1.out);rintro e w12 ⟨rfl,hb⟩;refine ⟨_,rfl,?_⟩;have n0_:=Aside0.mk (blk_below (g:=gb339) (o:=.cells #[.int .i64 a0_0,.slice A0_1 l0_1.length c0_1] 31 (0,0)) (by exact BK339.out) hb);have n1_:=Aside0.mk (below_step (by exact HB.out) hb);clear BK339;clear HB;have BK339:=n0_;have HB:=n1_;clear n0_ n1_;(try clear hb);(try clear hb2);(try clear hk);(try clear hi)))
  go_meet
  case rel=>exact ⟨_,(true),(by first|rfl|(simp;done)|(simp [*];done)),H',⟨by first|omega|exact Nat.le_refl _⟩,⟨by (with_reducible repeat (first|refine blk_drewN ?_ _|refine blk_drew ?_|refine blk_alloc ?_ _));exact BK339.out⟩,⟨by repeat (first|(with_reducible first|exact HB.out|apply below_alloc|apply pw_below_drewN|apply below_drew1|refine below_set ?_ GE339.out)|exact HB.out)⟩⟩
 case rest =>
  clear HC3
  try clear p2
  try clear c3
  try clear c6
  try clear c6b0
  try clear c6b1
  try clear p6
  try clear c7
  try clear hcz10_0
  try clear hcz10_1
  try clear hcz11_0
  try clear hcz11_1
  try clear hcz8_0
  try clear hcz8_1
  try clear hfz10_0
  try clear hfz10_1
  try clear hfz11_0
  try clear hfz11_1
  try clear hfz8_0
  try clear hfz8_1
  obtain ⟨kq,x18_2,rfl,HA,HJ2,BK339,HB⟩:=hcut
  cases kq with
  | zero=>exact absurd HA.out (by simp [spec_Around.j0])
  | succ kj2 =>
   have H:=HA.out
   clear HA
   simp only [spec_Around.j0] at H
   by_cases c13:x18_2=true
   ·subst c13
    have H1:(some ([]:List Int))=some r:=by rw [if_pos rfl] at H;exact H
    clear H
    have H:=H1
    clear H1
    obtain rfl:=Option.some.inj H
    go_wp2
    go_ret
    exact ⟨_,by first|rfl|(simp [errW_none,errW_some] <;> rfl)|(simp [*,errW_none,errW_some] <;> rfl),by first|exact Kd.R_nil _ _ _ _ _|exact Kd.N_nil _ _ _ _ _|exact Kd.V_nil _ _ _ _ _|exact Kd.Q_nil _ _ _ _ _|exact Kd.S_nil _ _ _ _ _,by repeat (first|(with_reducible first|exact HB.out|apply below_alloc|apply pw_below_drewN|apply below_drew1|refine below_set ?_ GE339.out)|exact HB.out)⟩
   replace c13:=Bool.eq_false_iff.mpr c13
   subst c13
   have H1:(spec_Around.l0 kj2 a1 ([]:List Int) l0_1 (l0_1.length:Int) 0)=some r:=by rw [if_neg (show ¬ (false=true) by decide)] at H;exact H
   clear H
   have H:=H1
   clear H1
   have H':=Aside0.mk H
   clear H
   have hcz14_0:wc.cell? ⟨gb339,0,none⟩=some (.int .i64 a0_0):=(blk_cell BK339.out 0).trans rfl
   have hcz14_1:wc.cell? ⟨gb339,1,none⟩=some (.slice A0_1 l0_1.length c0_1):=(blk_cell BK339.out 1).trans rfl
   have hfz14_0:=blk_frozen BK339.out 0
   have hfz14_1:=blk_frozen BK339.out 1
   go_wp2
   go_loopg [5,22] kj2 (fun kq v5 v22 w'=>∃ (x5_2:List Int) (x22_2:Int),v22=.int .i64 x22_2∧Aside0 (spec_Around.l0 kq a1 x5_2 l0_1 (l0_1.length:Int) x22_2=some r)∧Aside0 (kq≤kj2)∧Aside0 (Kd.R (Kd.int .i64) 3 w' w.heap.size (fun _=>True) v5 x5_2)∧Aside0 (w'.heap[gb339]?=some (.cells #[.int .i64 a0_0,(.slice A0_1 l0_1.length c0_1)] 31 (0,0)))∧Aside0 (Below w.heap.size w w'))
   case atStart=>exact ⟨(([]:List Int)),(0),(by first|rfl|(simp;done)|(simp [*];done)),H',⟨Nat.le_refl _⟩,⟨by first|exact Kd.R_nil _ _ _ _ _|exact Kd.N_nil _ _ _ _ _|exact Kd.V_nil _ _ _ _ _|exact Kd.Q_nil _ _ _ _ _|exact Kd.S_nil _ _ _ _ _⟩,⟨by (with_reducible repeat (first|refine blk_drewN ?_ _|refine blk_drew ?_|refine blk_alloc ?_ _));exact BK339.out⟩,⟨by repeat (first|(with_reducible first|exact HB.out|apply below_alloc|apply pw_below_drewN|apply below_drew1|refine below_set ?_ GE339.out)|exact HB.out)⟩⟩
   case round =>
    clear H'
    try clear c1
    try clear p2
    try clear c3
    try clear c6
    try clear c6b0
    try clear c6b1
    try clear p6
    try clear c7
    try clear c13
    try clear hcz10_0
    try clear hcz10_1
    try clear hcz11_0
    try clear hcz11_1
    try clear hcz14_0
    try clear hcz14_1
    try clear hcz8_0
    try clear hcz8_1
    try clear hfz10_0
    try clear hfz10_1
    try clear hfz11_0
    try clear hfz11_1
    try clear hfz14_0
    try clear hfz14_1
    try clear hfz8_0
    try clear hfz8_1
    try clear p2
    try clear p6
    obtain ⟨x5_2,x22_2,rfl,HA,HK2,HO_5,BK339,HB⟩:=hrel
    cases gk with
    | zero=>exact absurd HA.out (by simp [spec_Around.l0])
    | succ k2 =>
     have H:=HA.out
     clear HA
     simp only [spec_Around.l0] at H
     by_cases c15:x22_2<(l0_1.length:Int)
     ·rw [if_pos c15] at H
      have c15b0:decide (x22_2<(l0_1.length:Int))=true:=decide_eq_true c15
      clear c15
      by_cases c16:0≤x22_2
      ·rw [if_pos c16] at H
       have c16b0:decide (0≤x22_2)=true:=decide_eq_true c16
       clear c16
       by_cases c17:x22_2<(l0_1.length:Int)
       ·rw [if_pos c17] at H
        have c17b0:decide (x22_2<(l0_1.length:Int))=true:=decide_eq_true c17
        clear c17
        by_cases c18:((rd_T98 l0_1 x22_2).f0)=a1
        ·rw [if_pos c18] at H
         have c18b0:(((rd_T98 l0_1 x22_2).f0)==a1)=true:=beq_iff_eq.mpr c18
         have c18b1:(((rd_T98 l0_1 x22_2).f0) != a1)=false:=bne_eq_false_iff_eq.mpr c18
         clear c18
         by_cases c19:x5_2.length<17592186044416
         ·rw [if_pos c19] at H
          have LMc19:=Aside0.mk c19
          clear c19
          obtain ⟨y344,hy344⟩:∃ y_:List Int,y_=(x5_2 ++ [x22_2]):=⟨_,rfl⟩
          replace H:(spec_Around.l0 k2 a1 y344 l0_1 (l0_1.length:Int) (wrap64 (x22_2+1)))=some r:=by first|(rw [hy344];with_reducible exact H)|(have H2_:=(Option.bind_some _ _).symm.trans H;rw [hy344];with_reducible exact H2_)|(have H2_:=(Option.bind_some _ _).symm.trans H;with_reducible exact H2_)|with_reducible exact H|(rw [hy344];exact H)|exact H
          have Ny344:=Aside0.mk hy344
          clear hy344
          have H':=Aside0.mk H
          clear H
          have p342:0≤(x22_2:Int):=of_decide_eq_true (by first|(with_reducible assumption)|assumption)
          have q342:x22_2<(l0_1.length:Int):=of_decide_eq_true (by first|(with_reducible assumption)|assumption)
          obtain ⟨ad342,e342,hx342_0,hx342_1⟩:=at_T98 HR0_1.out x22_2 p342 q342
          cases e342
          replace hx342_0:=(HB.out.cell (World.block_lt_of_cell? w _ hx342_0)).trans hx342_0
          replace hx342_1:=(HB.out.cell (World.block_lt_of_cell? w _ hx342_1)).trans hx342_1
          replace p342:=eq_true p342
          replace q342:=eq_true q342
          go_wp2_with (first|((with_reducible refine gate_dst (N:=7) rfl ?_);refine box_event ?hg (N:=7) ?hd (cs:=#[.int .i64 0,.int .i64 0]) (t:=98) ?hr ?_;(case hd=>rfl);(case hg=>rfl);(case hr=>first|(go_simp;done)|(go_simp;rfl));intro gb343 hg w20 hbox hb;have n0_:=Aside0.mk (Kd.R_below (by (with_reducible repeat (first|apply Kd.R_alloc|apply Kd.R_drewN|apply Kd.R_drew));exact HO_5.out) hb);have n1_:=Aside0.mk (blk_below (g:=gb339) (o:=.cells #[.int .i64 a0_0,.slice (some ad342) l0_1.length c0_1] 31 (0,0)) (by (with_reducible repeat (first|refine blk_drewN ?_ _|refine blk_drew ?_|refine blk_alloc ?_ _));exact BK339.out) hb);have n2_:=Aside0.mk (below_step (by repeat (first|(with_reducible first|exact HB.out|apply below_alloc|apply pw_below_drewN|apply below_drew1|refine below_set ?_ GE339.out)|exact HB.out)) hb);have n3_:=Aside0.mk (hbox);have n4_:=Aside0.mk ((by rw [hg];exact (below_size (by repeat (first|(with_reducible first|exact HB.out|apply below_alloc|apply pw_below_drewN|apply below_drew1|refine below_set ?_ GE339.out)|exact HB.out))):w.heap.size≤gb343));have n5_:=Aside0.mk ((by rw [hg];exact (below_size (by repeat (first|(with_reducible first|exact HB.out|apply below_alloc|apply pw_below_drewN|apply below_drew1|refine below_set ?_ GE339.out)|exact HB.out))):w.heap.size≤gb343));have n6_:=Aside0.mk ((by rw [hg];exact Nat.ne_of_lt (blk_lt (g:=gb339) (o:=.cells #[.int .i64 a0_0,.slice (some ad342) l0_1.length c0_1] 31 (0,0)) (by (with_reducible repeat (first|refine blk_drewN ?_ _|refine blk_drew ?_|refine blk_alloc ?_ _));exact BK339.out)):gb339 ≠ gb343));have n7_:=Aside0.mk ((by rw [hg];exact Nat.ne_of_gt (blk_lt (g:=gb339) (o:=.cells #[.int .i64 a0_0,.slice (some ad342) l0_1.length c0_1] 31 (0,0)) (by (with_reducible repeat (first|refine blk_drewN ?_ _|refine blk_drew ?_|refine blk_alloc ?_ _));exact BK339.out)):gb343 ≠ gb339));clear HO_5;clear BK339;clear HB;have HO_5:=n0_;have BK339:=n1_;have HB:=n2_;have BK343:=n3_;have GW343:=n4_;have GE343:=n5_;have NB339_343:=n6_;have NB343_339:=n7_;clear n0_ n1_ n2_ n3_ n4_ n5_ n6_ n7_;clear hb hbox hg;have hnb21:=NB343_339.out;have hnc21:=NB339_343.out;have hcz22_0:w20.cell? ⟨gb343,0,none⟩=some (.int .i64 0):=(blk_cell BK343.out 0).trans rfl;have hcz22_1:w20.cell? ⟨gb343,1,none⟩=some (.int .i64 0):=(blk_cell BK343.out 1).trans rfl;have hfz22_0:=blk_frozen BK343.out 0;have hfz22_1:=blk_frozen BK343.out 1)|((with_reducible refine gate_builtin (b:=.append) (xs:=#[.tmp 37,.tmp 39]) rfl ?_);at_builtin;refine Kd.R_append (Kd.int .i64) (w0:=w) w.heap.size rfl (.tmp 37) (.tmp 39) 110 3 (.int .i64 0) 8 rfl Tryd.underlying110 info3 rfl (by decide) (by omega) u5 x5_2 x22_2 [.int .i64 x22_2] (fun _=>True) (fun _=>False) rfl (by first|(go_simp;done)|(go_simp;rfl)) ?aP (fun _ hk=>hk.elim) ?aF ?aO ?aB ?aS ?aL ?_;(case aP=>exact rfl);(case aB=>exact (by repeat (first|(with_reducible first|exact HB.out|apply below_alloc|apply pw_below_drewN|apply below_drew1|refine below_set ?_ GE339.out|refine below_set ?_ GE343.out)|exact HB.out)));(case aF=>exact (fun _ _=>trivial));(case aO=>exact (by (with_reducible repeat (first|apply Kd.R_alloc|apply Kd.R_drewN|apply Kd.R_drew));exact Kd.R_mono (Kd.R_far (p:=⟨gb343,1,none⟩) (Kd.R_far (p:=⟨gb343,0,none⟩) (Kd.R_types HO_5.out BK343.out (by decide)) (fun _ hk=>hk.2) (.int .i64 ((rd_T98 l0_1 x22_2).f0))) (fun _ hk=>hk.2) (.int .i64 ((rd_T98 l0_1 x22_2).f1))) (fun _ hk=>trivial)));(case aS=>exact (below_size (by repeat (first|(with_reducible first|exact HB.out|apply below_alloc|apply pw_below_drewN|apply below_drew1|refine below_set ?_ GE339.out|refine below_set ?_ GE343.out)|exact HB.out))));(case aL=>have:=LMc19.out;omega);intro v345 w23 ho hb hg hat;rw [← Ny344.out] at ho;have n0_:=Aside0.mk (blk_grown (g:=gb339) (o:=.cells #[.int .i64 a0_0,.slice (some ad342) l0_1.length c0_1] 31 (0,0)) (by (with_reducible repeat (first|refine blk_drewN ?_ _|refine blk_drew ?_|refine blk_alloc ?_ _));refine blk_far ?_ NB339_343.out _;(with_reducible repeat (first|refine blk_drewN ?_ _|refine blk_drew ?_|refine blk_alloc ?_ _));refine blk_far ?_ NB339_343.out _;(with_reducible repeat (first|refine blk_drewN ?_ _|refine blk_drew ?_|refine blk_alloc ?_ _));exact BK339.out) hg (Kd.R_ne HO_5.out BK339.out (by decide)));have n1_:=Aside0.mk (blk_grown (g:=gb343) (o:=.cells #[.int .i64 ((rd_T98 l0_1 x22_2).f0),.int .i64 ((rd_T98 l0_1 x22_2).f1)] 98 (0,0)) (by (with_reducible repeat (first|refine blk_drewN ?_ _|refine blk_drew ?_|refine blk_alloc ?_ _));refine blk_put (cs:=#[.int .i64 ((rd_T98 l0_1 x22_2).f0),.int .i64 0]) ?_ 1 _ rfl;(with_reducible repeat (first|refine blk_drewN ?_ _|refine blk_drew ?_|refine blk_alloc ?_ _));refine blk_put (cs:=#[.int .i64 0,.int .i64 0]) ?_ 0 _ rfl;(with_reducible repeat (first|refine blk_drewN ?_ _|refine blk_drew ?_|refine blk_alloc ?_ _));exact BK343.out) hg (Kd.R_ne HO_5.out BK343.out (by decide)));have n2_:=Aside0.mk (hb);have n3_:=Aside0.mk (ho);clear BK339;clear BK343;clear HB;clear HO_5;have BK339:=n0_;have BK343:=n1_;have HB:=n2_;have HO346:=n3_;clear n0_ n1_ n2_ n3_;clear ho hb hg hat))
          go_roundg k2
          case measure=>have:=HJ2.out;have:=HK2.out;omega
          case rel=>exact ⟨(y344),(wrap64 (x22_2+1)),(by first|rfl|(simp;done)|(simp [*];done)),H',⟨by have:=HJ2.out;have:=HK2.out;omega⟩,⟨by (with_reducible repeat (first|apply Kd.R_alloc|apply Kd.R_drewN|apply Kd.R_drew));exact HO346.out⟩,⟨by (with_reducible repeat (first|refine blk_drewN ?_ _|refine blk_drew ?_|refine blk_alloc ?_ _));exact BK339.out⟩,⟨by repeat (first|(with_reducible first|exact HB.out|apply below_alloc|apply pw_below_drewN|apply below_drew1|refine below_set ?_ GE339.out|refine below_set ?_ GE343.out)|exact HB.out)⟩⟩
         rw [if_neg c19] at H
         exact absurd H (by simp)
        rw [if_neg c18] at H
        have c18b0:(((rd_T98 l0_1 x22_2).f0)==a1)=false:=beq_eq_false_iff_ne.mpr c18
        have c18b1:(((rd_T98 l0_1 x22_2).f0) != a1)=true:=bne_iff_ne.mpr c18
        by_cases c24:((rd_T98 l0_1 x22_2).f1)=a1
        ·rw [if_pos c24] at H
         have c24b0:(((rd_T98 l0_1 x22_2).f1)==a1)=true:=beq_iff_eq.mpr c24
         have c24b1:(((rd_T98 l0_1 x22_2).f1) != a1)=false:=bne_eq_false_iff_eq.mpr c24
         clear c24
         by_cases c25:x5_2.length<17592186044416
         ·rw [if_pos c25] at H
          have LMc25:=Aside0.mk c25
          clear c25
          obtain ⟨y347,hy347⟩:∃ y_:List Int,y_=(x5_2 ++ [x22_2]):=⟨_,rfl⟩
          replace H:(spec_Around.l0 k2 a1 y347 l0_1 (l0_1.length:Int) (wrap64 (x22_2+1)))=some r:=by first|(rw [hy347];with_reducible exact H)|(have H2_:=(Option.bind_some _ _).symm.trans H;rw [hy347];with_reducible exact H2_)|(have H2_:=(Option.bind_some _ _).symm.trans H;with_reducible exact H2_)|with_reducible exact H|(rw [hy347];exact H)|exact H
          have Ny347:=Aside0.mk hy347
          clear hy347
          have H':=Aside0.mk H
          clear H
          have p342:0≤(x22_2:Int):=of_decide_eq_true (by first|(with_reducible assumption)|assumption)
          have q342:x22_2<(l0_1.length:Int):=of_decide_eq_true (by first|(with_reducible assumption)|assumption)
          obtain ⟨ad342,e342,hx342_0,hx342_1⟩:=at_T98 HR0_1.out x22_2 p342 q342
          cases e342
          replace hx342_0:=(HB.out.cell (World.block_lt_of_cell? w _ hx342_0)).trans hx342_0
          replace hx342_1:=(HB.out.cell (World.block_lt_of_cell? w _ hx342_1)).trans hx342_1
          replace p342:=eq_true p342
          replace q342:=eq_true q342
          go_wp2_with (first|((with_reducible refine gate_dst (N:=7) rfl ?_);refine box_event ?hg (N:=7) ?hd (cs:=#[.int .i64 0,.int .i64 0]) (t:=98) ?hr ?_;(case hd=>rfl);(case hg=>rfl);(case hr=>first|(go_simp;done)|(go_simp;rfl));intro gb343 hg w26 hbox hb;have n0_:=Aside0.mk (Kd.R_below (by (with_reducible repeat (first|apply Kd.R_alloc|apply Kd.R_drewN|apply Kd.R_drew));exact HO_5.out) hb);have n1_:=Aside0.mk (blk_below (g:=gb339) (o:=.cells #[.int .i64 a0_0,.slice (some ad342) l0_1.length c0_1] 31 (0,0)) (by (with_reducible repeat (first|refine blk_drewN ?_ _|refine blk_drew ?_|refine blk_alloc ?_ _));exact BK339.out) hb);have n2_:=Aside0.mk (below_step (by repeat (first|(with_reducible first|exact HB.out|apply below_alloc|apply pw_below_drewN|apply below_drew1|refine below_set ?_ GE339.out)|exact HB.out)) hb);have n3_:=Aside0.mk (hbox);have n4_:=Aside0.mk ((by rw [hg];exact (below_size (by repeat (first|(with_reducible first|exact HB.out|apply below_alloc|apply pw_below_drewN|apply below_drew1|refine below_set ?_ GE339.out)|exact HB.out))):w.heap.size≤gb343));have n5_:=Aside0.mk ((by rw [hg];exact (below_size (by repeat (first|(with_reducible first|exact HB.out|apply below_alloc|apply pw_below_drewN|apply below_drew1|refine below_set ?_ GE339.out)|exact HB.out))):w.heap.size≤gb343));have n6_:=Aside0.mk ((by rw [hg];exact Nat.ne_of_lt (blk_lt (g:=gb339) (o:=.cells #[.int .i64 a0_0,.slice (some ad342) l0_1.length c0_1] 31 (0,0)) (by (with_reducible repeat (first|refine blk_drewN ?_ _|refine blk_drew ?_|refine blk_alloc ?_ _));exact BK339.out)):gb339 ≠ gb343));have n7_:=Aside0.mk ((by rw [hg];exact Nat.ne_of_gt (blk_lt (g:=gb339) (o:=.cells #[.int .i64 a0_0,.slice (some ad342) l0_1.length c0_1] 31 (0,0)) (by (with_reducible repeat (first|refine blk_drewN ?_ _|refine blk_drew ?_|refine blk_alloc ?_ _));exact BK339.out)):gb343 ≠ gb339));clear HO_5;clear BK339;clear HB;have HO_5:=n0_;have BK339:=n1_;have HB:=n2_;have BK343:=n3_;have GW343:=n4_;have GE343:=n5_;have NB339_343:=n6_;have NB343_339:=n7_;clear n0_ n1_ n2_ n3_ n4_ n5_ n6_ n7_;clear hb hbox hg;have hnb27:=NB343_339.out;have hnc27:=NB339_343.out;have hcz28_0:w26.cell? ⟨gb343,0,none⟩=some (.int .i64 0):=(blk_cell BK343.out 0).trans rfl;have hcz28_1:w26.cell? ⟨gb343,1,none⟩=some (.int .i64 0):=(blk_cell BK343.out 1).trans rfl;have hfz28_0:=blk_frozen BK343.out 0;have hfz28_1:=blk_frozen BK343.out 1)|((with_reducible refine gate_builtin (b:=.append) (xs:=#[.tmp 37,.tmp 39]) rfl ?_);at_builtin;refine Kd.R_append (Kd.int .i64) (w0:=w) w.heap.size rfl (.tmp 37) (.tmp 39) 110 3 (.int .i64 0) 8 rfl Tryd.underlying110 info3 rfl (by decide) (by omega) u5 x5_2 x22_2 [.int .i64 x22_2] (fun _=>True) (fun _=>False) rfl (by first|(go_simp;done)|(go_simp;rfl)) ?aP (fun _ hk=>hk.elim) ?aF ?aO ?aB ?aS ?aL ?_;(case aP=>exact rfl);(case aB=>exact (by repeat (first|(with_reducible first|exact HB.out|apply below_alloc|apply pw_below_drewN|apply below_drew1|refine below_set ?_ GE339.out|refine below_set ?_ GE343.out)|exact HB.out)));(case aF=>exact (fun _ _=>trivial));(case aO=>exact (by (with_reducible repeat (first|apply Kd.R_alloc|apply Kd.R_drewN|apply Kd.R_drew));exact Kd.R_mono (Kd.R_far (p:=⟨gb343,1,none⟩) (Kd.R_far (p:=⟨gb343,0,none⟩) (Kd.R_types HO_5.out BK343.out (by decide)) (fun _ hk=>hk.2) (.int .i64 ((rd_T98 l0_1 x22_2).f0))) (fun _ hk=>hk.2) (.int .i64 ((rd_T98 l0_1 x22_2).f1))) (fun _ hk=>trivial)));(case aS=>exact (below_size (by repeat (first|(with_reducible first|exact HB.out|apply below_alloc|apply pw_below_drewN|apply below_drew1|refine below_set ?_ GE339.out|refine below_set ?_ GE343.out)|exact HB.out))));(case aL=>have:=LMc25.out;omega);intro v348 w29 ho hb hg hat;rw [← Ny347.out] at ho;have n0_:=Aside0.mk (blk_grown (g:=gb339) (o:=.cells #[.int .i64 a0_0,.slice (some ad342) l0_1.length c0_1] 31 (0,0)) (by (with_reducible repeat (first|refine blk_drewN ?_ _|refine blk_drew ?_|refine blk_alloc ?_ _));refine blk_far ?_ NB339_343.out _;(with_reducible repeat (first|refine blk_drewN ?_ _|refine blk_drew ?_|refine blk_alloc ?_ _));refine blk_far ?_ NB339_343.out _;(with_reducible repeat (first|refine blk_drewN ?_ _|refine blk_drew ?_|refine blk_alloc ?_ _));exact BK339.out) hg (Kd.R_ne HO_5.out BK339.out (by decide)));have n1_:=Aside0.mk (blk_grown (g:=gb343) (o:=.cells #[.int .i64 ((rd_T98 l0_1 x22_2).f0),.int .i64 ((rd_T98 l0_1 x22_2).f1)] 98 (0,0)) (by (with_reducible repeat (first|refine blk_drewN ?_ _|refine blk_drew ?_|refine blk_alloc ?_ _));refine blk_put (cs:=#[.int .i64 ((rd_T98 l0_1 x22_2).f0),.int .i64 0]) ?_ 1 _ rfl;(with_reducible repeat (first|refine blk_drewN ?_ _|refine blk_drew ?_|refine blk_alloc ?_ _));refine blk_put (cs:=#[.int .i64 0,.int .i64 0]) ?_ 0 _ rfl;(with_reducible repeat (first|refine blk_drewN ?_ _|refine blk_drew ?_|refine blk_alloc ?_ _));exact BK343.out) hg (Kd.R_ne HO_5.out BK343.out (by decide)));have n2_:=Aside0.mk (hb);have n3_:=Aside0.mk (ho);clear BK339;clear BK343;clear HB;clear HO_5;have BK339:=n0_;have BK343:=n1_;have HB:=n2_;have HO349:=n3_;clear n0_ n1_ n2_ n3_;clear ho hb hg hat))
          go_roundg k2
          case measure=>have:=HJ2.out;have:=HK2.out;omega
          case rel=>exact ⟨(y347),(wrap64 (x22_2+1)),(by first|rfl|(simp;done)|(simp [*];done)),H',⟨by have:=HJ2.out;have:=HK2.out;omega⟩,⟨by exact HO349.out⟩,⟨by exact BK339.out⟩,⟨by exact HB.out⟩⟩
         rw [if_neg c25] at H
         exact absurd H (by simp)
        rw [if_neg c24] at H
        have c24b0:(((rd_T98 l0_1 x22_2).f1)==a1)=false:=beq_eq_false_iff_ne.mpr c24
        have c24b1:(((rd_T98 l0_1 x22_2).f1) != a1)=true:=bne_iff_ne.mpr c24
        have H':=Aside0.mk H
        clear H
        have p342:0≤(x22_2:Int):=of_decide_eq_true (by first|(with_reducible assumption)|assumption)
        have q342:x22_2<(l0_1.length:Int):=of_decide_eq_true (by first|(with_reducible assumption)|assumption)
        obtain ⟨ad342,e342,hx342_0,hx342_1⟩:=at_T98 HR0_1.out x22_2 p342 q342
        cases e342
        replace hx342_0:=(HB.out.cell (World.block_lt_of_cell? w _ hx342_0)).trans hx342_0
        replace hx342_1:=(HB.out.cell (World.block_lt_of_cell? w _ hx342_1)).trans hx342_1
        replace p342:=eq_true p342
        replace q342:=eq_true q342
        go_wp2_with (first|((with_reducible refine gate_dst (N:=7) rfl ?_);refine box_event ?hg (N:=7) ?hd (cs:=#[.int .i64 0,.int .i64 0]) (t:=98) ?hr ?_;(case hd=>rfl);(case hg=>rfl);(case hr=>first|(go_simp;done)|(go_simp;rfl));intro gb343 hg w30 hbox hb;have n0_:=Aside0.mk (Kd.R_below (by exact HO_5.out) hb);have n1_:=Aside0.mk (blk_below (g:=gb339) (o:=.cells #[.int .i64 a0_0,.slice (some ad342) l0_1.length c0_1] 31 (0,0)) (by exact BK339.out) hb);have n2_:=Aside0.mk (below_step (by exact HB.out) hb);have n3_:=Aside0.mk (hbox);have n4_:=Aside0.mk ((by rw [hg];exact (below_size (by exact HB.out)):w.heap.size≤gb343));have n5_:=Aside0.mk ((by rw [hg];exact (below_size (by exact HB.out)):w.heap.size≤gb343));have n6_:=Aside0.mk ((by rw [hg];exact Nat.ne_of_lt (blk_lt (g:=gb339) (o:=.cells #[.int .i64 a0_0,.slice (some ad342) l0_1.length c0_1] 31 (0,0)) (by exact BK339.out)):gb339 ≠ gb343));have n7_:=Aside0.mk ((by rw [hg];exact Nat.ne_of_gt (blk_lt (g:=gb339) (o:=.cells #[.int .i64 a0_0,.slice (some ad342) l0_1.length c0_1] 31 (0,0)) (by exact BK339.out)):gb343 ≠ gb339));clear HO_5;clear BK339;clear HB;have HO_5:=n0_;have BK339:=n1_;have HB:=n2_;have BK343:=n3_;have GW343:=n4_;have GE343:=n5_;have NB339_343:=n6_;have NB343_339:=n7_;clear n0_ n1_ n2_ n3_ n4_ n5_ n6_ n7_;clear hb hbox hg;have hnb31:=NB343_339.out;have hnc31:=NB339_343.out;have hcz32_0:w30.cell? ⟨gb343,0,none⟩=some (.int .i64 0):=(blk_cell BK343.out 0).trans rfl;have hcz32_1:w30.cell? ⟨gb343,1,none⟩=some (.int .i64 0):=(blk_cell BK343.out 1).trans rfl;have hfz32_0:=blk_frozen BK343.out 0;have hfz32_1:=blk_frozen BK343.out 1))
        go_roundg k2
        case measure=>have:=HJ2.out;have:=HK2.out;omega
        case rel=>exact ⟨(x5_2),(wrap64 (x22_2+1)),(by first|rfl|(simp;done)|(simp [*];done)),H',⟨by have:=HJ2.out;have:=HK2.out;omega⟩,⟨by (with_reducible repeat (first|apply Kd.R_alloc|apply Kd.R_drewN|apply Kd.R_drew));exact Kd.R_mono (Kd.R_far (p:=⟨gb343,1,none⟩) (Kd.R_far (p:=⟨gb343,0,none⟩) (Kd.R_types HO_5.out BK343.out (by decide)) (fun _ hk=>hk.2) (.int .i64 ((rd_T98 l0_1 x22_2).f0))) (fun _ hk=>hk.2) (.int .i64 ((rd_T98 l0_1 x22_2).f1))) (fun _ hk=>trivial)⟩,⟨by (with_reducible repeat (first|refine blk_drewN ?_ _|refine blk_drew ?_|refine blk_alloc ?_ _));refine blk_far ?_ NB339_343.out _;(with_reducible repeat (first|refine blk_drewN ?_ _|refine blk_drew ?_|refine blk_alloc ?_ _));refine blk_far ?_ NB339_343.out _;(with_reducible repeat (first|refine blk_drewN ?_ _|refine blk_drew ?_|refine blk_alloc ?_ _));exact BK339.out⟩,⟨by repeat (first|(with_reducible first|exact HB.out|apply below_alloc|apply pw_below_drewN|apply below_drew1|refine below_set ?_ GE339.out|refine below_set ?_ GE343.out)|exact HB.out)⟩⟩
       rw [if_neg c17] at H
       exact absurd H (by simp)
      rw [if_neg c16] at H
      exact absurd H (by simp)
     rw [if_neg c15] at H
     have c15b0:decide (x22_2<(l0_1.length:Int))=false:=decide_eq_false c15
     clear c15
     obtain rfl:=Option.some.inj H
     go_wp2
     go_ret
     exact ⟨_,by first|rfl|(simp [errW_none,errW_some] <;> rfl)|(simp [*,errW_none,errW_some] <;> rfl),by exact HO_5.out,by exact HB.out⟩
end Go.Proofs.YtpdnabhpkdchjaaDoor.P
namespace Go.Proofs.YtpdnabhpkdchjaaDoor.P
open Go.RowKit Go.Proofs.YtpdnabhpkdchjaaDoorW.PrintWords Go.Proofs.YtpdnabhpkdchjaaDoorW.PrintLast
set_option linter.unusedVariables false
set_option linter.unusedSimpArgs false
def hits (s:Int) (x:S98):Bool:=decide (x.f0=s) || decide (x.f1=s)
def hitsTo (l:List S98) (s:Int) (i:Nat):List Int:=((List.range i).filter fun j:Nat=>hits s (rd_T98 l (j:Int))).map Int.ofNat
def around (n:Int) (l:List S98) (s:Int):List Int:=if layoutOk n l=0∧0≤s∧s<n then hitsTo l s l.length else []
theorem hitsTo_succ (l:List S98) (s:Int) (i:Nat):hitsTo l s (i+1)=if hits s (rd_T98 l (i:Int))=true then hitsTo l s i ++ [(i:Int)] else hitsTo l s i:=by
 unfold hitsTo
 rw [List.range_succ,List.filter_append,List.map_append]
 by_cases h:hits s (rd_T98 l (i:Int))=true
 ·rw [if_pos h];simp [List.filter,h]
 rw [if_neg h];simp [List.filter,h]
theorem hitsTo_length (l:List S98) (s:Int) (i:Nat):(hitsTo l s i).length≤i:=by
 unfold hitsTo
 rw [List.length_map]
 exact Nat.le_trans (List.length_filter_le _ _) (by simp)
theorem specAround_l0 (l:List S98) (s:Int) (hl:l.length≤120) (d:Nat):∀ (i:Nat),i+d=l.length→Ev (fun k=>spec_Around.l0 k s (hitsTo l s i) l (l.length:Int) i) (hitsTo l s l.length):=by
 induction d with
 | zero=>intro i hi;refine Ev.step1 fun k=>?_;simp only [spec_Around.l0];rw [if_neg (by omega),show i=l.length by omega]
 | succ d ih =>
  intro i hi
  have hlen:=hitsTo_length l s i
  refine Ev.step (fun k=>?_) (ih (i+1) (by omega))
  simp only [spec_Around.l0]
  rw [if_pos (by omega),if_pos (by omega),if_pos (by omega),wrap_succ (by omega),hitsTo_succ]
  by_cases h0:(rd_T98 l (i:Int)).f0=s
  ·rw [if_pos h0,if_pos (by omega),if_pos (show hits s _=true by simp [hits,h0])]
  by_cases h1:(rd_T98 l (i:Int)).f1=s
  ·rw [if_neg h0,if_pos h1,if_pos (by omega),if_pos (show hits s _=true by simp [hits,h1])]
  rw [if_neg h0,if_neg h1,if_neg (show ¬ (hits s _=true) by simp [hits,h0,h1])]
theorem specAround_ev (n:Int) (l:List S98) (s:Int):Ev (fun k=>spec_Around.f k n l s) (around n l s):=by
 unfold spec_Around.f
 refine Ev.bind (specLayoutOk_ev n l) ?_
 by_cases hl:layoutOk n l=0
 ·obtain ⟨hn1,hn2,hc⟩:=lay_n hl
  refine Ev.ite_pos hl (Ev.call (l1in_eq _ _ _) ?_)
  rw [wrap_id (by omega) (by omega),dec_le_pred]
  by_cases hs:0≤s∧s<n
  ·rw [around,if_pos ⟨hl,hs.1,hs.2⟩]
   refine Ev.step (fun k=>?_) (specAround_l0 l s hc l.length 0 (by omega))
   simp only [spec_Around.j0]
   rw [if_neg (by simp [hs.1,hs.2])]
   rfl
  refine Ev.step1 fun k=>?_
  simp only [spec_Around.j0]
  rw [if_pos (by simp only [Bool.not_eq_true',Bool.and_eq_false_iff,decide_eq_false_iff_not];omega),around,if_neg (fun h=>hs h.2)]
 refine Ev.ite_neg hl (Ev.step1 fun k=>?_)
 simp only [spec_Around.j0,if_true]
 rw [around,if_neg (fun h=>hl h.1)]
end Go.Proofs.YtpdnabhpkdchjaaDoor.P
