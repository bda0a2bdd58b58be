/- The statement FnTextCardSaid holds of the given program, for every argument; there are no conditions. (Part 6 of 6.) -/
import Derived.Test.YtpdnabhpkdchjaaDoorBFnText5
import Derived.LaidMore
import Derived.Stop.LaidErr
import Derived.Lib.LaidTab
import Derived.Stop.Joined
import Derived.LaidLaws
import Derived.ChangeVars
import Derived.Test.YtpdnabhpkdchjaaDoorTie
import Derived.Test.YtpdnabhpkdchjaaDoorCards
import Derived.SevenTiedAt
import Derived.ChangeMaps5
import Derived.ShutString
namespace Go.Proofs.YtpdnabhpkdchjaaDoor.P
open Go.RowKit Go.Proofs.YtpdnabhpkdchjaaDoorW.PrintWords Go.Proofs.YtpdnabhpkdchjaaDoorW.PrintLast Go.Proofs.YtpdnabhpkdchjaaDoorW.PrintMore
attribute [local go_sem ↓] Go.wp_at_zero Go.wp_at_succ
set_option linter.unusedVariables false
set_option linter.unusedSimpArgs false
theorem doCode_ne (l:List S98) (ss:List S87) (dd:List Bool) (op of:Int):doCode l ss dd op of ≠ 1:=by
 unfold doCode
 split
 ·split <;> decide
 split
 ·split
  ·decide
  split <;> decide
 decide
section
variable {w0 wr w w' w1 : World} {gl gs gd : Nat} {lv sv dv : List Value} {u1 u2 v v1 v2 v3 : Value} {s : S83} {ss : List S87} {dd : List Bool} {out : List S85}
theorem RnSt.midC {b:Bool} {x0 x1 x2 x3:Value} (h:RnSt w0 wr gl gs lv sv u1 u2 s v out) (hb:Below wr.heap.size wr w) (hd:w.heap[gd]?=some (.cells #[x0,x1,x2,x3] 85 (0,0))) (gde:wr.heap.size≤gd) (R1:Kd.R k87 87 w wr.heap.size (fun _=>True) v2 ss) (R2:Kd.R Kd.bool 4 w wr.heap.size (fun _=>True) v3 dd) :
  MdSt w0 wr (((w.setCell ⟨gd,1,none⟩ (.bool b)).setCell ⟨gd,2,none⟩ v2).setCell ⟨gd,3,none⟩ v3) gl gs gd lv sv [x0,.bool b,v2,v3] v2 v3 ss dd v out:=by
 have n1:=Kd.R_ne R1 hd (by decide)
 have n2:=Kd.R_ne R2 hd (by decide)
 exact h.mid (below_set (below_set (below_set hb gde) gde) gde) (blk_put (blk_put (blk_put hd 1 _ rfl) 2 _ rfl) 3 _ rfl) gde (R_off rfl (R_off rfl (R_off rfl R1 n1 _) n1 _) n1 _) (R_off rfl (R_off rfl (R_off rfl R2 n2 _) n2 _) n2 _)
theorem MdSt.setS {x0 x1 x2:Value} (h:MdSt w0 wr w gl gs gd lv [x0,x1,x2] dv v2 v3 ss dd v out) (y:Value) :
  MdSt w0 wr (((w.setCell ⟨gs,0,none⟩ y).setCell ⟨gs,1,none⟩ v2).setCell ⟨gs,2,none⟩ v3) gl gs gd lv [y,v2,v3] dv v2 v3 ss dd v out:=by
 have n1:=Kd.R_ne h.R1 h.hs (by decide)
 have n2:=Kd.R_ne h.R2 h.hs (by decide)
 have nl:=blk_ne h.hl h.hs (by decide)
 have nd:=blk_ne h.hd h.hs (by decide)
 have hq:∀ q,q ∈ 85 :: k85.E→q ≠ 83:=by decide
 have s0:=blk_put h.hs 0 y rfl
 have s1:=blk_put s0 1 v2 rfl
 have s2:=blk_put s1 2 v3 rfl
 exact {
  hl:=blk_far (blk_far (blk_far h.hl nl _) nl _) nl _
  hs:=s2
  hd:=blk_far (blk_far (blk_far h.hd nd _) nd _) nd _
  R1:=R_off rfl (R_off rfl (R_off rfl h.R1 n1 _) n1 _) n1 _
  R2:=R_off rfl (R_off rfl (R_off rfl h.R2 n2 _) n2 _) n2 _
  HS:=Kd.S_set (Kd.S_set (Kd.S_set h.HS h.hs hq 0 _) s0 hq 1 _) s1 hq 2 _
  hB:=below_set (below_set (below_set h.hB h.gse) h.gse) h.gse
  gle:=h.gle
  gse:=h.gse
  gde:=h.gde
  hw:=h.hw }
theorem MdSt.fin2 (h:MdSt w0 wr w gl gs gd lv sv dv v2 v3 ss dd v out) {code:Int} {b:Bool} (HS1:Kd.S k85 85 w1 w0.heap.size (fun _=>True) v1 (out ++ [⟨code,⟨b,ss,dd⟩⟩])) (hB1:Below w0.heap.size w0 w1) (hg:w.grownBy w1 v.ownBlock) :
  RnSt w0 w1 gl gs lv sv v2 v3 ⟨b,ss,dd⟩ v1 (out ++ [⟨code,⟨b,ss,dd⟩⟩]) where
 hl:=blk_grown h.hl hg (Kd.S_ne h.HS h.hl (by decide))
 hs:=blk_grown h.hs hg (Kd.S_ne h.HS h.hs (by decide))
 V1:=Kd.V_grown (Kd.R_V (Kd.R_tight rfl h.R1)) hg (fun k hk=>h.okp_ne (.inl hk))
 V2:=Kd.V_grown (Kd.R_V (Kd.R_tight rfl h.R2)) hg (fun k hk=>h.okp_ne (.inr hk))
 HS:=HS1
 hB:=hB1
 gle:=h.gle
 gse:=h.gse
end
set_option maxHeartbeats 8000000 in
set_option maxRecDepth 100000 in
theorem srun_is (n:Int) (A:Option Addr) (c:Nat) (l:List S98) (A1:Option Addr) (c1:Nat) (es:List S52) (w:World) (hr:Kd.C k98 w A l.length l) (hc:l.length≤c) (hr1:Kd.C k52 w A1 es.length es) (hc1:es.length≤c1) :
  Calls Tryd.prog 45 #[.agg #[.int .i64 n,.slice A l.length c],.slice A1 es.length c1] w fun e w'=>∃ v0_:Value,e=.returned (v0_)∧Kd.S k85 85 w' w.heap.size (fun _=>True) v0_ (run n l es)∧Below w.heap.size w w':=by
 have HR:=Aside0.mk hr
 have HC:=Aside0.mk hc
 have HR1:=Aside0.mk hr1
 have HC1:=Aside0.mk hc1
 clear hr hc hr1 hc1
 by_cases hl:layoutOk n l=0
 ·by_cases he:es.length≤2000
  ·skip
   have b0:(layoutOk n l != 0)=false:=bne_eq_false_iff_eq.mpr hl
   have b1:decide ((es.length:Int) > 2000)=false:=decide_eq_false (by omega)
   have HL:=Aside0.mk hl
   have HE:=Aside0.mk he
   have HN:=Aside0.mk (lay_n hl)
   clear hl he
   go_enter Tryd.func45,Tryd.ntmps45
   go_upto_region 4 with (first|((with_reducible refine gate_dst (N:=2) rfl ?_);refine box_event ?hg (N:=2) ?hd (cs:=#[.int .i64 n,.slice A l.length c]) (t:=31) ?hr ?_;(case hd=>rfl);(case hg=>rfl);(case hr=>first|(go_simp;done)|(go_simp;rfl));intro gl el wl kl bl;have hcz0:=(blk_cell kl 0).trans (show _=some (Value.int .i64 n) from rfl);have hcz1:=(blk_cell kl 1).trans (show _=some (Value.slice A l.length c) from rfl);have KL:=Aside0.mk kl;have BL:=Aside0.mk bl;have GL:=Aside0.mk (show w.heap.size≤gl by rw [el];exact Nat.le_refl _);clear kl bl el)|(go_at_call 38;refine (slay_is (Kd.C_below HR.out BL.out) HC.out).mono ?_;rintro e w1 ⟨rfl,hb⟩;have KL:=Aside0.mk (blk_below KL.out hb);have BL:=Aside0.mk (below_step BL.out hb);clear hb;have hcy0:=(blk_cell KL.out 0).trans (show _=some (Value.int .i64 n) from rfl);have hcy1:=(blk_cell KL.out 1).trans (show _=some (Value.slice A l.length c) from rfl))|(go_at_call 58;refine (sbegin_is (Kd.C_below HR.out BL.out) HC.out HL.out).mono ?_;rintro e w2 ⟨v1,v2,rfl,r1,r2,hb⟩;obtain ⟨a1,d1,rfl⟩:=Kd.R_slice r1;obtain ⟨a2,d2,rfl⟩:=Kd.R_slice r2;have R1:=Aside0.mk (Kd.R_lower r1 BL.out.size);have R2:=Aside0.mk (Kd.R_lower r2 BL.out.size);have KL:=Aside0.mk (blk_below KL.out hb);have BL:=Aside0.mk (below_step BL.out hb);clear hb r1 r2)|((with_reducible refine gate_dst (N:=5) rfl ?_);refine box_event ?hg (N:=5) ?hd (cs:=#[.bool false,.slice none 0 0,.slice none 0 0]) (t:=83) ?hr ?_;(case hd=>rfl);(case hg=>rfl);(case hr=>first|(go_simp;done)|(go_simp;rfl));intro gs es_ ws ks bs;have KS:=Aside0.mk ks;have ES:=Aside0.mk es_;have BS:=Aside0.mk bs;have zs0:=blk_frozen ks 0;have zs1:=blk_frozen ks 1;have zs2:=blk_frozen ks 2;have ks0:=(blk_cell ks 0).trans (show _=some (Value.bool false) from rfl);have ks1:=(blk_cell ks 1).trans (show _=some (Value.slice none 0 0) from rfl);have ks2:=(blk_cell ks 2).trans (show _=some (Value.slice none 0 0) from rfl);clear ks es_ bs))
   clear hcz0 hcz1 hcy0 hcy1
   have BX:=Aside0.mk (below_set (j:=2) (v:=.slice a2 (st0 n l).f2.length d2) (below_set (j:=1) (v:=.slice a1 (st0 n l).f1.length d1) (below_set (j:=0) (v:=.bool true) BS.out (Nat.le_of_eq ES.out.symm)) (Nat.le_of_eq ES.out.symm)) (Nat.le_of_eq ES.out.symm))
   have KX:=Aside0.mk (blk_put (blk_put (blk_put KS.out 0 (.bool true) rfl) 1 (.slice a1 (st0 n l).f1.length d1) rfl) 2 (.slice a2 (st0 n l).f2.length d2) rfl)
   have ST:=Aside0.mk (show RnSt w (((ws.setCell ⟨gs,0,none⟩ (.bool true)).setCell ⟨gs,1,none⟩ (.slice a1 (st0 n l).f1.length d1)).setCell ⟨gs,2,none⟩ (.slice a2 (st0 n l).f2.length d2)) gl gs [.int .i64 n,.slice A l.length c] [.bool true,.slice a1 (st0 n l).f1.length d1,.slice a2 (st0 n l).f2.length d2] (.slice a1 (st0 n l).f1.length d1) (.slice a2 (st0 n l).f2.length d2) (st0 n l) (.slice none 0 0) [] from ⟨blk_below KL.out BX.out,KX.out,Kd.V_below (Kd.R_V (Kd.R_tight rfl R1.out)) BX.out,Kd.V_below (Kd.R_V (Kd.R_tight rfl R2.out)) BX.out,Kd.S_nil _ _ _ _ _,below_step BL.out BX.out,GL.out,by rw [ES.out];exact BL.out.size⟩)
   clear KL BL R1 R2 KS ES BS zs0 zs1 zs2 ks0 ks1 ks2 BX KX
   generalize (((ws.setCell ⟨gs,0,none⟩ (.bool true)).setCell ⟨gs,1,none⟩ (.slice a1 (st0 n l).f1.length d1)).setCell ⟨gs,2,none⟩ (.slice a2 (st0 n l).f2.length d2))=wa at ST ⊢
   go_wp2_with fail
   go_loopg [6,22] es.length (fun kq vo v22 w'=>∃ j:Nat,v22=.int .i64 j∧Aside0 (j+kq=es.length)∧∃ u1 u2:Value,Aside0 (RnSt w w' gl gs [.int .i64 n,.slice A l.length c] [.bool true,u1,u2] u1 u2 (stAt n l es j) vo (runTo n l es j)))
   case atStart=>exact ⟨0,rfl,⟨by omega⟩,_,_,⟨by rw [stAt_zero];exact ST.out⟩⟩
   case round =>
    clear ST
    obtain ⟨j,rfl,HJ,u1,u2,ST⟩:=hrel
    by_cases hlt:j<es.length
    ·cases gk with
     | zero=>exact absurd HJ.out (by omega)
     | succ gk =>
      have hlt':decide ((j:Int)<(es.length:Int))=true:=decide_eq_true (by omega)
      have q0:(0:Int)≤(j:Int):=by omega
      have q1:(j:Int)<(es.length:Int):=by omega
      obtain ⟨a1,d1,e1⟩:=Kd.V_slice ST.out.V1
      obtain ⟨a2,d2,e2⟩:=Kd.V_slice ST.out.V2
      subst e1 e2
      obtain ⟨ad,e,x0,x1,x2⟩:=at_T52 HR1.out (j:Int) q0 q1
      subst e
      replace x0:=pw_cell_below ST.out.hB x0
      replace x1:=pw_cell_below ST.out.hB x1
      replace x2:=pw_cell_below ST.out.hB x2
      rw [Int.toNat_natCast] at x0 x1 x2
      have HSU:=Aside0.mk (stAt_succ n l es j hlt)
      have HRU:=Aside0.mk (runTo_succ n l es j)
      have HLT:=Aside0.mk (stAt_len n l es j)
      have HSO:=Aside0.mk (stAt_ok HL.out es j)
      generalize hx:rd_T52 es (j:Int)=x at x0 x1 x2 HSU HRU
      clear hx
      generalize hst:stAt n l es j=s at ST HSU HRU HLT HSO ⊢
      clear hst
      go_upto_region 8 with ((with_reducible refine gate_dst (N:=8) rfl ?_);refine box_event ?hg (N:=8) ?hd (cs:=#[.int .i64 0,.int .i64 0,.int .i64 0]) (t:=52) ?hr ?_;(case hd=>rfl);(case hg=>rfl);(case hr=>first|(go_simp;done)|(go_simp;rfl));intro ge ee we ke be;have KE:=Aside0.mk ke;have EE:=Aside0.mk ee;have BE:=Aside0.mk be;have z0:=blk_frozen ke 0;have z1:=blk_frozen ke 1;have z2:=blk_frozen ke 2;have c0_:=(blk_cell ke 0).trans (show _=some (Value.int .i64 0) from rfl);have c1_:=(blk_cell ke 1).trans (show _=some (Value.int .i64 0) from rfl);have c2_:=(blk_cell ke 2).trans (show _=some (Value.int .i64 0) from rfl);clear ke ee be)
      have KX:=Aside0.mk (blk_put (blk_put (blk_put KE.out 0 (.int .i64 x.f0) rfl) 1 (.int .i64 x.f1) rfl) 2 (.int .i64 x.f2) rfl)
      have BX:=Aside0.mk (below_set (j:=2) (v:=.int .i64 x.f2) (below_set (j:=1) (v:=.int .i64 x.f1) (below_set (j:=0) (v:=.int .i64 x.f0) BE.out (Nat.le_of_eq EE.out.symm)) (Nat.le_of_eq EE.out.symm)) (Nat.le_of_eq EE.out.symm))
      clear KE BE EE z0 z1 z2 c0_ c1_ c2_ x0 x1 x2
      generalize (((we.setCell ⟨ge,0,none⟩ (.int .i64 x.f0)).setCell ⟨ge,1,none⟩ (.int .i64 x.f1)).setCell ⟨ge,2,none⟩ (.int .i64 x.f2))=w8 at KX BX ⊢
      have SX:=Aside0.mk (ST.out.up BX.out)
      have kl0:w8.cell? ⟨gl,0,none⟩=some (.int .i64 n):=(blk_cell (SX.out).hl 0).trans rfl
      have kl1:w8.cell? ⟨gl,1,none⟩=some (.slice A l.length c):=(blk_cell (SX.out).hl 1).trans rfl
      have ks0:w8.cell? ⟨gs,0,none⟩=some (.bool true):=(blk_cell (SX.out).hs 0).trans rfl
      have ks1:w8.cell? ⟨gs,1,none⟩=some (.slice a1 s.f1.length d1):=(blk_cell (SX.out).hs 1).trans rfl
      have ks2:w8.cell? ⟨gs,2,none⟩=some (.slice a2 s.f2.length d2):=(blk_cell (SX.out).hs 2).trans rfl
      have ke0:w8.cell? ⟨ge,0,none⟩=some (.int .i64 x.f0):=(blk_cell KX.out 0).trans rfl
      have ke1:w8.cell? ⟨ge,1,none⟩=some (.int .i64 x.f1):=(blk_cell KX.out 1).trans rfl
      have ke2:w8.cell? ⟨ge,2,none⟩=some (.int .i64 x.f2):=(blk_cell KX.out 2).trans rfl
      have HSO2:=Aside0.mk (show stateOk n l true s.f1 s.f2=true by have:=HSO.out;rw [HLT.out.2.2] at this;exact this)
      cases hok:eventOk n l x.f0 x.f1 x.f2 with
      | false =>
       have HO:=Aside0.mk hok
       clear hok
       have HST:=Aside0.mk (show runStep n l s x=⟨1,⟨true,s.f1,s.f2⟩⟩ by unfold runStep;rw [HO.out];rfl)
       go_upto_region 9 with (first|(go_at_call 59;refine (sdo_badE n A c l true a1 d1 s.f1 a2 d2 s.f2 x.f0 x.f1 x.f2 _ (Kd.C_below HR.out SX.out.hB) HC.out (Kd.V_reads' SX.out.V1).2.2 (Kd.V_reads' SX.out.V1).2.1 (Kd.V_reads' SX.out.V2).2.2 (Kd.V_reads' SX.out.V2).2.1 HSO2.out HO.out).mono ?_;rintro e wd ⟨rfl,hb⟩;have B9:=Aside0.mk (below_step BX.out hb);clear hb)|((with_reducible refine gate_dst (N:=9) rfl ?_);refine box_event ?hg (N:=9) ?hd (cs:=#[.int .i64 0,.bool false,.slice none 0 0,.slice none 0 0]) (t:=85) ?hr ?_;(case hd=>rfl);(case hg=>rfl);(case hr=>first|(go_simp;done)|(go_simp;rfl));intro gd ed wb kd bd;have KD:=Aside0.mk kd;have ED:=Aside0.mk ed;have BD:=Aside0.mk bd;have zd0:=blk_frozen kd 0;have zd1:=blk_frozen kd 1;have zd2:=blk_frozen kd 2;have zd3:=blk_frozen kd 3;have kd0:=(blk_cell kd 0).trans (show _=some (Value.int .i64 0) from rfl);have kd1:=(blk_cell kd 1).trans (show _=some (Value.bool false) from rfl);have kd2:=(blk_cell kd 2).trans (show _=some (Value.slice none 0 0) from rfl);have kd3:=(blk_cell kd 3).trans (show _=some (Value.slice none 0 0) from rfl);clear kd ed bd))
       have KF:=Aside0.mk (blk_put (blk_put (blk_put (blk_put KD.out 0 (.int .i64 1) rfl) 1 (.bool false) rfl) 2 (.slice none 0 0) rfl) 3 (.slice none 0 0) rfl)
       have GD:=Aside0.mk (show wr.heap.size≤gd by rw [ED.out];exact B9.out.size)
       have BF:=Aside0.mk (below_set (j:=3) (v:=.slice none 0 0) (below_set (j:=2) (v:=.slice none 0 0) (below_set (j:=1) (v:=.bool false) (below_set (j:=0) (v:=.int .i64 1) (below_step B9.out BD.out) GD.out) GD.out) GD.out) GD.out)
       clear kl0 kl1 ks0 ks1 ks2 ke0 ke1 ke2 kd0 kd1 kd2 kd3 zd0 zd1 zd2 zd3 KD BD B9 ED SX
       generalize ((((wb.setCell ⟨gd,0,none⟩ (.int .i64 1)).setCell ⟨gd,1,none⟩ (.bool false)).setCell ⟨gd,2,none⟩ (.slice none 0 0)).setCell ⟨gd,3,none⟩ (.slice none 0 0))=w9 at KF BF ⊢
       have S9:=Aside0.mk (ST.out.up BF.out)
       have kd0:w9.cell? ⟨gd,0,none⟩=some (.int .i64 1):=(blk_cell KF.out 0).trans rfl
       have kd1:w9.cell? ⟨gd,1,none⟩=some (.bool false):=(blk_cell KF.out 1).trans rfl
       have kd2:w9.cell? ⟨gd,2,none⟩=some (.slice none 0 0):=(blk_cell KF.out 2).trans rfl
       have kd3:w9.cell? ⟨gd,3,none⟩=some (.slice none 0 0):=(blk_cell KF.out 3).trans rfl
       have ks0:w9.cell? ⟨gs,0,none⟩=some (.bool true):=(blk_cell S9.out.hs 0).trans rfl
       have ks1:w9.cell? ⟨gs,1,none⟩=some (.slice a1 s.f1.length d1):=(blk_cell S9.out.hs 1).trans rfl
       have ks2:w9.cell? ⟨gs,2,none⟩=some (.slice a2 s.f2.length d2):=(blk_cell S9.out.hs 2).trans rfl
       have hs1:s.f1.length≤1048576:=by rw [HLT.out.1];have:=HN.out;omega
       have hs2:s.f2.length≤1048576:=by rw [HLT.out.2.1];have:=HN.out;omega
       have HS1_:=Aside0.mk hs1
       have HS2_:=Aside0.mk hs2
       clear hs1 hs2
       go_upto_region 11 with (go_at_call 60;refine (copy_is (Kd.V_reads' S9.out.V1).2.2 (Kd.V_reads' S9.out.V1).2.1 (Kd.V_reads' S9.out.V2).2.2 (Kd.V_reads' S9.out.V2).2.1 HS1_.out HS2_.out).mono ?_;rintro e wf ⟨v2,v3,rfl,r1,r2,hb⟩;obtain ⟨b2,f2,rfl⟩:=Kd.R_slice r1;obtain ⟨b3,f3,rfl⟩:=Kd.R_slice r2;have NR1:=Aside0.mk (Kd.R_lower r1 BF.out.size);have NR2:=Aside0.mk (Kd.R_lower r2 BF.out.size);have KG:=Aside0.mk (blk_below KF.out hb);have BG:=Aside0.mk (below_step BF.out hb);clear r1 r2 hb;have kd0:wf.cell? ⟨gd,0,none⟩=some (.int .i64 1):=(blk_cell KG.out 0).trans rfl;have kd1:wf.cell? ⟨gd,1,none⟩=some (.bool false):=(blk_cell KG.out 1).trans rfl;have kd2:wf.cell? ⟨gd,2,none⟩=some (.slice none 0 0):=(blk_cell KG.out 2).trans rfl;have kd3:wf.cell? ⟨gd,3,none⟩=some (.slice none 0 0):=(blk_cell KG.out 3).trans rfl;have zd0:=blk_frozen KG.out 0;have zd1:=blk_frozen KG.out 1;have zd2:=blk_frozen KG.out 2;have zd3:=blk_frozen KG.out 3)
       have HM3:=Aside0.mk (ST.out.midC (b:=true) BG.out KG.out GD.out NR1.out NR2.out)
       clear kd0 kd1 kd2 kd3 zd0 zd1 zd2 zd3 ks0 ks1 ks2 KG BG NR1 NR2 S9 KF BF
       generalize (((wf.setCell ⟨gd,1,none⟩ (.bool true)).setCell ⟨gd,2,none⟩ (.slice b2 s.f1.length f2)).setCell ⟨gd,3,none⟩ (.slice b3 s.f2.length f3))=wg at HM3 ⊢
       have kd0:wg.cell? ⟨gd,0,none⟩=some (.int .i64 (1)):=(blk_cell HM3.out.hd 0).trans rfl
       have kd1:wg.cell? ⟨gd,1,none⟩=some (.bool true):=(blk_cell HM3.out.hd 1).trans rfl
       have kd2:wg.cell? ⟨gd,2,none⟩=some (.slice b2 s.f1.length f2):=(blk_cell HM3.out.hd 2).trans rfl
       have kd3:wg.cell? ⟨gd,3,none⟩=some (.slice b3 s.f2.length f3):=(blk_cell HM3.out.hd 3).trans rfl
       have kt0:wg.cell? ⟨gs,0,none⟩=some (.bool true):=(blk_cell HM3.out.hs 0).trans rfl
       have kt1:wg.cell? ⟨gs,1,none⟩=some (.slice a1 s.f1.length d1):=(blk_cell HM3.out.hs 1).trans rfl
       have kt2:wg.cell? ⟨gs,2,none⟩=some (.slice a2 s.f2.length d2):=(blk_cell HM3.out.hs 2).trans rfl
       have zt0:=blk_frozen HM3.out.hs 0
       have zt1:=blk_frozen HM3.out.hs 1
       have zt2:=blk_frozen HM3.out.hs 2
       go_upto_region 12 with fail
       have HS4:=Aside0.mk (HM3.out.setS (.bool true))
       clear kd0 kd1 kd2 kd3 kt0 kt1 kt2 zt0 zt1 zt2
       generalize (((wg.setCell ⟨gs,0,none⟩ (.bool true)).setCell ⟨gs,1,none⟩ (.slice b2 s.f1.length f2)).setCell ⟨gs,2,none⟩ (.slice b3 s.f2.length f3))=wh at HS4 ⊢
       have kd0:wh.cell? ⟨gd,0,none⟩=some (.int .i64 (1)):=(blk_cell HS4.out.hd 0).trans rfl
       have kd1:wh.cell? ⟨gd,1,none⟩=some (.bool true):=(blk_cell HS4.out.hd 1).trans rfl
       have kd2:wh.cell? ⟨gd,2,none⟩=some (.slice b2 s.f1.length f2):=(blk_cell HS4.out.hd 2).trans rfl
       have kd3:wh.cell? ⟨gd,3,none⟩=some (.slice b3 s.f2.length f3):=(blk_cell HS4.out.hd 3).trans rfl
       go_wp2_with (at_builtin;refine Kd.S_append k85 (w0:=w) w.heap.size rfl (.tmp 38) (.tmp 40) 78 85 (.agg #[.int .i64 0,.bool false,.slice none 0 0,.slice none 0 0]) 64 rfl Tryd.underlying78 info85 rfl (by decide) (by decide) u6 (runTo n l es j) ⟨1,⟨true,s.f1,s.f2⟩⟩ [.int .i64 (1),.bool true,(.slice b2 s.f1.length f2),(.slice b3 s.f2.length f3)] (fun _=>True) (okp (.slice b2 s.f1.length f2) (.slice b3 s.f2.length f3)) rfl rfl (HS4.out.elem (1) true) (fun k hk=>⟨trivial,HS4.out.okp_ne hk⟩) (fun _ _=>trivial) HS4.out.rest HS4.out.hB HS4.out.hB.size (by rw [runTo_length];have:=HE.out;omega) ?_;intro vn wn hsn hbn hgn _;have SN:=Aside0.mk (HS4.out.fin2 hsn hbn hgn);clear hsn hbn hgn)
       go_roundg gk
       case measure=>omega
       case rel=>exact ⟨j+1,congrArg (Value.int .i64) (wrap_succ (by have:=HE.out;omega)),⟨by have:=HJ.out;omega⟩,_,_,⟨by rw [HSU.out,HRU.out,HST.out];exact SN.out⟩⟩
      | true =>
       have HO:=Aside0.mk hok
       clear hok
       have HST:=Aside0.mk (show runStep n l s x=⟨doCode l s.f1 s.f2 x.f0 x.f1,⟨true,doSecs l s.f1 s.f2 x.f0 x.f1 x.f2,doDead l s.f1 s.f2 x.f0 x.f1⟩⟩ by unfold runStep;rw [if_pos HO.out])
       have hc1:(doCode l s.f1 s.f2 x.f0 x.f1==1)=false:=beq_eq_false_iff_ne.mpr (doCode_ne _ _ _ _ _)
       generalize hcd:doCode l s.f1 s.f2 x.f0 x.f1=code at hc1 HST
       have HCD:=Aside0.mk hcd
       clear hcd
       go_upto_region 9 with (first|(go_at_call 59;refine (sdo_is n A c l true a1 d1 s.f1 a2 d2 s.f2 x.f0 x.f1 x.f2 _ (Kd.C_below HR.out SX.out.hB) HC.out (Kd.V_reads' SX.out.V1).2.2 (Kd.V_reads' SX.out.V1).2.1 (Kd.V_reads' SX.out.V2).2.2 (Kd.V_reads' SX.out.V2).2.1 HSO2.out HO.out).mono ?_;rw [HCD.out];rintro e wd ⟨v2,v3,rfl,r1,r2,hb⟩;obtain ⟨b4,f4,rfl⟩:=Kd.R_slice r1;obtain ⟨b5,f5,rfl⟩:=Kd.R_slice r2;have NR1:=Aside0.mk (Kd.R_lower r1 BX.out.size);have NR2:=Aside0.mk (Kd.R_lower r2 BX.out.size);have B9:=Aside0.mk (below_step BX.out hb);clear hb r1 r2)|((with_reducible refine gate_dst (N:=9) rfl ?_);refine box_event ?hg (N:=9) ?hd (cs:=#[.int .i64 0,.bool false,.slice none 0 0,.slice none 0 0]) (t:=85) ?hr ?_;(case hd=>rfl);(case hg=>rfl);(case hr=>first|(go_simp;done)|(go_simp;rfl));intro gd ed wb kd bd;have KD:=Aside0.mk kd;have ED:=Aside0.mk ed;have BD:=Aside0.mk bd;have zd0:=blk_frozen kd 0;have zd1:=blk_frozen kd 1;have zd2:=blk_frozen kd 2;have zd3:=blk_frozen kd 3;have kd0:=(blk_cell kd 0).trans (show _=some (Value.int .i64 0) from rfl);have kd1:=(blk_cell kd 1).trans (show _=some (Value.bool false) from rfl);have kd2:=(blk_cell kd 2).trans (show _=some (Value.slice none 0 0) from rfl);have kd3:=(blk_cell kd 3).trans (show _=some (Value.slice none 0 0) from rfl);clear kd ed bd))
       have GD:=Aside0.mk (show wr.heap.size≤gd by rw [ED.out];exact B9.out.size)
       have HM3:=Aside0.mk (ST.out.midB (code:=code) (b:=true) (below_step B9.out BD.out) KD.out GD.out (R_up NR1.out BD.out) (R_up NR2.out BD.out)).1
       clear kl0 kl1 ks0 ks1 ks2 ke0 ke1 ke2 kd0 kd1 kd2 kd3 zd0 zd1 zd2 zd3 KD BD B9 ED SX NR1 NR2
       generalize ((((wb.setCell ⟨gd,0,none⟩ (.int .i64 code)).setCell ⟨gd,1,none⟩ (.bool true)).setCell ⟨gd,2,none⟩ (.slice b4 (doSecs l s.f1 s.f2 x.f0 x.f1 x.f2).length f4)).setCell ⟨gd,3,none⟩ (.slice b5 (doDead l s.f1 s.f2 x.f0 x.f1).length f5))=wg at HM3 ⊢
       have kd0:wg.cell? ⟨gd,0,none⟩=some (.int .i64 code):=(blk_cell HM3.out.hd 0).trans rfl
       have kd1:wg.cell? ⟨gd,1,none⟩=some (.bool true):=(blk_cell HM3.out.hd 1).trans rfl
       have kd2:wg.cell? ⟨gd,2,none⟩=some (.slice b4 (doSecs l s.f1 s.f2 x.f0 x.f1 x.f2).length f4):=(blk_cell HM3.out.hd 2).trans rfl
       have kd3:wg.cell? ⟨gd,3,none⟩=some (.slice b5 (doDead l s.f1 s.f2 x.f0 x.f1).length f5):=(blk_cell HM3.out.hd 3).trans rfl
       go_upto_region 11 with fail
       clear kd0 kd1 kd2 kd3
       have kd0:wg.cell? ⟨gd,0,none⟩=some (.int .i64 (code)):=(blk_cell HM3.out.hd 0).trans rfl
       have kd1:wg.cell? ⟨gd,1,none⟩=some (.bool true):=(blk_cell HM3.out.hd 1).trans rfl
       have kd2:wg.cell? ⟨gd,2,none⟩=some (.slice b4 (doSecs l s.f1 s.f2 x.f0 x.f1 x.f2).length f4):=(blk_cell HM3.out.hd 2).trans rfl
       have kd3:wg.cell? ⟨gd,3,none⟩=some (.slice b5 (doDead l s.f1 s.f2 x.f0 x.f1).length f5):=(blk_cell HM3.out.hd 3).trans rfl
       have kt0:wg.cell? ⟨gs,0,none⟩=some (.bool true):=(blk_cell HM3.out.hs 0).trans rfl
       have kt1:wg.cell? ⟨gs,1,none⟩=some (.slice a1 s.f1.length d1):=(blk_cell HM3.out.hs 1).trans rfl
       have kt2:wg.cell? ⟨gs,2,none⟩=some (.slice a2 s.f2.length d2):=(blk_cell HM3.out.hs 2).trans rfl
       have zt0:=blk_frozen HM3.out.hs 0
       have zt1:=blk_frozen HM3.out.hs 1
       have zt2:=blk_frozen HM3.out.hs 2
       go_upto_region 12 with fail
       have HS4:=Aside0.mk (HM3.out.setS (.bool true))
       clear kd0 kd1 kd2 kd3 kt0 kt1 kt2 zt0 zt1 zt2
       generalize (((wg.setCell ⟨gs,0,none⟩ (.bool true)).setCell ⟨gs,1,none⟩ (.slice b4 (doSecs l s.f1 s.f2 x.f0 x.f1 x.f2).length f4)).setCell ⟨gs,2,none⟩ (.slice b5 (doDead l s.f1 s.f2 x.f0 x.f1).length f5))=wh at HS4 ⊢
       have kd0:wh.cell? ⟨gd,0,none⟩=some (.int .i64 (code)):=(blk_cell HS4.out.hd 0).trans rfl
       have kd1:wh.cell? ⟨gd,1,none⟩=some (.bool true):=(blk_cell HS4.out.hd 1).trans rfl
       have kd2:wh.cell? ⟨gd,2,none⟩=some (.slice b4 (doSecs l s.f1 s.f2 x.f0 x.f1 x.f2).length f4):=(blk_cell HS4.out.hd 2).trans rfl
       have kd3:wh.cell? ⟨gd,3,none⟩=some (.slice b5 (doDead l s.f1 s.f2 x.f0 x.f1).length f5):=(blk_cell HS4.out.hd 3).trans rfl
       go_wp2_with (at_builtin;refine Kd.S_append k85 (w0:=w) w.heap.size rfl (.tmp 38) (.tmp 40) 78 85 (.agg #[.int .i64 0,.bool false,.slice none 0 0,.slice none 0 0]) 64 rfl Tryd.underlying78 info85 rfl (by decide) (by decide) u6 (runTo n l es j) ⟨code,⟨true,doSecs l s.f1 s.f2 x.f0 x.f1 x.f2,doDead l s.f1 s.f2 x.f0 x.f1⟩⟩ [.int .i64 (code),.bool true,(.slice b4 (doSecs l s.f1 s.f2 x.f0 x.f1 x.f2).length f4),(.slice b5 (doDead l s.f1 s.f2 x.f0 x.f1).length f5)] (fun _=>True) (okp (.slice b4 (doSecs l s.f1 s.f2 x.f0 x.f1 x.f2).length f4) (.slice b5 (doDead l s.f1 s.f2 x.f0 x.f1).length f5)) rfl rfl (HS4.out.elem (code) true) (fun k hk=>⟨trivial,HS4.out.okp_ne hk⟩) (fun _ _=>trivial) HS4.out.rest HS4.out.hB HS4.out.hB.size (by rw [runTo_length];have:=HE.out;omega) ?_;intro vn wn hsn hbn hgn _;have SN:=Aside0.mk (HS4.out.fin2 hsn hbn hgn);clear hsn hbn hgn)
       go_roundg gk
       case measure=>omega
       case rel=>exact ⟨j+1,congrArg (Value.int .i64) (wrap_succ (by have:=HE.out;omega)),⟨by have:=HJ.out;omega⟩,_,_,⟨by rw [HSU.out,HRU.out,HST.out];exact SN.out⟩⟩
    have hlt':decide ((j:Int)<(es.length:Int))=false:=decide_eq_false (by omega)
    have hj:j=es.length:=by have:=HJ.out;omega
    have HRN:=Aside0.mk (show runTo n l es j=run n l es by rw [run,if_pos ⟨HL.out,HE.out⟩,hj])
    clear hj
    go_wp2_with fail
    go_ret
    exact ⟨_,rfl,HRN.out ▸ ST.out.HS,ST.out.hB⟩
  skip
  have b0:(layoutOk n l != 0)=false:=bne_eq_false_iff_eq.mpr hl
  have b1:decide ((es.length:Int) > 2000)=true:=decide_eq_true (by omega)
  have HV:=Aside0.mk (show ([]:List S85)=run n l es by rw [run,if_neg (fun h=>he h.2)])
  clear hl he
  go_enter Tryd.func45,Tryd.ntmps45
  go_wp2_with (first|((with_reducible refine gate_dst (N:=2) rfl ?_);refine box_event ?hg (N:=2) ?hd (cs:=#[.int .i64 n,.slice A l.length c]) (t:=31) ?hr ?_;(case hd=>rfl);(case hg=>rfl);(case hr=>first|(go_simp;done)|(go_simp;rfl));intro gl el wl kl bl;have hcz0:=(blk_cell kl 0).trans (show _=some (Value.int .i64 n) from rfl);have hcz1:=(blk_cell kl 1).trans (show _=some (Value.slice A l.length c) from rfl);have KL:=Aside0.mk kl;have BL:=Aside0.mk bl;have GL:=Aside0.mk (show w.heap.size≤gl by rw [el];exact Nat.le_refl _);clear kl bl el)|(go_at_call 38;refine (slay_is (Kd.C_below HR.out BL.out) HC.out).mono ?_;rintro e w1 ⟨rfl,hb⟩;have KL:=Aside0.mk (blk_below KL.out hb);have BL:=Aside0.mk (below_step BL.out hb);clear hb;have hcy0:=(blk_cell KL.out 0).trans (show _=some (Value.int .i64 n) from rfl);have hcy1:=(blk_cell KL.out 1).trans (show _=some (Value.slice A l.length c) from rfl)))
  go_ret
  exact ⟨_,rfl,HV.out ▸ Kd.S_nil _ _ _ _ _,BL.out⟩
 skip
 have b0:(layoutOk n l != 0)=true:=bne_iff_ne.mpr hl
 have HV:=Aside0.mk (show ([]:List S85)=run n l es by rw [run,if_neg (fun h=>hl h.1)])
 clear hl
 go_enter Tryd.func45,Tryd.ntmps45
 go_wp2_with (first|((with_reducible refine gate_dst (N:=2) rfl ?_);refine box_event ?hg (N:=2) ?hd (cs:=#[.int .i64 n,.slice A l.length c]) (t:=31) ?hr ?_;(case hd=>rfl);(case hg=>rfl);(case hr=>first|(go_simp;done)|(go_simp;rfl));intro gl el wl kl bl;have hcz0:=(blk_cell kl 0).trans (show _=some (Value.int .i64 n) from rfl);have hcz1:=(blk_cell kl 1).trans (show _=some (Value.slice A l.length c) from rfl);have KL:=Aside0.mk kl;have BL:=Aside0.mk bl;have GL:=Aside0.mk (show w.heap.size≤gl by rw [el];exact Nat.le_refl _);clear kl bl el)|(go_at_call 38;refine (slay_is (Kd.C_below HR.out BL.out) HC.out).mono ?_;rintro e w1 ⟨rfl,hb⟩;have KL:=Aside0.mk (blk_below KL.out hb);have BL:=Aside0.mk (below_step BL.out hb);clear hb;have hcy0:=(blk_cell KL.out 0).trans (show _=some (Value.int .i64 n) from rfl);have hcy1:=(blk_cell KL.out 1).trans (show _=some (Value.slice A l.length c) from rfl)))
 go_ret
 exact ⟨_,rfl,HV.out ▸ Kd.S_nil _ _ _ _ _,BL.out⟩
end Go.Proofs.YtpdnabhpkdchjaaDoor.P
namespace Go.Proofs.YtpdnabhpkdchjaaDoor.P
open Go Go.RowKit Go.Proofs.YtpdnabhpkdchjaaDoorW.PrintWords Go.Proofs.YtpdnabhpkdchjaaDoorW.PrintLast Go.Proofs.YtpdnabhpkdchjaaDoorW.PrintMore
set_option linter.unusedVariables false
set_option linter.unusedSimpArgs false
def as_T3:Bool × List (List Nat × List Nat):=(true,[([],[]),([0],[0]),([1],[1]),([2],[2]),([3],[3]),([],[]),([5],[5]),([6,2],[6]),([4,7],[4,7]),([8],[8]),([9,7,0,1,2,3,4,5,6,7,8,9],[9])])
def as_B3:List Nat:=[0,1,3,7,15,0,32,103,255,511,1023]
theorem as_tab3:rtab .any (opsOf Tryd.f21 3)=as_T3:=by kernel_rfl
theorem as_bits3:waitsOk as_T3.2 as_B3=true:=by kernel_rfl
set_option maxHeartbeats 8000000 in
set_option maxRecDepth 100000 in
theorem sans_is (n:Int) (A:Option Addr) (c:Nat) (l:List S98) (s:List UInt8) (tx:ByteArray) (htx:tx=bs s) (w:World) (hr:Kd.C k98 w A l.length l) (hc:l.length≤c) :
  Calls Tryd.prog 21 #[.agg #[.int .i64 n,.slice A l.length c],.string tx] w fun e w'=>e=.returned (.string (bs (ansE n l s)))∧Below w.heap.size w w':=by
 obtain ⟨⟨rc,rd,es⟩,hrr⟩:∃ r,readE n l s=r:=⟨_,rfl⟩
 have hf:=readE_form n l s
 rw [hrr] at hf
 have RF:=Aside0.mk hf
 have HA0:=Aside0.mk (show rc=0→ansE n l s=ansTo (run n l es) (run n l es).length by intro h;unfold ansE;rw [hrr];exact if_pos h)
 have HA1:=Aside0.mk (show rc ≠ 0→ansE n l s=wrongB rc rd by intro h;unfold ansE;rw [hrr];exact if_neg h)
 have IRD:=Aside0.mk (show ∀ w:World,Kd.C k98 w A l.length l→Calls Tryd.prog 15 #[.agg #[.int .i64 n,.slice A l.length c],.string tx] w fun e w'=>∃ v2_:Value,e=.returned (.agg #[.int .i64 rc,.int .i64 rd,v2_])∧Kd.R k52 52 w' w.heap.size (fun _=>True) v2_ es∧Below w.heap.size w w' from fun w h1=>by have:=sread_is n A c l s tx htx w h1 hc;rw [hrr] at this;exact this)
 have HR:=Aside0.mk hr
 have HC:=Aside0.mk hc
 clear hr hc htx hrr hf
 go_enter Tryd.func21,Tryd.ntmps21
 go_upto_region 1 with ((with_reducible refine gate_dst (N:=2) rfl ?_);refine box_event ?hg (N:=2) ?hd (cs:=#[.int .i64 n,.slice A l.length c]) (t:=31) ?hr ?_;(case hd=>rfl);(case hg=>rfl);(case hr=>first|(go_simp;done)|(go_simp;rfl));intro gl el wl kl bl;have EL:=Aside0.mk el;have KL:=Aside0.mk kl;have BL:=Aside0.mk bl;clear el kl bl;have kl0:wl.cell? ⟨gl,0,none⟩=some (.int .i64 n):=(blk_cell KL.out 0).trans rfl;have zkl0:=blk_frozen KL.out 0;have kl1:wl.cell? ⟨gl,1,none⟩=some (.slice A l.length c):=(blk_cell KL.out 1).trans rfl;have zkl1:=blk_frozen KL.out 1)
 go_upto_region 2 with (first|(go_at_call 15;refine (IRD.out _ (Kd.C_below HR.out BL.out)).mono ?_;rintro e w1 ⟨v2,rfl,hs,hb⟩;obtain ⟨A2,c2,rfl⟩:=Kd.R_slice hs;have RE:=Aside0.mk (Kd.R_reads' hs);have B1:=Aside0.mk (below_step BL.out hb);have KL:=Aside0.mk (blk_below KL.out hb);clear hs hb kl0 zkl0 kl1 zkl1)|((with_reducible refine gate_dst (N:=5) rfl ?_);refine box_event ?hg (N:=5) ?hd (cs:=#[.int .i64 0,.int .i64 0,.slice none 0 0]) (t:=39) ?hr ?_;(case hd=>rfl);(case hg=>rfl);(case hr=>first|(go_simp;done)|(go_simp;rfl));intro gh eh wh kh bh;have EH:=Aside0.mk eh;have KH:=Aside0.mk kh;have BH:=Aside0.mk bh;clear eh kh bh;have kh0:wh.cell? ⟨gh,0,none⟩=some (.int .i64 0):=(blk_cell KH.out 0).trans rfl;have zkh0:=blk_frozen KH.out 0;have kh1:wh.cell? ⟨gh,1,none⟩=some (.int .i64 0):=(blk_cell KH.out 1).trans rfl;have zkh1:=blk_frozen KH.out 1;have kh2:wh.cell? ⟨gh,2,none⟩=some (.slice none 0 0):=(blk_cell KH.out 2).trans rfl;have zkh2:=blk_frozen KH.out 2))
 have FX:=Aside0.mk (fill3e (y0:=.int .i64 rc) (y1:=.int .i64 rd) (y2:=.slice A2 es.length c2) KH.out BH.out (Nat.le_of_eq EH.out.symm))
 clear kh0 zkh0 kh1 zkh1 kh2 zkh2 KH BH EH
 generalize (((wh.setCell ⟨gh,0,none⟩ (.int .i64 rc)).setCell ⟨gh,1,none⟩ (.int .i64 rd)).setCell ⟨gh,2,none⟩ (.slice A2 es.length c2))=w3 at FX ⊢
 have KH:=Aside0.mk FX.out.2
 have KL:=Aside0.mk (blk_below KL.out FX.out.1)
 have RE:=Aside0.mk (And.intro RE.out.2.1 (Kd.C_below RE.out.2.2 FX.out.1))
 have BB:=Aside0.mk (below_step B1.out FX.out.1)
 clear FX BL B1
 have kh0:w3.cell? ⟨gh,0,none⟩=some (.int .i64 rc):=(blk_cell KH.out 0).trans rfl
 have kh1:w3.cell? ⟨gh,1,none⟩=some (.int .i64 rd):=(blk_cell KH.out 1).trans rfl
 have kh2:w3.cell? ⟨gh,2,none⟩=some (.slice A2 es.length c2):=(blk_cell KH.out 2).trans rfl
 by_cases h0:rc=0
 ·have HA:=Aside0.mk (HA0.out h0)
  subst h0
  clear HA0 HA1 IRD kh1
  have HR:=Aside0.mk (Kd.C_below HR.out BB.out)
  go_upto_region 5 with fail
  obtain ⟨gs,hgs⟩:∃ g,g=w3.heap.size:=⟨_,rfl⟩
  have HG:=Aside0.mk (show (w3.alloc (.cells #[.string (⟨#[46]⟩:ByteArray),.string (⟨#[35]⟩:ByteArray),.string (⟨#[126]⟩:ByteArray),.string (⟨#[33]⟩:ByteArray)] 9)).heap[gs]?=some (.cells #[.string (⟨#[46]⟩:ByteArray),.string (⟨#[35]⟩:ByteArray),.string (⟨#[126]⟩:ByteArray),.string (⟨#[33]⟩:ByteArray)] 9 (0,0)) by rw [hgs];exact heap_alloc_new w3 _)
  have B34:=Aside0.mk (below_alloc (Below.refl w3.heap.size w3) (.cells #[.string (⟨#[46]⟩:ByteArray),.string (⟨#[35]⟩:ByteArray),.string (⟨#[126]⟩:ByteArray),.string (⟨#[33]⟩:ByteArray)] 9))
  rw [← hgs]
  clear hgs kh0 kh2
  generalize w3.alloc (.cells #[.string (⟨#[46]⟩:ByteArray),.string (⟨#[35]⟩:ByteArray),.string (⟨#[126]⟩:ByteArray),.string (⟨#[33]⟩:ByteArray)] 9)=w4 at HG B34 ⊢
  have KL:=Aside0.mk (blk_below KL.out B34.out)
  have KH:=Aside0.mk (blk_below KH.out B34.out)
  have BB:=Aside0.mk (below_step BB.out B34.out)
  have kl0:w4.cell? ⟨gl,0,none⟩=some (.int .i64 n):=(blk_cell KL.out 0).trans rfl
  have kl1:w4.cell? ⟨gl,1,none⟩=some (.slice A l.length c):=(blk_cell KL.out 1).trans rfl
  have kh2:w4.cell? ⟨gh,2,none⟩=some (.slice A2 es.length c2):=(blk_cell KH.out 2).trans rfl
  have RFR:=Aside0.mk (run_facts n l es)
  go_wp2_with (go_at_call 45;refine (srun_is n A c l A2 c2 es _ (Kd.C_below HR.out B34.out) HC.out (Kd.C_below RE.out.2 B34.out) RE.out.1).mono ?_;rintro e w5 ⟨v0,rfl,hs,hb⟩;have AN:=Aside0.mk (AnS.mk (w:=w) (v7:=.slice none 0 0) (bs:=[]) (Kd.R_nil _ _ _ _ _) hs (blk_below HG.out hb) (below_step BB.out hb));obtain ⟨A0,c0,rfl⟩:=Kd.S_slice hs;clear hs hb)
  generalize run n l es=rs at *
  clear kl0 kl1 kh2 KL KH RE HG
  go_loopg [7,35] rs.length (fun kq v7 v35 w'=>∃ i:Nat,v35=.int .i64 (i:Int)∧Aside0 (i+kq=rs.length)∧Aside0 (AnS w w4.heap.size gs v7 (ansTo rs i) (.slice A0 rs.length c0) rs w'))
  case atStart=>exact ⟨0,rfl,⟨by omega⟩,⟨by have:=AN.out;rwa [show ansTo rs 0=[] from rfl]⟩⟩
  case round =>
   clear AN
   obtain ⟨i,rfl,HX,AN⟩:=hrel
   by_cases hit:i<rs.length
   ·obtain ⟨go1,rfl⟩:∃ g,gk=g+1:=⟨gk - 1,by have:=HX.out;omega⟩
    have hit':decide ((i:Int)<(rs.length:Int))=true:=decide_eq_true (by omega)
    have r0:(0:Int)≤(i:Int):=by omega
    have r1:(i:Int)<(rs.length:Int):=by omega
    obtain ⟨ad,A3,c3,A4,c4,e,x0,x1,x2,x3,hr2⟩:=done_at AN.out.hS i hit
    subst e
    have HIT:=Aside0.mk hit
    have F1:=Aside0.mk (RFR.out.code i hit)
    have F2:=Aside0.mk (RFR.out.secs i hit)
    have F3:=Aside0.mk (RFR.out.told i hit)
    have GS:=Aside0.mk (ansTo_succ rs i hit)
    have LN:=Aside0.mk (ansTo_len RFR.out i (Nat.le_of_lt hit))
    generalize rd_T85 rs (i:Int)=d at x0 x1 x2 x3 hr2 F1 F2 F3 GS
    have DT:=Aside0.mk (doneTo_len F1.out F2.out)
    have D0:=Aside0.mk (doneTo_zero d)
    have DS:=Aside0.mk (doneTo_succ d)
    have DB:=Aside0.mk (show doneB d=doneTo d d.f1.f1.length ++ [10] from rfl)
    obtain ⟨dc,db,ss,dd⟩:=d
    dsimp only at x0 x1 x2 x3 hr2 F1 F2 F3 DB DS D0
    have R2:=Aside0.mk hr2
    have W1:=Aside0.mk (show wrap64 ((i:Int)+1)=((i+1:Nat):Int) from (wrap_id (by omega) (by have:=RFR.out.len;omega)).trans (by omega))
    clear hr2 r0 r1
    go_upto_region 9 with ((with_reducible refine gate_dst (N:=9) rfl ?_);refine box_event ?hg (N:=9) ?hd (cs:=#[.int .i64 0,.bool false,.slice none 0 0,.slice none 0 0]) (t:=85) ?hr ?_;(case hd=>rfl);(case hg=>rfl);(case hr=>first|(go_simp;done)|(go_simp;rfl));intro gd ed wd kd bd;have ED:=Aside0.mk ed;have KD:=Aside0.mk kd;have BD:=Aside0.mk bd;clear ed kd bd;have kd0:wd.cell? ⟨gd,0,none⟩=some (.int .i64 0):=(blk_cell KD.out 0).trans rfl;have zkd0:=blk_frozen KD.out 0;have kd1:wd.cell? ⟨gd,1,none⟩=some (.bool false):=(blk_cell KD.out 1).trans rfl;have zkd1:=blk_frozen KD.out 1;have kd2:wd.cell? ⟨gd,2,none⟩=some (.slice none 0 0):=(blk_cell KD.out 2).trans rfl;have zkd2:=blk_frozen KD.out 2;have kd3:wd.cell? ⟨gd,3,none⟩=some (.slice none 0 0):=(blk_cell KD.out 3).trans rfl;have zkd3:=blk_frozen KD.out 3)
    have FX:=Aside0.mk (fill4e (y0:=.int .i64 dc) (y1:=.bool db) (y2:=.slice A3 ss.length c3) (y3:=.slice A4 dd.length c4) KD.out BD.out (Nat.le_of_eq ED.out.symm))
    clear kd0 zkd0 kd1 zkd1 kd2 zkd2 kd3 zkd3 KD BD ED x0 x1 x2 x3
    generalize ((((wd.setCell ⟨gd,0,none⟩ (.int .i64 dc)).setCell ⟨gd,1,none⟩ (.bool db)).setCell ⟨gd,2,none⟩ (.slice A3 ss.length c3)).setCell ⟨gd,3,none⟩ (.slice A4 dd.length c4))=w6 at FX ⊢
    have AN:=Aside0.mk (AN.out.up FX.out.1)
    have R2:=Aside0.mk (R_up R2.out FX.out.1)
    have KD:=Aside0.mk FX.out.2
    clear FX
    have kd0:w6.cell? ⟨gd,0,none⟩=some (.int .i64 dc):=(blk_cell KD.out 0).trans rfl
    have kd2:w6.cell? ⟨gd,2,none⟩=some (.slice A3 ss.length c3):=(blk_cell KD.out 2).trans rfl
    obtain ⟨dg,hdg⟩:∃ dg:ByteArray,dg=⟨(Lib.decDigits dc.toNat).toArray⟩:=⟨_,rfl⟩
    have hds:dg.size≤5:=by rw [hdg];exact digits_small F1.out
    have sa0:(dg.size+1≤9223372036854775807)=True:=eq_true (by omega)
    have sa1:decide (dg.size+1≤9223372036854775807)=true:=decide_eq_true (by omega)
    have sa2:(9223372036854775807<dg.size+1)=False:=eq_false (by omega)
    have DG:=Aside0.mk hdg
    clear hdg hds
    go_upto_region 10 with (go_at_call 44;refine (sdec_is F1.out.1 (by have:=F1.out.2;omega)).mono ?_;rintro e w7 ⟨rfl,hb⟩;rw [← DG.out];have AN:=Aside0.mk (AN.out.up hb);have R2:=Aside0.mk (R_up R2.out hb);have KD:=Aside0.mk (blk_below KD.out hb);clear hb kd0 kd2)
    have kd2:w7.cell? ⟨gd,2,none⟩=some (.slice A3 ss.length c3):=(blk_cell KD.out 2).trans rfl
    obtain ⟨lb,hlb⟩:∃ lb:ByteArray,lb=dg ++ ⟨#[32]⟩:=⟨_,rfl⟩
    have L0:=Aside0.mk (show lb=bs (doneTo ⟨dc,⟨db,ss,dd⟩⟩ 0) by rw [hlb,DG.out,D0.out];exact bytes_app _ [32])
    rw [← hlb]
    clear sa0 sa1 sa2 hlb
    go_wp2_with fail
    clear kd2
    go_loopg [10,47] ss.length (fun kq v10 v47 w'=>∃ (j:Nat) (lb:ByteArray),v10=.string lb∧v47=.int .i64 (j:Int)∧Aside0 (j+kq=ss.length)∧Aside0 (lb=bs (doneTo ⟨dc,⟨db,ss,dd⟩⟩ j))∧Aside0 (AnS w w4.heap.size gs u7 (ansTo rs i) (.slice (some ad) rs.length c0) rs w')∧Aside0 (Kd.R k87 87 w' w4.heap.size (fun _=>True) (.slice A3 ss.length c3) ss))
    case atStart=>exact ⟨0,lb,rfl,rfl,⟨by omega⟩,L0,AN,R2⟩
    case round =>
     clear AN R2 KD L0
     obtain ⟨j,lb,rfl,rfl,HJ,HL,AN,R2⟩:=hrel
     by_cases hjt:j<ss.length
     ·obtain ⟨go2,rfl⟩:∃ g,gk=g+1:=⟨gk - 1,by have:=HJ.out;omega⟩
      have hjt':decide ((j:Int)<(ss.length:Int))=true:=decide_eq_true (by omega)
      have q0:(0:Int)≤(j:Int):=by omega
      have q1:(j:Int)<(ss.length:Int):=by omega
      obtain ⟨ads,e,x0,x1,x2,x3,x4⟩:=at_T87 (Kd.R_reads' R2.out).2.2 (j:Int) q0 q1
      subst e
      rw [Int.toNat_natCast] at x0 x1 x2 x3 x4
      have FT:=Aside0.mk (F3.out j hjt)
      have DJ:=Aside0.mk (DS.out j hjt)
      have LJ:=Aside0.mk (show lb.size≤66 by rw [HL.out,bs_size];exact DT.out j)
      generalize rd_T87 ss (j:Int)=x at x0 x1 x2 x3 x4 FT DJ
      have W2:=Aside0.mk (show wrap64 ((j:Int)+1)=((j+1:Nat):Int) from (wrap_id (by omega) (by have:=F2.out;omega)).trans (by omega))
      clear q0 q1
      go_upto_region 13 with ((with_reducible refine gate_dst (N:=12) rfl ?_);refine box_event ?hg (N:=12) ?hd (cs:=#[.int .i64 0,.int .i64 0,.bool false,.bool false,.int .i64 0]) (t:=87) ?hr ?_;(case hd=>rfl);(case hg=>rfl);(case hr=>first|(go_simp;done)|(go_simp;rfl));intro gz ez wz kz bz;have EZ:=Aside0.mk ez;have KZ:=Aside0.mk kz;have BZ:=Aside0.mk bz;clear ez kz bz;have kz0:wz.cell? ⟨gz,0,none⟩=some (.int .i64 0):=(blk_cell KZ.out 0).trans rfl;have zkz0:=blk_frozen KZ.out 0;have kz1:wz.cell? ⟨gz,1,none⟩=some (.int .i64 0):=(blk_cell KZ.out 1).trans rfl;have zkz1:=blk_frozen KZ.out 1;have kz2:wz.cell? ⟨gz,2,none⟩=some (.bool false):=(blk_cell KZ.out 2).trans rfl;have zkz2:=blk_frozen KZ.out 2;have kz3:wz.cell? ⟨gz,3,none⟩=some (.bool false):=(blk_cell KZ.out 3).trans rfl;have zkz3:=blk_frozen KZ.out 3;have kz4:wz.cell? ⟨gz,4,none⟩=some (.int .i64 0):=(blk_cell KZ.out 4).trans rfl;have zkz4:=blk_frozen KZ.out 4)
      have FX:=Aside0.mk (fill5e (y0:=.int .i64 x.f0) (y1:=.int .i64 x.f1) (y2:=.bool x.f2) (y3:=.bool x.f3) (y4:=.int .i64 x.f4) KZ.out BZ.out (Nat.le_of_eq EZ.out.symm))
      clear kz0 zkz0 kz1 zkz1 kz2 zkz2 kz3 zkz3 kz4 zkz4 KZ BZ EZ x0 x1 x2 x3 x4
      generalize (((((wz.setCell ⟨gz,0,none⟩ (.int .i64 x.f0)).setCell ⟨gz,1,none⟩ (.int .i64 x.f1)).setCell ⟨gz,2,none⟩ (.bool x.f2)).setCell ⟨gz,3,none⟩ (.bool x.f3)).setCell ⟨gz,4,none⟩ (.int .i64 x.f4))=w9 at FX ⊢
      have AN:=Aside0.mk (AN.out.up FX.out.1)
      have R2:=Aside0.mk (R_up R2.out FX.out.1)
      have ks0:w9.cell? ⟨gz,0,none⟩=some (.int .i64 x.f0):=(blk_cell FX.out.2 0).trans rfl
      clear FX
      obtain ⟨g0,g1,g2,g3⟩:=AN.out.sign
      have hls:=LJ.out
      have sa0:(lb.size+1≤9223372036854775807)=True:=eq_true (by omega)
      have sa1:decide (lb.size+1≤9223372036854775807)=true:=decide_eq_true (by omega)
      have sa2:(9223372036854775807<lb.size+1)=False:=eq_false (by omega)
      clear hls
      rcases sign_at FT.out with ⟨hb,hx⟩|⟨hb,hx⟩|⟨hb,hx⟩|⟨hb,hx⟩
      all_goals
       rw [hx] at ks0
       have LN2:=Aside0.mk (sign_app _ lb (signB x) HL.out)
       rw [hb] at LN2 DJ
       clear hb hx
       go_wp2_with fail
       go_roundg go2
       case measure=>omega
       case rel=>exact ⟨j+1,_,rfl,congrArg (Value.int .i64) W2.out,⟨by have:=HJ.out;omega⟩,⟨by rw [DJ.out];exact LN2.out⟩,AN,R2⟩
     have hjt':decide ((j:Int)<(ss.length:Int))=false:=decide_eq_false (by omega)
     have HJE:=Aside0.mk (show j=ss.length by have:=HJ.out;omega)
     have hls:lb.size≤66:=by rw [HL.out,bs_size];exact DT.out j
     have sa0:(lb.size+1≤9223372036854775807)=True:=eq_true (by omega)
     have sa1:decide (lb.size+1≤9223372036854775807)=true:=decide_eq_true (by omega)
     have sa2:(9223372036854775807<lb.size+1)=False:=eq_false (by omega)
     have LJ:=Aside0.mk hls
     clear hls
     go_wp2_with (at_builtin;refine print_append_str (w0:=w) w.heap.size rfl (.tmp 59) _ 46 9 5 rfl Tryd.underlying46 Tryd.underlying9 info5 u7 (natsB (ansTo rs i)) (lb ++ (⟨#[10]⟩:ByteArray)) rfl rfl ?aO ?aB ?aS ?aL ?_;(case aB=>exact AN.out.hB);(case aO=>exact Kd.own_of_R AN.out.hO);(case aS=>exact AN.out.hB.size);(case aL=>have:=LN.out;have:=RFR.out.len;have:=HIT.out;have:=LJ.out;unfold natsB;rw [List.length_map,ByteArray.size_append];show _+(lb.size+1)≤_;omega);intro v11 w11 ho0 hb hg;have ho:=Kd.R_of_own (h1:=fun _=>rfl) (ok:=fun _=>True) ho0 (fun _ _=>trivial);have AN:=Aside0.mk (AN.out.app (bs':=ansTo rs (i+1)) (by rw [GS.out,DB.out];have:=ho;rw [natsB_app _ _ _ HL.out,HJE.out] at this;exact this) hb hg);clear ho0 ho hb hg)
     go_roundg go1
     case measure=>omega
     case rel=>exact ⟨i+1,congrArg (Value.int .i64) W1.out,⟨by have:=HX.out;omega⟩,AN⟩
   have hit':decide ((i:Int)<(rs.length:Int))=false:=decide_eq_false (by omega)
   have HIE:=Aside0.mk (show i=rs.length by have:=HX.out;omega)
   have hcv:=own_string (P:=Tryd.prog) (src:=46) (dst:=9) Tryd.underlying46 Tryd.underlying5 Tryd.underlying9 (Kd.own_of_R AN.out.hO)
   have NB:=Aside0.mk (show strOfNums (natsB (ansTo rs i))=bs (ansTo rs i) from nums_bs _)
   rw [NB.out] at hcv
   go_wp2_with fail
   go_ret
   exact ⟨by rw [HA.out,← HIE.out];rfl,AN.out.hB⟩
 have HA:=Aside0.mk (HA1.out h0)
 have hb1:(rc != 0)=true:=by simp [h0]
 obtain ⟨dg1,hdg1⟩:∃ dg:ByteArray,dg=⟨(Lib.decDigits rc.toNat).toArray⟩:=⟨_,rfl⟩
 obtain ⟨dg2,hdg2⟩:∃ dg:ByteArray,dg=⟨(Lib.decDigits rd.toNat).toArray⟩:=⟨_,rfl⟩
 have hs1:dg1.size≤4:=by rw [hdg1];have:=digits_len rc.toNat;have:=RF.out.1;show (Lib.decDigits rc.toNat).length≤4;omega
 have hs2:dg2.size≤20001:=by rw [hdg2];have:=digits_len rd.toNat;have:=RF.out.2.1;show (Lib.decDigits rd.toNat).length≤20001;omega
 have sa0:(6+dg1.size≤9223372036854775807)=True:=eq_true (by omega)
 have sa1:decide (6+dg1.size≤9223372036854775807)=true:=decide_eq_true (by omega)
 have sa2:(9223372036854775807<6+dg1.size)=False:=eq_false (by omega)
 have sb0:(6+dg1.size+1≤9223372036854775807)=True:=eq_true (by omega)
 have sb1:decide (6+dg1.size+1≤9223372036854775807)=true:=decide_eq_true (by omega)
 have sb2:(9223372036854775807<6+dg1.size+1)=False:=eq_false (by omega)
 have sc0:(6+dg1.size+1+dg2.size≤9223372036854775807)=True:=eq_true (by omega)
 have sc1:decide (6+dg1.size+1+dg2.size≤9223372036854775807)=true:=decide_eq_true (by omega)
 have sc2:(9223372036854775807<6+dg1.size+1+dg2.size)=False:=eq_false (by omega)
 have sd0:(6+dg1.size+1+dg2.size+1≤9223372036854775807)=True:=eq_true (by omega)
 have sd1:decide (6+dg1.size+1+dg2.size+1≤9223372036854775807)=true:=decide_eq_true (by omega)
 have sd2:(9223372036854775807<6+dg1.size+1+dg2.size+1)=False:=eq_false (by omega)
 have DG1:=Aside0.mk hdg1
 have DG2:=Aside0.mk hdg2
 clear hdg1 hdg2 hs1 hs2 HA0 HA1 IRD kh2
 go_upto_region 3 with fail
 have DR:=Aside0.mk (below_drew1 (Below.refl w3.heap.size w3))
 have BB:=Aside0.mk (below_step BB.out DR.out)
 replace kh0:=pw_cell_below DR.out kh0
 replace kh1:=pw_cell_below DR.out kh1
 clear DR KL RE KH
 refine start_ (n:=11) (S:=fun w'=>w'.cell? ⟨gh,0,none⟩=some (.int .i64 rc)∧w'.cell? ⟨gh,1,none⟩=some (.int .i64 rd)) (ds:=[]) #[false,false,false,false,false,false,false,false,false,false,false] (by kernel_rfl) rfl rfl ⟨kh0,kh1⟩ (fun hHeld=>?_)
 refine with_tabW as_tab3 as_bits3 (fun HT_ HW_=>?_)
 clear kh0 kh1
 generalize w3.drew=w95 at BB hHeld ⊢
 refine pure_ (i:=0) (N:=some 19) (v:=?_) (a':=?_) #[true,false,false,false,false,false,false,false,false,false,false] rfl rfl (any_of HT_.out (by kernel_rfl)) (fun _ _ _ h=>h) (Or.inl ⟨by rfl,?_⟩) ?_ ?_
 rotate_left
 ·intro w'
  go_simp
  with_reducible rfl
 rotate_left
 ·simp only [Act.put,List.setIfInBounds_toArray,List.set_cons_zero,List.set_cons_succ,i64_w,i32_w]
  rfl
 refine take_ (i:=1) (N:=some 20) (v:=?_) (a':=?_) #[true,true,false,false,false,false,false,false,false,false,false] rfl rfl (take_ofW HT_.out HW_.out (by kernel_rfl)) (fun _ _ _ h=>h) (Or.inl ⟨by rfl,?_⟩) hHeld ?_ ?_
 rotate_left
 ·rintro w' ⟨s0,s1⟩
  go_simp
  with_reducible rfl
 rotate_left
 ·simp only [Act.put,List.setIfInBounds_toArray,List.set_cons_zero,List.set_cons_succ,i64_w,i32_w]
  rfl
 refine pure_ (i:=5) (N:=some 24) (v:=?_) (a':=?_) #[true,true,false,false,false,true,false,false,false,false,false] rfl rfl (any_of HT_.out (by kernel_rfl)) (fun _ _ _ h=>h) (Or.inl ⟨by rfl,?_⟩) ?_ ?_
 rotate_left
 ·intro w'
  go_simp
  with_reducible rfl
 rotate_left
 ·simp only [Act.put,List.setIfInBounds_toArray,List.set_cons_zero,List.set_cons_succ,i64_w,i32_w]
  rfl
 refine take_ (i:=6) (N:=some 25) (v:=?_) (a':=?_) #[true,true,false,false,false,true,true,false,false,false,false] rfl rfl (take_ofW HT_.out HW_.out (by kernel_rfl)) (fun _ _ _ h=>h) (Or.inl ⟨by rfl,?_⟩) hHeld ?_ ?_
 rotate_left
 ·rintro w' ⟨s0,s1⟩
  go_simp
  with_reducible rfl
 rotate_left
 ·simp only [Act.put,List.setIfInBounds_toArray,List.set_cons_zero,List.set_cons_succ,i64_w,i32_w]
  rfl
 refine one_ (i:=2) (N:=some 21) #[true,true,true,false,false,true,true,false,false,false,false] rfl rfl (one_of HT_.out (by kernel_rfl)) (by decide) (fun K hK=>?_)
 refine goes_ Tryd.func44 (by kernel_rfl) rfl #[.int .i64 rc] (by rfl) rfl rfl (by (try simp only [List.map_toArray,List.map_cons,List.map_nil]);first|done|rfl) ?_
 ((with_reducible refine (sdec_is (w:=_) (by have:=RF.out;omega) (by have:=RF.out;omega)).mono ?_);rintro e w1 ⟨rfl,hb⟩);rw [← DG1.out]
 refine ⟨_,rfl,?_⟩
 have BB:=Aside0.mk (below_step BB.out hb)
 refine hK.out _ _ ⟨pw_cell_below hb hHeld.1,pw_cell_below hb hHeld.2⟩ (fun hHeld=>?_)
 clear hb hK K
 refine norm_ (a':=?_) ?_ ?_
 rotate_left
 ·show Act.put _ (some 21) _=_
  simp only [Act.put,List.setIfInBounds_toArray,List.set_cons_zero,List.set_cons_succ,i64_w,i32_w]
  rfl
 refine pure_ (i:=3) (N:=some 22) (v:=?_) (a':=?_) #[true,true,true,true,false,true,true,false,false,false,false] rfl rfl (any_of HT_.out (by kernel_rfl)) (fun _ _ _ h=>h) (Or.inl ⟨by rfl,?_⟩) ?_ ?_
 rotate_left
 ·intro w'
  go_simp
  with_reducible rfl
 rotate_left
 ·simp only [Act.put,List.setIfInBounds_toArray,List.set_cons_zero,List.set_cons_succ,i64_w,i32_w]
  rfl
 refine pure_ (i:=4) (N:=some 23) (v:=?_) (a':=?_) #[true,true,true,true,true,true,true,false,false,false,false] rfl rfl (any_of HT_.out (by kernel_rfl)) (fun _ _ _ h=>h) (Or.inl ⟨by rfl,?_⟩) ?_ ?_
 rotate_left
 ·intro w'
  go_simp
  with_reducible rfl
 rotate_left
 ·simp only [Act.put,List.setIfInBounds_toArray,List.set_cons_zero,List.set_cons_succ,i64_w,i32_w]
  rfl
 refine one_ (i:=7) (N:=some 26) #[true,true,true,true,true,true,true,true,false,false,false] rfl rfl (one_of HT_.out (by kernel_rfl)) (by decide) (fun K hK=>?_)
 refine goes_ Tryd.func44 (by kernel_rfl) rfl #[.int .i64 rd] (by rfl) rfl rfl (by (try simp only [List.map_toArray,List.map_cons,List.map_nil]);first|done|rfl) ?_
 ((with_reducible refine (sdec_is (w:=_) (by have:=RF.out;omega) (by have:=RF.out;omega)).mono ?_);rintro e w1 ⟨rfl,hb⟩);rw [← DG2.out]
 refine ⟨_,rfl,?_⟩
 have BB:=Aside0.mk (below_step BB.out hb)
 refine hK.out _ _ ⟨pw_cell_below hb hHeld.1,pw_cell_below hb hHeld.2⟩ (fun hHeld=>?_)
 clear hb hK K
 refine norm_ (a':=?_) ?_ ?_
 rotate_left
 ·show Act.put _ (some 26) _=_
  simp only [Act.put,List.setIfInBounds_toArray,List.set_cons_zero,List.set_cons_succ,i64_w,i32_w]
  rfl
 refine pure_ (i:=8) (N:=some 27) (v:=?_) (a':=?_) #[true,true,true,true,true,true,true,true,true,false,false] rfl rfl (any_of HT_.out (by kernel_rfl)) (fun _ _ _ h=>h) (Or.inl ⟨by rfl,?_⟩) ?_ ?_
 rotate_left
 ·intro w'
  go_simp
  with_reducible rfl
 rotate_left
 ·simp only [Act.put,List.setIfInBounds_toArray,List.set_cons_zero,List.set_cons_succ,i64_w,i32_w]
  rfl
 refine pure_ (i:=9) (N:=some 28) (v:=?_) (a':=?_) #[true,true,true,true,true,true,true,true,true,true,false] rfl rfl (any_of HT_.out (by kernel_rfl)) (fun _ _ _ h=>h) (Or.inl ⟨by rfl,?_⟩) ?_ ?_
 rotate_left
 ·intro w'
  go_simp
  with_reducible rfl
 rotate_left
 ·simp only [Act.put,List.setIfInBounds_toArray,List.set_cons_zero,List.set_cons_succ,i64_w,i32_w]
  rfl
 refine pure_ (i:=10) (N:=some 4) (v:=?_) (a':=?_) #[true,true,true,true,true,true,true,true,true,true,true] rfl rfl (any_of HT_.out (by kernel_rfl)) (fun _ _ _ h=>h) (Or.inl ⟨by rfl,?_⟩) ?_ ?_
 rotate_left
 ·intro w'
  go_simp
  with_reducible rfl
 rotate_left
 ·simp only [Act.put,List.setIfInBounds_toArray,List.set_cons_zero,List.set_cons_succ,i64_w,i32_w]
  rfl
 refine done_ (done_of HT_.out (by kernel_rfl)) ?_
 clear hHeld HT_ HW_ sa0 sa1 sa2 sb0 sb1 sb2 sc0 sc1 sc2 sd0 sd1 sd2
 go_wp2_with fail
 go_ret
 exact ⟨by rw [HA.out,← wrong_app dg1 dg2 rc rd DG1.out DG2.out];rfl,BB.out⟩
end Go.Proofs.YtpdnabhpkdchjaaDoor.P
namespace Go.Proofs.YtpdnabhpkdchjaaDoor.P
open Go.RowKit Go.Proofs.YtpdnabhpkdchjaaDoorW.PrintWords Go.Proofs.YtpdnabhpkdchjaaDoorW.PrintLast Go.Proofs.YtpdnabhpkdchjaaDoorW.PrintMore
attribute [local go_sem] max2_int min2_int max_two min_two max_three min_three max_four min_four
set_option linter.unusedVariables false
set_option linter.unusedSimpArgs false
theorem eqA52 (d:Nat) (w:World) (x0 y0:Int) (x1 y1:Int) (x2 y2:Int) :
  (Op.equalIn (d+2) 52 (.agg #[.int .i64 x0,.int .i64 x1,.int .i64 x2]) (.agg #[.int .i64 y0,.int .i64 y1,.int .i64 y2])).run Tryd.prog w=.ok (x0==y0 && (x1==y1 && (x2==y2))) w:=by
 refine eqA_of Tryd.underlying52 (by kernel_rfl) ?_
 refine eqf_cons (by rfl) (by go_simp;rfl) (by go_simp;rfl) (by go_simp) ?_
 refine eqf_cons (by rfl) (by go_simp;rfl) (by go_simp;rfl) (by go_simp) ?_
 exact eqf_last (by rfl) (by go_simp;rfl) (by go_simp;rfl) (by go_simp)
end Go.Proofs.YtpdnabhpkdchjaaDoor.P
namespace Go.Proofs.YtpdnabhpkdchjaaDoor.P
open Go.RowKit Go.Proofs.YtpdnabhpkdchjaaDoorW.PrintWords Go.Proofs.YtpdnabhpkdchjaaDoorW.PrintLast Go.Proofs.YtpdnabhpkdchjaaDoorW.PrintMore
attribute [local go_sem] max2_int min2_int max_two min_two max_three min_three max_four min_four
set_option linter.unusedVariables false
set_option linter.unusedSimpArgs false
attribute [local go_sem high] eqA52
def laws_wEvents.l0:Nat→List (S52)→List (S52)→Int→Int→Option (Bool)
 | 0,_,_,_,_=>none
 | k+1,x0,x1,x12,x13=>if x13<x12 then (if 0≤x13 then (if x13<(x0.length:Int) then (if x13<(x1.length:Int) then (if (!(((rd_T52 x0 x13).f0)==((rd_T52 x1 x13).f0)) || (!(((rd_T52 x0 x13).f1)==((rd_T52 x1 x13).f1)) || (!(((rd_T52 x0 x13).f2)==((rd_T52 x1 x13).f2)))))=true then (some false) else (laws_wEvents.l0 k x0 x1 x12 (wrap64 (x13+1)))) else (none)) else (none)) else (none)) else (some true)
def laws_wEvents.f (k:Nat) (l0:List (S52)) (l1:List (S52)):Option (Bool):=if (l0.length:Int)=(l1.length:Int) then (laws_wEvents.l0 k l0 l1 (l0.length:Int) 0) else (some false)
set_option maxHeartbeats 8000000 in
set_option maxRecDepth 100000 in
theorem laws_wEvents.calls (k:Nat) (A0:Option Addr) (c0:Nat) (l0:List (S52)) (A1:Option Addr) (c1:Nat) (l1:List (S52)) (r:Bool) (w:World) (hr0:Kd.C k52 w A0 l0.length l0) (hc0:l0.length≤c0) (hr1:Kd.C k52 w A1 l1.length l1) (hc1:l1.length≤c1) (h:laws_wEvents.f k l0 l1=some r) :
  Calls Tryd.prog 24 #[.slice A0 l0.length c0,.slice A1 l1.length c1] w fun e w'=>e=.returned (.bool r)∧Drawn0 w w':=by
 have hu52:=Tryd.underlying52
 have HR0:=Aside0.mk hr0
 have HC0:=Aside0.mk hc0
 clear hr0 hc0
 have HR1:=Aside0.mk hr1
 have HC1:=Aside0.mk hc1
 clear hr1 hc1
 have H:(if (l0.length:Int)=(l1.length:Int) then (laws_wEvents.l0 k l0 l1 (l0.length:Int) 0) else (some false))=some r:=h
 clear h
 by_cases c3:(l0.length:Int)=(l1.length:Int)
 ·rw [if_pos c3] at H
  have c3b0:((l0.length:Int)==(l1.length:Int))=true:=beq_iff_eq.mpr c3
  have c3b1:((l0.length:Int) != (l1.length:Int))=false:=bne_eq_false_iff_eq.mpr c3
  have c3b2:(l0.length==l1.length)=true:=by first|simpa using c3|(simp at c3 ⊢;omega)
  clear c3
  have H':=Aside0.mk H
  clear H
  go_enter Tryd.func24,Tryd.ntmps24
  go_wp2
  repeat (go_quiet (fail);try go_wp2)
  go_loopg [13] k (fun kq v13 w'=>∃ (x13_1:Int),v13=.int .i64 x13_1∧Aside0 (laws_wEvents.l0 kq l0 l1 (l0.length:Int) x13_1=some r)∧Aside0 (kq≤k)∧Drawn0 w w')
  case atStart=>exact ⟨(0),(by first|rfl|(simp;done)|(simp [*];done)),H',⟨Nat.le_refl _⟩,by repeat (first|exact Drawn0.refl _|apply Drawn0.step)⟩
  case round =>
   clear H'
   try clear c1
   try clear c2
   try clear p2
   try clear c3
   try clear c3b0
   try clear c3b1
   try clear c3b2
   obtain ⟨x13_1,rfl,HA,HK1,⟨m1,rfl⟩⟩:=hrel
   cases gk with
   | zero=>exact absurd HA.out (by simp [laws_wEvents.l0])
   | succ k1 =>
    have H:=HA.out
    clear HA
    simp only [laws_wEvents.l0] at H
    by_cases c4:x13_1<(l0.length:Int)
    ·rw [if_pos c4] at H
     have c4b0:decide (x13_1<(l0.length:Int))=true:=decide_eq_true c4
     clear c4
     by_cases c5:0≤x13_1
     ·rw [if_pos c5] at H
      have c5b0:decide (0≤x13_1)=true:=decide_eq_true c5
      clear c5
      by_cases c6:x13_1<(l0.length:Int)
      ·rw [if_pos c6] at H
       have c6b0:decide (x13_1<(l0.length:Int))=true:=decide_eq_true c6
       clear c6
       by_cases c7:x13_1<(l1.length:Int)
       ·rw [if_pos c7] at H
        have c7b0:decide (x13_1<(l1.length:Int))=true:=decide_eq_true c7
        clear c7
        by_cases c8:(!(((rd_T52 l0 x13_1).f0)==((rd_T52 l1 x13_1).f0)) || (!(((rd_T52 l0 x13_1).f1)==((rd_T52 l1 x13_1).f1)) || (!(((rd_T52 l0 x13_1).f2)==((rd_T52 l1 x13_1).f2)))))=true
        ·rw [if_pos c8] at H
         have c8b0:(!(((rd_T52 l0 x13_1).f0)==((rd_T52 l1 x13_1).f0)) || (!(((rd_T52 l0 x13_1).f1)==((rd_T52 l1 x13_1).f1)) || (!(((rd_T52 l0 x13_1).f2)==((rd_T52 l1 x13_1).f2)))))=true:=c8
         clear c8
         obtain rfl:=Option.some.inj H
         have p486:0≤(x13_1:Int):=of_decide_eq_true (by first|(with_reducible assumption)|assumption)
         have q486:x13_1<(l0.length:Int):=of_decide_eq_true (by first|(with_reducible assumption)|assumption)
         obtain ⟨ad486,e486,hx486_0,hx486_1,hx486_2⟩:=at_T52 HR0.out x13_1 p486 q486
         cases e486
         replace p486:=eq_true p486
         replace q486:=eq_true q486
         have p487:0≤(x13_1:Int):=of_decide_eq_true (by first|(with_reducible assumption)|assumption)
         have q487:x13_1<(l1.length:Int):=of_decide_eq_true (by first|(with_reducible assumption)|assumption)
         obtain ⟨ad487,e487,hx487_0,hx487_1,hx487_2⟩:=at_T52 HR1.out x13_1 p487 q487
         cases e487
         replace p487:=eq_true p487
         replace q487:=eq_true q487
         go_wp2
         repeat (go_quiet (fail);try go_wp2)
         go_ret
         exact ⟨by first|rfl|(simp;done)|(simp [*];done),by repeat (first|exact Drawn0.refl _|apply Drawn0.step)⟩
        rw [if_neg c8] at H
        have c8b0:(!(((rd_T52 l0 x13_1).f0)==((rd_T52 l1 x13_1).f0)) || (!(((rd_T52 l0 x13_1).f1)==((rd_T52 l1 x13_1).f1)) || (!(((rd_T52 l0 x13_1).f2)==((rd_T52 l1 x13_1).f2)))))=false:=by simpa using c8
        clear c8
        have H':=Aside0.mk H
        clear H
        have p486:0≤(x13_1:Int):=of_decide_eq_true (by first|(with_reducible assumption)|assumption)
        have q486:x13_1<(l0.length:Int):=of_decide_eq_true (by first|(with_reducible assumption)|assumption)
        obtain ⟨ad486,e486,hx486_0,hx486_1,hx486_2⟩:=at_T52 HR0.out x13_1 p486 q486
        cases e486
        replace p486:=eq_true p486
        replace q486:=eq_true q486
        have p487:0≤(x13_1:Int):=of_decide_eq_true (by first|(with_reducible assumption)|assumption)
        have q487:x13_1<(l1.length:Int):=of_decide_eq_true (by first|(with_reducible assumption)|assumption)
        obtain ⟨ad487,e487,hx487_0,hx487_1,hx487_2⟩:=at_T52 HR1.out x13_1 p487 q487
        cases e487
        replace p487:=eq_true p487
        replace q487:=eq_true q487
        go_wp2
        repeat (go_quiet (fail);try go_wp2)
        go_roundg k1
        case measure=>have:=HK1.out;omega
        case rel=>exact ⟨(wrap64 (x13_1+1)),(by first|rfl|(simp;done)|(simp [*];done)),H',⟨by have:=HK1.out;omega⟩,by repeat (first|exact Drawn0.refl _|apply Drawn0.step)⟩
       rw [if_neg c7] at H
       exact absurd H (by simp)
      rw [if_neg c6] at H
      exact absurd H (by simp)
     rw [if_neg c5] at H
     exact absurd H (by simp)
    rw [if_neg c4] at H
    have c4b0:decide (x13_1<(l0.length:Int))=false:=decide_eq_false c4
    clear c4
    obtain rfl:=Option.some.inj H
    go_wp2
    repeat (go_quiet (fail);try go_wp2)
    go_ret
    exact ⟨by first|rfl|(simp;done)|(simp [*];done),by repeat (first|exact Drawn0.refl _|apply Drawn0.step)⟩
 rw [if_neg c3] at H
 have c3b0:((l0.length:Int)==(l1.length:Int))=false:=beq_eq_false_iff_ne.mpr c3
 have c3b1:((l0.length:Int) != (l1.length:Int))=true:=bne_iff_ne.mpr c3
 have c3b2:(l0.length==l1.length)=false:=by first|simpa using c3|(simp at c3 ⊢;omega)
 obtain rfl:=Option.some.inj H
 go_enter Tryd.func24,Tryd.ntmps24
 go_wp2
 repeat (go_quiet (fail);try go_wp2)
 go_ret
 exact ⟨by first|rfl|(simp;done)|(simp [*];done),by repeat (first|exact Drawn0.refl _|apply Drawn0.step)⟩
end Go.Proofs.YtpdnabhpkdchjaaDoor.P
namespace Go.Proofs.YtpdnabhpkdchjaaDoor.P
open Go.RowKit Go.Proofs.YtpdnabhpkdchjaaDoorW.PrintWords Go.Proofs.YtpdnabhpkdchjaaDoorW.PrintLast Go.Proofs.YtpdnabhpkdchjaaDoorW.PrintMore
set_option linter.unusedVariables false
set_option linter.unusedSimpArgs false
theorem wEvents_l0 (t:List S52) (hl:t.length≤1000000000) (d:Nat):∀ (i:Nat),i+d=t.length→Ev (fun k=>laws_wEvents.l0 k t t (t.length:Int) i) true:=by
 induction d with
 | zero=>intro i hi;refine Ev.step1 fun k=>?_;simp only [laws_wEvents.l0];rw [if_neg (by omega)]
 | succ d ih =>
  intro i hi
  refine Ev.step (fun k=>?_) (ih (i+1) (by omega))
  simp only [laws_wEvents.l0,beq_self_eq_true,Bool.not_true,Bool.or_self,Bool.false_eq_true,if_false]
  rw [if_pos (by omega),if_pos (by omega),if_pos (by omega),if_pos (by omega),wrap_succ (by omega)]
section
variable {w : World} {A A1 : Option Addr} {c c1 : Nat}
theorem wEvents_is {t:List S52} (hl:t.length≤1000000000) (h1:Kd.C k52 w A t.length t) (k1:t.length≤c) (h2:Kd.C k52 w A1 t.length t) (k2:t.length≤c1) :
  Calls Tryd.prog 24 #[.slice A t.length c,.slice A1 t.length c1] w fun e w'=>e=.returned (.bool true)∧Below w.heap.size w w':=by
 obtain ⟨k,h⟩:=(show Ev (fun k=>laws_wEvents.f k t t) true from by unfold laws_wEvents.f;exact Ev.ite_pos rfl (wEvents_l0 t hl t.length 0 (by omega))).rounds
 exact (laws_wEvents.calls k A c t A1 c1 t true w h1 k1 h2 k2 h).mono fun e w' ⟨he,hd⟩=>⟨he,hd.below⟩
end
end Go.Proofs.YtpdnabhpkdchjaaDoor.P
namespace Go.Proofs.YtpdnabhpkdchjaaDoor.P
open Go Go.RowKit Go.Proofs.YtpdnabhpkdchjaaDoorW.PrintWords Go.Proofs.YtpdnabhpkdchjaaDoorW.PrintLast Go.Proofs.YtpdnabhpkdchjaaDoorW.PrintMore
set_option linter.unusedVariables false
set_option linter.unusedSimpArgs false
def tx_T6:Bool × List (List Nat × List Nat):=(true,[([],[]),([],[]),([],[]),([1,2],[1,2]),([0,3],[0,3]),([4,3],[4]),([5],[5]),([6,5],[5,6]),([7,5],[5,7]),([5,8],[5,8]),([9,5],[9]),([10],[10]),([11,10],[10,11]),([10],[10]),([12,13,10,10],[10,12,13]),([10,14],[10,14]),([15,14],[15]),([16],[16]),([16],[16]),([17,18,16,16],[16,17,18]),([16],[16]),([16],[16]),([20,21,19,16],[16,20,21]),([19,22,16],[16,19,22]),([16,23],[16,23]),([24,22,0,1,2,3,4,5,6,7,8,9,10,11,12,13,14,15,16,17,18,19,20,21,22,23,24],[24])])
def tx_B6:List Nat:=[0,0,0,6,15,31,63,127,255,511,1023,2047,4095,2047,16383,32767,65535,131071,131071,524287,131071,131071,4194303,8388607,16777215,33554431]
theorem tx_tab6:rtab .any (opsOf Tryd.f6 6)=tx_T6:=by kernel_rfl
theorem tx_bits6:waitsOk tx_T6.2 tx_B6=true:=by kernel_rfl
theorem swrite_is (n:Int) (A:Option Addr) (c:Nat) (l:List S98) (A1:Option Addr) (c1:Nat) (es:List S52) (w:World) (hr:Kd.C k98 w A l.length l) (hc:l.length≤c) (hr1:Kd.C k52 w A1 es.length es) (hc1:es.length≤c1) :
  Calls Tryd.prog 9 #[.agg #[.int .i64 n,.slice A l.length c],.slice A1 es.length c1] w fun e w'=>e=.returned (.string ⟨(writeE n l es).toArray⟩)∧Below w.heap.size w w':=by
 obtain ⟨k,h⟩:=(specWrite_ev n l es).rounds
 exact spec_WriteEvents.calls k n A c l A1 c1 es _ w hr hc hr1 hc1 h
set_option maxHeartbeats 8000000 in
set_option maxRecDepth 100000 in
theorem text_walk {T:Addr} {tc:Nat} (A:Option Addr) (c:Nat) (code:List Int) (w:World) (hT:Tabs T tc w) (hr:Kd.C (Kd.int .u8) w A code.length code) (hc:code.length≤c) (hby:∀ x ∈ code,0≤x∧x<256) :
  Calls Tryd.prog 6 #[.slice A code.length c] w fun e w'=>e=.returned (.bool true)∧Below w.heap.size w w':=by
 have HTX:=Aside0.mk (fun (w':World) (h:Below w.heap.size w w')=>hT.nx h)
 clear hT
 by_cases hbig:1048576<code.length
 ·have hb1:decide ((1048576:Int)<(code.length:Int))=true:=decide_eq_true (by omega)
  clear hbig
  go_enter Tryd.func6,Tryd.ntmps6
  go_wp2_with fail
  go_ret
  exact ⟨rfl,Below.refl _ _⟩
 have hb1:decide ((1048576:Int)<(code.length:Int))=false:=decide_eq_false (by omega)
 obtain ⟨n,l,c',n0,n1,hll,hlo,hcc,hdr⟩:=drawn_is hby false
 obtain ⟨hev,hlen⟩:=evDraw_ok (ho:=false) hlo hcc (by decide)
 obtain ⟨es,hes⟩:∃ es,(evDraw code n l false c').out=es:=⟨_,rfl⟩
 have hok:=hev.ok
 rw [hes] at hlen hok
 have hdr2:=hdr A c w hr
 rw [hes] at hdr2
 have HDR:=Aside0.mk hdr2
 have HLEN:=Aside0.mk hlen
 obtain ⟨hw1,hr1⟩:=drawn_text hlo hok hlen
 obtain ⟨tx,htx⟩:∃ tx:ByteArray,tx=bs (textB es):=⟨_,rfl⟩
 have HX:=Aside0.mk htx
 have SW:=Aside0.mk (show (⟨(writeE n l es).toArray⟩:ByteArray)=tx by rw [hw1,htx])
 have SR:=Aside0.mk hr1
 clear hbig hr hc hby hdr hdr2 hes hlo hcc hev hok hlen hll n0 n1 hw1 hr1 htx
 go_enter Tryd.func6,Tryd.ntmps6
 go_upto_region 4 with (first|(go_at_call 23;refine HDR.out.mono ?_;rintro e w1 ⟨Al,cl,v2,rfl,ho1,ho2,hb⟩;obtain ⟨Ae,ce,rfl⟩:=Kd.R_slice ho2;have RL:=Aside0.mk ho1;have RE:=Aside0.mk ho2;have B1:=Aside0.mk hb;clear ho1 ho2 hb)|((with_reducible refine gate_dst (N:=3) rfl ?_);refine box_event ?hg (N:=3) ?hd (cs:=#[.int .i64 0,.slice none 0 0]) (t:=31) ?hr ?_;(case hd=>rfl);(case hg=>rfl);(case hr=>first|(go_simp;done)|(go_simp;rfl));intro gl el wl kl bl;have EL:=Aside0.mk el;have KL:=Aside0.mk kl;have BL:=Aside0.mk bl;clear el kl bl;have kl0:wl.cell? ⟨gl,0,none⟩=some (.int .i64 0):=(blk_cell KL.out 0).trans rfl;have zkl0:=blk_frozen KL.out 0;have kl1:wl.cell? ⟨gl,1,none⟩=some (.slice none 0 0):=(blk_cell KL.out 1).trans rfl;have zkl1:=blk_frozen KL.out 1))
 have FX:=Aside0.mk (show Below w1.heap.size w1 ((wl.setCell ⟨gl,0,none⟩ (.int .i64 n)).setCell ⟨gl,1,none⟩ (.slice Al l.length cl))∧((wl.setCell ⟨gl,0,none⟩ (.int .i64 n)).setCell ⟨gl,1,none⟩ (.slice Al l.length cl)).heap[gl]?=some (.cells #[.int .i64 n,.slice Al l.length cl] 31 (0,0)) from ⟨below_set (j:=1) (below_set (j:=0) BL.out (Nat.le_of_eq EL.out.symm)) (Nat.le_of_eq EL.out.symm),blk_put (blk_put KL.out 0 (.int .i64 n) rfl) 1 (.slice Al l.length cl) rfl⟩)
 clear kl0 zkl0 kl1 zkl1 KL BL EL
 generalize ((wl.setCell ⟨gl,0,none⟩ (.int .i64 n)).setCell ⟨gl,1,none⟩ (.slice Al l.length cl))=w2 at FX ⊢
 have RL:=Aside0.mk (Kd.R_below RL.out FX.out.1)
 have RE:=Aside0.mk (Kd.R_below RE.out FX.out.1)
 have B1:=Aside0.mk (below_step B1.out FX.out.1)
 have KL:=Aside0.mk FX.out.2
 clear FX HDR
 have kl0:w2.cell? ⟨gl,0,none⟩=some (.int .i64 n):=(blk_cell KL.out 0).trans rfl;have kl1:w2.cell? ⟨gl,1,none⟩=some (.slice Al l.length cl):=(blk_cell KL.out 1).trans rfl
 go_upto_region 5 with (go_at_call 12;refine (iwrite_is n _ _ l _ _ es _ (Kd.R_reads' RL.out).2.2 (Kd.R_reads' RL.out).2.1 (Kd.R_reads' RE.out).2.2 (Kd.R_reads' RE.out).2.1 (HTX.out _ B1.out)).mono ?_;rintro e w3 ⟨rfl,hb⟩;rw [SW.out];have RL:=Aside0.mk (Kd.R_below RL.out hb);have RE:=Aside0.mk (Kd.R_below RE.out hb);have B1:=Aside0.mk (below_step B1.out hb);have KL:=Aside0.mk (blk_below KL.out hb);clear hb kl0 kl1;have kl0:w3.cell? ⟨gl,0,none⟩=some (.int .i64 n):=(blk_cell KL.out 0).trans rfl;have kl1:w3.cell? ⟨gl,1,none⟩=some (.slice Al l.length cl):=(blk_cell KL.out 1).trans rfl)
 go_upto_region 6 with (first|(go_at_call 16;refine (iread_is n _ _ l (textB es) tx HX.out _ (Kd.R_reads' RL.out).2.2 (Kd.R_reads' RL.out).2.1 (HTX.out _ B1.out)).mono ?_;rw [SR.out];rintro e w4 ⟨v4,rfl,ho,hb⟩;obtain ⟨Ah,ch,rfl⟩:=Kd.R_slice ho;have RH:=Aside0.mk ho;have RL:=Aside0.mk (Kd.R_below RL.out hb);have RE:=Aside0.mk (Kd.R_below RE.out hb);have B1:=Aside0.mk (below_step B1.out hb);have KL:=Aside0.mk (blk_below KL.out hb);clear ho hb kl0 kl1)|((with_reducible refine gate_dst (N:=6) rfl ?_);refine box_event ?hg (N:=6) ?hd (cs:=#[.int .i64 0,.int .i64 0,.slice none 0 0]) (t:=39) ?hr ?_;(case hd=>rfl);(case hg=>rfl);(case hr=>first|(go_simp;done)|(go_simp;rfl));intro gh eh wh kh bh;have EH:=Aside0.mk eh;have KH:=Aside0.mk kh;have BH:=Aside0.mk bh;clear eh kh bh;have kh0:wh.cell? ⟨gh,0,none⟩=some (.int .i64 0):=(blk_cell KH.out 0).trans rfl;have zkh0:=blk_frozen KH.out 0;have kh1:wh.cell? ⟨gh,1,none⟩=some (.int .i64 0):=(blk_cell KH.out 1).trans rfl;have zkh1:=blk_frozen KH.out 1;have kh2:wh.cell? ⟨gh,2,none⟩=some (.slice none 0 0):=(blk_cell KH.out 2).trans rfl;have zkh2:=blk_frozen KH.out 2))
 have FX:=Aside0.mk (fill3e (y0:=.int .i64 0) (y1:=.int .i64 0) (y2:=.slice Ah es.length ch) KH.out BH.out (Nat.le_of_eq EH.out.symm))
 clear kh0 zkh0 kh1 zkh1 kh2 zkh2 KH BH EH
 generalize (((wh.setCell ⟨gh,0,none⟩ (.int .i64 0)).setCell ⟨gh,1,none⟩ (.int .i64 0)).setCell ⟨gh,2,none⟩ (.slice Ah es.length ch))=w5 at FX ⊢
 have KH:=Aside0.mk FX.out.2
 have hb:=FX.out.1
 have RH:=Aside0.mk (Kd.R_below RH.out hb)
 have RL:=Aside0.mk (Kd.R_below RL.out hb);have RE:=Aside0.mk (Kd.R_below RE.out hb);have B1:=Aside0.mk (below_step B1.out hb);have KL:=Aside0.mk (blk_below KL.out hb)
 clear hb FX
 have hb:=below_drew1 (Below.refl w5.heap.size w5)
 have RL:=Aside0.mk (Kd.R_below RL.out hb);have RE:=Aside0.mk (Kd.R_below RE.out hb);have B1:=Aside0.mk (below_step B1.out hb);have KL:=Aside0.mk (blk_below KL.out hb);have RH:=Aside0.mk (Kd.R_below RH.out hb);have KH:=Aside0.mk (blk_below KH.out hb)
 clear hb
 have kl0:w5.drew.cell? ⟨gl,0,none⟩=some (.int .i64 n):=(blk_cell KL.out 0).trans rfl;have kl1:w5.drew.cell? ⟨gl,1,none⟩=some (.slice Al l.length cl):=(blk_cell KL.out 1).trans rfl
 have kh0:w5.drew.cell? ⟨gh,0,none⟩=some (.int .i64 0):=(blk_cell KH.out 0).trans rfl
 have kh2:w5.drew.cell? ⟨gh,2,none⟩=some (.slice Ah es.length ch):=(blk_cell KH.out 2).trans rfl
 refine start_ (n:=26) (S:=fun w'=>w'.cell? ⟨gl,0,none⟩=some (.int .i64 n)∧w'.cell? ⟨gl,1,none⟩=some (.slice Al l.length cl)∧w'.cell? ⟨gh,0,none⟩=some (.int .i64 0)∧w'.cell? ⟨gh,2,none⟩=some (.slice Ah es.length ch)) (ds:=[]) #[false,false,false,false,false,false,false,false,false,false,false,false,false,false,false,false,false,false,false,false,false,false,false,false,false,false] (by kernel_rfl) rfl rfl ⟨kl0,kl1,kh0,kh2⟩ (fun hHeld=>?_)
 refine with_tabW tx_tab6 tx_bits6 (fun HT_ HW_=>?_)
 clear kl0 kl1 kh0 kh2
 generalize w5.drew=w95 at RL RE RH B1 KL KH hHeld ⊢
 refine pure_ (i:=0) (N:=some 21) (v:=?_) (a':=?_) #[true,false,false,false,false,false,false,false,false,false,false,false,false,false,false,false,false,false,false,false,false,false,false,false,false,false] rfl rfl (any_of HT_.out (by kernel_rfl)) (fun _ _ _ h=>h) (Or.inl ⟨by rfl,?_⟩) ?_ ?_
 rotate_left
 ·intro w'
  go_simp
  with_reducible rfl
 rotate_left
 ·simp only [Act.put,List.setIfInBounds_toArray,List.set_cons_zero,List.set_cons_succ,i64_w,i32_w]
  rfl
 refine take_ (i:=1) (N:=some 22) (v:=?_) (a':=?_) #[true,true,false,false,false,false,false,false,false,false,false,false,false,false,false,false,false,false,false,false,false,false,false,false,false,false] rfl rfl (take_ofW HT_.out HW_.out (by kernel_rfl)) (fun _ _ _ h=>h) (Or.inl ⟨by rfl,?_⟩) hHeld ?_ ?_
 rotate_left
 ·rintro w' ⟨s0,s1,s2,s3⟩
  go_simp
  with_reducible rfl
 rotate_left
 ·simp only [Act.put,List.setIfInBounds_toArray,List.set_cons_zero,List.set_cons_succ,i64_w,i32_w]
  rfl
 refine pure_ (i:=2) (N:=some 23) (v:=?_) (a':=?_) #[true,true,true,false,false,false,false,false,false,false,false,false,false,false,false,false,false,false,false,false,false,false,false,false,false,false] rfl rfl (any_of HT_.out (by kernel_rfl)) (fun _ _ _ h=>h) (Or.inl ⟨by rfl,?_⟩) ?_ ?_
 rotate_left
 ·intro w'
  go_simp
  with_reducible rfl
 rotate_left
 ·simp only [Act.put,List.setIfInBounds_toArray,List.set_cons_zero,List.set_cons_succ,i64_w,i32_w]
  rfl
 refine one_ (i:=3) (N:=some 24) #[true,true,true,true,false,false,false,false,false,false,false,false,false,false,false,false,false,false,false,false,false,false,false,false,false,false] rfl rfl (one_of HT_.out (by kernel_rfl)) (by decide) (fun K hK=>?_)
 refine goes_ Tryd.func9 (by kernel_rfl) rfl #[.agg #[.int .i64 n,.slice Al l.length cl],.slice Ae es.length ce] (by rfl) rfl rfl (by (try simp only [List.map_toArray,List.map_cons,List.map_nil]);first|done|rfl|(simp only [List.length_drop,List.length_take];rfl)) ?_
 ((with_reducible refine (swrite_is n _ _ l _ _ es _ (Kd.R_reads' RL.out).2.2 (Kd.R_reads' RL.out).2.1 (Kd.R_reads' RE.out).2.2 (Kd.R_reads' RE.out).2.1).mono ?_);rintro e w' ⟨rfl,hb⟩);rw [SW.out]
 refine ⟨_,rfl,?_⟩
 have RL:=Aside0.mk (Kd.R_below RL.out hb);have RE:=Aside0.mk (Kd.R_below RE.out hb);have B1:=Aside0.mk (below_step B1.out hb);have KL:=Aside0.mk (blk_below KL.out hb);have RH:=Aside0.mk (Kd.R_below RH.out hb);have KH:=Aside0.mk (blk_below KH.out hb)
 refine hK.out _ _ ⟨pw_cell_below hb hHeld.1,pw_cell_below hb hHeld.2.1,pw_cell_below hb hHeld.2.2.1,pw_cell_below hb hHeld.2.2.2⟩ (fun hHeld=>?_)
 clear hb hK K
 refine norm_ (a':=?_) ?_ ?_
 rotate_left
 ·show Act.put _ (some 24) _=_
  simp only [Act.put,List.setIfInBounds_toArray,List.set_cons_zero,List.set_cons_succ,i64_w,i32_w]
  rfl
 refine pure_ (i:=4) (N:=some 25) (v:=?_) (a':=?_) #[true,true,true,true,true,false,false,false,false,false,false,false,false,false,false,false,false,false,false,false,false,false,false,false,false,false] rfl rfl (any_of HT_.out (by kernel_rfl)) (fun _ _ _ h=>h) (Or.inl ⟨by rfl,?_⟩) ?_ ?_
 rotate_left
 ·intro w'
  go_simp
  with_reducible rfl
 rotate_left
 ·simp only [Act.put,List.setIfInBounds_toArray,List.set_cons_zero,List.set_cons_succ,i64_w,i32_w]
  rfl
 refine pure_ (i:=5) (N:=some 26) (v:=?_) (a':=?_) #[true,true,true,true,true,true,false,false,false,false,false,false,false,false,false,false,false,false,false,false,false,false,false,false,false,false] rfl rfl (any_of HT_.out (by kernel_rfl)) (fun _ _ _ h=>h) (Or.inl ⟨by rfl,?_⟩) ?_ ?_
 rotate_left
 ·intro w'
  go_simp
  with_reducible rfl
 rotate_left
 ·simp only [Act.put,List.setIfInBounds_toArray,List.set_cons_zero,List.set_cons_succ,i64_w,i32_w]
  rfl
 refine pure_ (i:=6) (N:=some 27) (v:=?_) (a':=?_) #[true,true,true,true,true,true,true,false,false,false,false,false,false,false,false,false,false,false,false,false,false,false,false,false,false,false] rfl rfl (any_of HT_.out (by kernel_rfl)) (fun _ _ _ h=>h) (Or.inl ⟨by rfl,?_⟩) ?_ ?_
 rotate_left
 ·intro w'
  go_simp
  with_reducible rfl
 rotate_left
 ·simp only [Act.put,List.setIfInBounds_toArray,List.set_cons_zero,List.set_cons_succ,i64_w,i32_w]
  rfl
 refine take_ (i:=7) (N:=some 28) (v:=?_) (a':=?_) #[true,true,true,true,true,true,true,true,false,false,false,false,false,false,false,false,false,false,false,false,false,false,false,false,false,false] rfl rfl (take_ofW HT_.out HW_.out (by kernel_rfl)) (fun _ _ _ h=>h) (Or.inl ⟨by rfl,?_⟩) hHeld ?_ ?_
 rotate_left
 ·rintro w' ⟨s0,s1,s2,s3⟩
  go_simp
  with_reducible rfl
 rotate_left
 ·simp only [Act.put,List.setIfInBounds_toArray,List.set_cons_zero,List.set_cons_succ,i64_w,i32_w]
  rfl
 refine pure_ (i:=8) (N:=some 29) (v:=?_) (a':=?_) #[true,true,true,true,true,true,true,true,true,false,false,false,false,false,false,false,false,false,false,false,false,false,false,false,false,false] rfl rfl (any_of HT_.out (by kernel_rfl)) (fun _ _ _ h=>h) (Or.inl ⟨by rfl,?_⟩) ?_ ?_
 rotate_left
 ·intro w'
  go_simp
  with_reducible rfl
 rotate_left
 ·simp only [Act.put,List.setIfInBounds_toArray,List.set_cons_zero,List.set_cons_succ,i64_w,i32_w]
  rfl
 refine pure_ (i:=9) (N:=some 30) (v:=?_) (a':=?_) #[true,true,true,true,true,true,true,true,true,true,false,false,false,false,false,false,false,false,false,false,false,false,false,false,false,false] rfl rfl (any_of HT_.out (by kernel_rfl)) (fun _ _ _ h=>h) (Or.inl ⟨by rfl,?_⟩) ?_ ?_
 rotate_left
 ·intro w'
  go_simp
  with_reducible rfl
 rotate_left
 ·simp only [Act.put,List.setIfInBounds_toArray,List.set_cons_zero,List.set_cons_succ,i64_w,i32_w]
  rfl
 refine pure_ (i:=10) (N:=some 31) (v:=?_) (a':=?_) #[true,true,true,true,true,true,true,true,true,true,true,false,false,false,false,false,false,false,false,false,false,false,false,false,false,false] rfl rfl (any_of HT_.out (by kernel_rfl)) (fun _ _ _ h=>h) (Or.inl ⟨by rfl,?_⟩) ?_ ?_
 rotate_left
 ·intro w'
  go_simp
  with_reducible rfl
 rotate_left
 ·simp only [Act.put,List.setIfInBounds_toArray,List.set_cons_zero,List.set_cons_succ,i64_w,i32_w]
  rfl
 refine pure_ (i:=11) (N:=some 32) (v:=?_) (a':=?_) #[true,true,true,true,true,true,true,true,true,true,true,true,false,false,false,false,false,false,false,false,false,false,false,false,false,false] rfl rfl (any_of HT_.out (by kernel_rfl)) (fun _ _ _ h=>h) (Or.inl ⟨by rfl,?_⟩) ?_ ?_
 rotate_left
 ·intro w'
  go_simp
  with_reducible rfl
 rotate_left
 ·simp only [Act.put,List.setIfInBounds_toArray,List.set_cons_zero,List.set_cons_succ,i64_w,i32_w]
  rfl
 refine take_ (i:=12) (N:=some 33) (v:=?_) (a':=?_) #[true,true,true,true,true,true,true,true,true,true,true,true,true,false,false,false,false,false,false,false,false,false,false,false,false,false] rfl rfl (take_ofW HT_.out HW_.out (by kernel_rfl)) (fun _ _ _ h=>h) (Or.inl ⟨by rfl,?_⟩) hHeld ?_ ?_
 rotate_left
 ·rintro w' ⟨s0,s1,s2,s3⟩
  go_simp
  with_reducible rfl
 rotate_left
 ·simp only [Act.put,List.setIfInBounds_toArray,List.set_cons_zero,List.set_cons_succ,i64_w,i32_w]
  rfl
 refine pure_ (i:=13) (N:=some 34) (v:=?_) (a':=?_) #[true,true,true,true,true,true,true,true,true,true,true,true,true,true,false,false,false,false,false,false,false,false,false,false,false,false] rfl rfl (any_of HT_.out (by kernel_rfl)) (fun _ _ _ h=>h) (Or.inl ⟨by rfl,?_⟩) ?_ ?_
 rotate_left
 ·intro w'
  go_simp
  with_reducible rfl
 rotate_left
 ·simp only [Act.put,List.setIfInBounds_toArray,List.set_cons_zero,List.set_cons_succ,i64_w,i32_w]
  rfl
 refine one_ (i:=14) (N:=some 35) #[true,true,true,true,true,true,true,true,true,true,true,true,true,true,true,false,false,false,false,false,false,false,false,false,false,false] rfl rfl (one_of HT_.out (by kernel_rfl)) (by decide) (fun K hK=>?_)
 refine goes_ Tryd.func24 (by kernel_rfl) rfl #[.slice Ah es.length ch,.slice Ae es.length ce] (by rfl) rfl rfl (by (try simp only [List.map_toArray,List.map_cons,List.map_nil]);first|done|rfl|(simp only [List.length_drop,List.length_take];rfl)) ?_
 ((with_reducible refine (wEvents_is (by have:=HLEN.out;omega) (Kd.R_reads' RH.out).2.2 (Kd.R_reads' RH.out).2.1 (Kd.R_reads' RE.out).2.2 (Kd.R_reads' RE.out).2.1).mono ?_);rintro e w' ⟨rfl,hb⟩)
 refine ⟨_,rfl,?_⟩
 have RL:=Aside0.mk (Kd.R_below RL.out hb);have RE:=Aside0.mk (Kd.R_below RE.out hb);have B1:=Aside0.mk (below_step B1.out hb);have KL:=Aside0.mk (blk_below KL.out hb);have RH:=Aside0.mk (Kd.R_below RH.out hb);have KH:=Aside0.mk (blk_below KH.out hb)
 refine hK.out _ _ ⟨pw_cell_below hb hHeld.1,pw_cell_below hb hHeld.2.1,pw_cell_below hb hHeld.2.2.1,pw_cell_below hb hHeld.2.2.2⟩ (fun hHeld=>?_)
 clear hb hK K
 refine norm_ (a':=?_) ?_ ?_
 rotate_left
 ·show Act.put _ (some 35) _=_
  simp only [Act.put,List.setIfInBounds_toArray,List.set_cons_zero,List.set_cons_succ,i64_w,i32_w]
  rfl
 refine pure_ (i:=15) (N:=some 36) (v:=?_) (a':=?_) #[true,true,true,true,true,true,true,true,true,true,true,true,true,true,true,true,false,false,false,false,false,false,false,false,false,false] rfl rfl (any_of HT_.out (by kernel_rfl)) (fun _ _ _ h=>h) (Or.inl ⟨by rfl,?_⟩) ?_ ?_
 rotate_left
 ·intro w'
  go_simp
  with_reducible rfl
 rotate_left
 ·simp only [Act.put,List.setIfInBounds_toArray,List.set_cons_zero,List.set_cons_succ,i64_w,i32_w]
  rfl
 refine pure_ (i:=16) (N:=some 37) (v:=?_) (a':=?_) #[true,true,true,true,true,true,true,true,true,true,true,true,true,true,true,true,true,false,false,false,false,false,false,false,false,false] rfl rfl (any_of HT_.out (by kernel_rfl)) (fun _ _ _ h=>h) (Or.inl ⟨by rfl,?_⟩) ?_ ?_
 rotate_left
 ·intro w'
  go_simp
  with_reducible rfl
 rotate_left
 ·simp only [Act.put,List.setIfInBounds_toArray,List.set_cons_zero,List.set_cons_succ,i64_w,i32_w]
  rfl
 refine take_ (i:=17) (N:=some 38) (v:=?_) (a':=?_) #[true,true,true,true,true,true,true,true,true,true,true,true,true,true,true,true,true,true,false,false,false,false,false,false,false,false] rfl rfl (take_ofW HT_.out HW_.out (by kernel_rfl)) (fun _ _ _ h=>h) (Or.inl ⟨by rfl,?_⟩) hHeld ?_ ?_
 rotate_left
 ·rintro w' ⟨s0,s1,s2,s3⟩
  go_simp
  with_reducible rfl
 rotate_left
 ·simp only [Act.put,List.setIfInBounds_toArray,List.set_cons_zero,List.set_cons_succ,i64_w,i32_w]
  rfl
 refine pure_ (i:=18) (N:=some 39) (v:=?_) (a':=?_) #[true,true,true,true,true,true,true,true,true,true,true,true,true,true,true,true,true,true,true,false,false,false,false,false,false,false] rfl rfl (any_of HT_.out (by kernel_rfl)) (fun _ _ _ h=>h) (Or.inl ⟨by rfl,?_⟩) ?_ ?_
 rotate_left
 ·intro w'
  go_simp
  with_reducible rfl
 rotate_left
 ·simp only [Act.put,List.setIfInBounds_toArray,List.set_cons_zero,List.set_cons_succ,i64_w,i32_w]
  rfl
 refine take_ (i:=20) (N:=some 41) (v:=?_) (a':=?_) #[true,true,true,true,true,true,true,true,true,true,true,true,true,true,true,true,true,true,true,false,true,false,false,false,false,false] rfl rfl (take_ofW HT_.out HW_.out (by kernel_rfl)) (fun _ _ _ h=>h) (Or.inl ⟨by rfl,?_⟩) hHeld ?_ ?_
 rotate_left
 ·rintro w' ⟨s0,s1,s2,s3⟩
  go_simp
  with_reducible rfl
 rotate_left
 ·simp only [Act.put,List.setIfInBounds_toArray,List.set_cons_zero,List.set_cons_succ,i64_w,i32_w]
  rfl
 refine pure_ (i:=21) (N:=some 42) (v:=?_) (a':=?_) #[true,true,true,true,true,true,true,true,true,true,true,true,true,true,true,true,true,true,true,false,true,true,false,false,false,false] rfl rfl (any_of HT_.out (by kernel_rfl)) (fun _ _ _ h=>h) (Or.inl ⟨by rfl,?_⟩) ?_ ?_
 rotate_left
 ·intro w'
  go_simp
  with_reducible rfl
 rotate_left
 ·simp only [Act.put,List.setIfInBounds_toArray,List.set_cons_zero,List.set_cons_succ,i64_w,i32_w]
  rfl
 refine one_ (i:=19) (N:=some 40) #[true,true,true,true,true,true,true,true,true,true,true,true,true,true,true,true,true,true,true,true,true,true,false,false,false,false] rfl rfl (one_of HT_.out (by kernel_rfl)) (by decide) (fun K hK=>?_)
 refine goes_ Tryd.func22 (by kernel_rfl) rfl #[.agg #[.int .i64 n,.slice Al l.length cl],.string tx] (by rfl) rfl rfl (by (try simp only [List.map_toArray,List.map_cons,List.map_nil]);first|done|rfl|(simp only [List.length_drop,List.length_take];rfl)) ?_
 ((with_reducible refine (ians_is n _ _ l (textB es) tx HX.out _ (Kd.R_reads' RL.out).2.2 (Kd.R_reads' RL.out).2.1 (HTX.out _ B1.out)).mono ?_);rintro e w' ⟨rfl,hb⟩)
 refine ⟨_,rfl,?_⟩
 have RL:=Aside0.mk (Kd.R_below RL.out hb);have RE:=Aside0.mk (Kd.R_below RE.out hb);have B1:=Aside0.mk (below_step B1.out hb);have KL:=Aside0.mk (blk_below KL.out hb);have RH:=Aside0.mk (Kd.R_below RH.out hb);have KH:=Aside0.mk (blk_below KH.out hb)
 refine hK.out _ _ ⟨pw_cell_below hb hHeld.1,pw_cell_below hb hHeld.2.1,pw_cell_below hb hHeld.2.2.1,pw_cell_below hb hHeld.2.2.2⟩ (fun hHeld=>?_)
 clear hb hK K
 refine norm_ (a':=?_) ?_ ?_
 rotate_left
 ·show Act.put _ (some 40) _=_
  simp only [Act.put,List.setIfInBounds_toArray,List.set_cons_zero,List.set_cons_succ,i64_w,i32_w]
  rfl
 refine one_ (i:=22) (N:=some 43) #[true,true,true,true,true,true,true,true,true,true,true,true,true,true,true,true,true,true,true,true,true,true,true,false,false,false] rfl rfl (one_of HT_.out (by kernel_rfl)) (by decide) (fun K hK=>?_)
 refine goes_ Tryd.func21 (by kernel_rfl) rfl #[.agg #[.int .i64 n,.slice Al l.length cl],.string tx] (by rfl) rfl rfl (by (try simp only [List.map_toArray,List.map_cons,List.map_nil]);first|done|rfl|(simp only [List.length_drop,List.length_take];rfl)) ?_
 ((with_reducible refine (sans_is n _ _ l (textB es) tx HX.out _ (Kd.R_reads' RL.out).2.2 (Kd.R_reads' RL.out).2.1).mono ?_);rintro e w' ⟨rfl,hb⟩)
 refine ⟨_,rfl,?_⟩
 have RL:=Aside0.mk (Kd.R_below RL.out hb);have RE:=Aside0.mk (Kd.R_below RE.out hb);have B1:=Aside0.mk (below_step B1.out hb);have KL:=Aside0.mk (blk_below KL.out hb);have RH:=Aside0.mk (Kd.R_below RH.out hb);have KH:=Aside0.mk (blk_below KH.out hb)
 refine hK.out _ _ ⟨pw_cell_below hb hHeld.1,pw_cell_below hb hHeld.2.1,pw_cell_below hb hHeld.2.2.1,pw_cell_below hb hHeld.2.2.2⟩ (fun hHeld=>?_)
 clear hb hK K
 refine norm_ (a':=?_) ?_ ?_
 rotate_left
 ·show Act.put _ (some 43) _=_
  simp only [Act.put,List.setIfInBounds_toArray,List.set_cons_zero,List.set_cons_succ,i64_w,i32_w]
  rfl
 refine pure_ (i:=23) (N:=some 44) (v:=?_) (a':=?_) #[true,true,true,true,true,true,true,true,true,true,true,true,true,true,true,true,true,true,true,true,true,true,true,true,false,false] rfl rfl (any_of HT_.out (by kernel_rfl)) (fun _ _ _ h=>h) (Or.inl ⟨by rfl,?_⟩) ?_ ?_
 rotate_left
 ·intro w'
  go_simp
  with_reducible rfl
 rotate_left
 ·simp only [Act.put,List.setIfInBounds_toArray,List.set_cons_zero,List.set_cons_succ,i64_w,i32_w]
  rfl
 refine pure_ (i:=24) (N:=some 45) (v:=?_) (a':=?_) #[true,true,true,true,true,true,true,true,true,true,true,true,true,true,true,true,true,true,true,true,true,true,true,true,true,false] rfl rfl (any_of HT_.out (by kernel_rfl)) (fun _ _ _ h=>h) (Or.inl ⟨by rfl,?_⟩) ?_ ?_
 rotate_left
 ·intro w'
  go_simp
  with_reducible rfl
 rotate_left
 ·simp only [Act.put,List.setIfInBounds_toArray,List.set_cons_zero,List.set_cons_succ,i64_w,i32_w]
  rfl
 refine pure_ (i:=25) (N:=some 2) (v:=?_) (a':=?_) #[true,true,true,true,true,true,true,true,true,true,true,true,true,true,true,true,true,true,true,true,true,true,true,true,true,true] rfl rfl (any_of HT_.out (by kernel_rfl)) (fun _ _ _ h=>h) (Or.inl ⟨by rfl,?_⟩) ?_ ?_
 rotate_left
 ·intro w'
  go_simp
  with_reducible rfl
 rotate_left
 ·simp only [Act.put,List.setIfInBounds_toArray,List.set_cons_zero,List.set_cons_succ,i64_w,i32_w]
  rfl
 refine done_ (done_of HT_.out (by kernel_rfl)) ?_
 clear hHeld HT_ HW_
 go_wp2_with fail
 go_ret
 exact ⟨rfl,B1.out⟩
end Go.Proofs.YtpdnabhpkdchjaaDoor.P
namespace Go.Proofs.YtpdnabhpkdchjaaDoor.P
open Go Go.RowKit Go.ChangeShapes Go.WideShapes Go.ChangeAt Go.WideElems
set_option linter.unusedVariables false
def laidL : List (String × DataW Unit) := [("math/bits.deBruijn32tab", Rows.laid_math_bits_deBruijn32tab), ("math/bits.deBruijn64tab", Rows.laid_math_bits_deBruijn64tab), ("internal/strconv.uint64pow10", Rows.laid_internal_strconv_uint64pow10), ("loop.example/treadle/impl.names", Rows.laid_loop_example_treadle_impl_names)]
theorem gNames : Tryd.prog.globalNamed "loop.example/treadle/impl.names" = some 0 := by kernel_rfl
theorem gPow : Tryd.prog.globalNamed "internal/strconv.uint64pow10" = some 2 := by kernel_rfl
theorem tNames : (Tryd.prog.globals[0]?).map (·.type) = some 77 := by kernel_rfl
theorem tPow : (Tryd.prog.globals[2]?).map (·.type) = some 132 := by kernel_rfl
theorem pow_data {H : Type} : (Rows.laid_internal_strconv_uint64pow10 : DataW H) = Lib.tabData .u64 Lib.pow10Tab := by kernel_rfl
theorem tabs_of_laid {W : World} (h : laidMetH Tryd.prog laidL W) : ∃ T tc, Tabs T tc W := by
  rw [MakeChecks.laidMetH_plain _ _ _ (by kernel_rfl)] at h
  have h2 := laidMet.tail (laidMet.tail h)
  have hT : Lib.TabIs Tryd.prog W "internal/strconv.uint64pow10" .u64 Lib.pow10Tab := by
    rw [pow_data] at h2
    exact Lib.tabIs_of_head gPow tPow Tryd.underlying132 Tryd.underlying90 (by kernel_rfl) (by kernel_rfl) h2
  obtain ⟨ps, ⟨g, t, cs, fuel, p, q, hg, ht, hv, hd, _, _⟩, _, hrows⟩ := laidMet.tail h2
  obtain rfl := Option.some.inj (gNames.symm.trans hg)
  obtain rfl := Option.some.inj (tNames.symm.trans ht)
  obtain ⟨a, cap, hcs, hcap, hel⟩ := open_row Tryd.underlying77 (by kernel_rfl) hd
  have hn := World.var?_cell gNames hv 0
  rw [Array.eq_one_of_toList hcs] at hn
  refine ⟨a, cap, by simpa using hn, fun i hi => ?_, hT⟩
  have key : ∀ l : List UInt8, ([DataW.lit (H := Unit) (.string []), .lit (.string [112, 97, 115, 115]), .lit (.string [103, 104, 111, 115, 116]), .lit (.string [100, 101, 97, 100]), .lit (.string [97, 108, 105, 118, 101]), .lit (.string [114, 101, 115, 101, 116])])[i]? = some (.lit (.string l)) → W.cell? (a.add i) = some (.string ⟨l.toArray⟩) := by
    intro l hl
    obtain ⟨v, n, q, hc, hr⟩ := hel i _ hl
    obtain ⟨s, hs, hx, _⟩ := DataW.trod_string Tryd.underlying9 hr
    obtain rfl : v = .string s := by simpa using hs
    rw [hc]
    have e : l = s.data.toList := by simpa using congrArg Prod.fst hx
    rw [e]
  apply key
  match i, hi with
  | 0, _ => rfl
  | 1, _ => rfl
  | 2, _ => rfl
  | 3, _ => rfl
  | 4, _ => rfl
  | 5, _ => rfl
theorem names_back {H : Type} {enc : TypeId × Value → H} {W W' : World} (hb : Below W.heap.size W W') {gs : List (DataW H)} {ps : List MemPlace} (h : DataW.TrodVars enc Tryd.prog W (fun _ => true) ["loop.example/treadle/impl.names"] gs ps) :
    ∃ pv, DataW.TrodVars enc Tryd.prog W' (fun b => decide (b < W.heap.size)) ["loop.example/treadle/impl.names"] gs pv := by
  have hlt := h.lt
  obtain ⟨g, t, cs, fuel, d, p, rfl, h1, h2, h3, h4, e⟩ := trodVars_one h
  obtain rfl := Option.some.inj (gNames.symm.trans h1)
  obtain rfl := Option.some.inj (tNames.symm.trans h2)
  have hp : ∀ x ∈ p, x.block < W.heap.size := fun x hx => hlt x (by rw [e]; exact List.mem_append_right _ hx)
  have h3' : W'.var? Tryd.prog "loop.example/treadle/impl.names" = some cs := by
    unfold World.var? at h3 ⊢
    rw [h1] at h3 ⊢
    simp only [Option.bind_some] at h3 ⊢
    have hg : 0 < W.heap.size := by
      cases hh : W.heap[0]? with
      | none => rw [hh] at h3; cases h3
      | some o => exact (Array.getElem?_eq_some_iff.1 hh).1
    rw [hb.block 0 hg]
    exact h3
  exact ⟨_, trodVars_mk1 h1 h2 h3' (DataW.trod_stays (kids_book Facts.laidOut (by kernel_rfl)) (book_sized (by kernel_rfl)) (fun h => by cases h) ⟨of_decide_eq_true (by kernel_rfl), book_self _⟩ h4 (fun x hx => hb.same (hp x hx)) (fun x hx => by simpa using hp x hx))⟩
theorem door_met (os : Os) (args : Array Value) : laidMetH Tryd.prog laidL ((World.doorLaid Tryd.prog 4000 os).forCall (fun _ _ => 0) ⟨#[], args, []⟩).memory :=
  laidMetH_of_parts3 (fuel := 8) (laidMet_of_run' 8 (by kernel_rfl) (by kernel_rfl)) (by kernel_rfl) (by kernel_rfl)
end Go.Proofs.YtpdnabhpkdchjaaDoor.P
namespace Go.Proofs.YtpdnabhpkdchjaaDoor.Open
open Go.RowKit Go.Proofs.YtpdnabhpkdchjaaDoorW.PrintWords Go.Proofs.YtpdnabhpkdchjaaDoorW.PrintLast Go.Proofs.YtpdnabhpkdchjaaDoorW.PrintMore
open Go.ChangeShapes Go.WideShapes Go.ChangeAt P
set_option maxRecDepth 100000
set_option linter.unusedVariables false
def kB : Kd {x : Int // 0 ≤ x ∧ x < 256} := Kd.iso (Kd.int .u8) Subtype.val
theorem wf_u8 {n : Int} (h : (Lit.int .u8 n).wf = true) : 0 ≤ n ∧ n < 256 := by
  have e1 : IntKind.u8.min = 0 := rfl
  have e2 : IntKind.u8.max = 255 := rfl
  simp [Lit.wf, e1, e2] at h
  omega
theorem oB : Opens Tryd.prog 5 kB := by
  intro H enc w base spare held fuel cs x h
  obtain ⟨n, rfl, _, hw⟩ := DataW.trod_int Tryd.underlying5 h
  exact ⟨⟨n, wf_u8 hw⟩, rfl⟩
theorem oBs : Opens Tryd.prog 46 (Kd.slice 5 kB) := opens_slice Tryd.underlying46 (by kernel_rfl) oB
theorem C_map {α β : Type} {d : Kd α} {f : β → α} {w : World} {A : Option Addr} {n : Nat} {xs : List β} (h : Kd.C (Kd.iso d f) w A n xs) : Kd.C d w A n (xs.map f) := by
  obtain ⟨h1, h2, h3⟩ := h
  refine ⟨by simpa using h1, h2, fun hn => ?_⟩
  obtain ⟨ad, e, hc⟩ := h3 hn
  refine ⟨ad, e, fun j p hp => ?_⟩
  rw [List.getElem?_map, Option.map_eq_some_iff] at hp
  obtain ⟨q, hq, rfl⟩ := hp
  exact hc j q hq
section
variable {H : Type} {enc : TypeId × Value → H} {W : World} {base b0 : Nat} {spare : Nat → Bool} {held : Bool} {v : Value} {x : DataW H} {ps : List MemPlace} {r : Reach}
theorem arg_bytes (hv : Value.okWide Tryd.prog W r b0 46 v) (h : DataW.Trod enc Tryd.prog W base spare held 46 v x ps) :
    ∃ A c l, v = .slice A l.length c ∧ Kd.C (Kd.int .u8) W A l.length l ∧ l.length ≤ c ∧ ∀ x ∈ l, 0 ≤ x ∧ x < 256 := by
  obtain ⟨A, c, l, e, h1, h2⟩ := arg_slice Tryd.underlying46 oBs hv h
  refine ⟨A, c, l.map Subtype.val, by rw [e, List.length_map], by rw [List.length_map]; exact C_map h1, by rw [List.length_map]; exact h2, fun x hx => ?_⟩
  obtain ⟨y, _, rfl⟩ := List.mem_map.1 hx
  exact y.2
end
end Go.Proofs.YtpdnabhpkdchjaaDoor.Open
namespace Go.Proofs.YtpdnabhpkdchjaaDoor.fnText
open Go.ChangeShapes Go.WideShapes Go.ChangeAt Go.RowKit Go.Proofs.YtpdnabhpkdchjaaDoor.Open Go.Proofs.YtpdnabhpkdchjaaDoor.P
set_option linter.unusedVariables false
set_option maxRecDepth 100000 in
theorem lifted (os : Os) (started : os.Started) (H : Type) (enc : TypeId × Value → H) :
    ReturnsInHanded {} Tryd.checked os 6 .any (fun w args => (Rows.fnTextSpec.pre enc Tryd.prog Tryd.f6 [] false w args ∧ laidMetH Tryd.prog laidL w) ∧ sizedMet enc Tryd.prog Tryd.f6 (OpenSpec.ofChange Rows.fnTextSpec) false w args) (Rows.fnTextSpec.post enc Tryd.prog Tryd.f6 false true false false) := by
  refine returnsInHanded_of_change_and (C := Tryd.checked) (X := fun w _ => laidMetH Tryd.prog laidL w) (fun _ _ _ hh h => h.of_heap hh) Facts.own started (by kernel_rfl) Tryd.func6
    (ChangeSpec.witness_shaped (enc := enc) (C := Tryd.checked) (os := os) (X := fun w _ => laidMetH Tryd.prog laidL w) false (World.doorLaid Tryd.prog 4000 os) #[.slice none 0 0] 8 rfl (World.shaped_of_RefB (by kernel_rfl) (by kernel_rfl)) (by kernel_rfl) (by kernel_rfl) (by kernel_rfl) (door_met os _)) ?_
  intro W base args ds gs before hval0 hW hcnd hsz0 hL _
  have hval : ∀ (j : Nat) t v, Tryd.f6.params[j]? = some t → args[j]? = some v → Value.okWide Tryd.prog W .any base t v := hval0
  have hW' := hW
  obtain ⟨p, q, hA0, hV, rfl, hfz, hnd⟩ := hW
  obtain ⟨g, gt, gcs, gf, dg, gp, rfl, hg1, hg2, hg3, hg4, hg5⟩ := trodVars_one hV
  have hA : DataW.TrodAll enc Tryd.prog W 0 (fun _ => true) true Tryd.f6.params.toList args.toList ds p := hA0
  rw [Tryd.params6] at hA hval
  obtain ⟨v0, vs0, d0, ds0, p0, q0, hargs, rfl, rfl, h0, r0⟩ := trodAll_cons hA
  obtain ⟨rfl, rfl, rfl⟩ := trodAll_nil r0
  obtain rfl : args = #[v0] := by cases args; simp_all
  obtain ⟨T, tc, hT⟩ := tabs_of_laid hL
  have k0 := h0
  have lt0 : ∀ x ∈ p0, x.block < W.heap.size := by obtain ⟨m, hm⟩ := k0; exact DataW.trod_lt m _ _ _ hm
  obtain ⟨A0, c0, l0, rfl, hr0, hc0, hb0⟩ := arg_bytes (hval 0 46 v0 rfl rfl) h0
  clear hA0 hval0 hsz0
  refine (P.text_walk A0 c0 l0 W hT hr0 hc0 hb0).mono fun e W' ⟨he, bel⟩ => ?_
  subst he
  obtain ⟨pv, hpv⟩ := names_back bel hV
  exact ⟨_, rfl, _, _, _, [], _, _, hW', trodAll_mk1 (shut_bool Tryd.underlying4 _), (trodAll_cons_mk (Below.trod Facts.laidOut (by kernel_rfl) (of_decide_eq_true (by kernel_rfl)) k0 bel lt0) trodAll_mk0), hpv, bel.frame _, fun h => by cases h⟩
theorem k10 : (Rows.fnTextRow.inPlace == Tryd.prog.inPlace 6) = true := by kernel_rfl
theorem k11 : (Rows.fnTextRow.unfollowed == Tryd.prog.unfollowed 6) = true := by kernel_rfl
theorem k12 : (Rows.fnTextRow.recurses == Tryd.prog.recurses 6) = true := by kernel_rfl
theorem k13 : (Rows.fnTextRow.named == Tryd.prog.varsNamed 6) = true := by kernel_rfl
theorem over : Rows.fnTextRow.holds Tryd.pinned (OpenSpec.ofChange Rows.fnTextSpec) :=
  OpenClaim.holds_of_wide 6 Tryd.f6 rfl rfl rfl rfl rfl rfl rfl ⟨rfl, rfl, rfl, rfl, rfl⟩ rfl rfl rfl rfl rfl (by kernel_rfl) Tryd.func6
    (joined_of 6 Tryd.f6 Rows.fnTextSpec Rows.fnTextRow (by kernel_rfl) (by kernel_rfl) (by kernel_rfl) rfl rfl Facts.stopKnobs k10 k11 k12 k13 (by kernel_rfl) (by kernel_rfl) (by kernel_rfl) (by kernel_rfl) (by kernel_rfl) (by kernel_rfl) (by kernel_rfl) (by kernel_rfl) (by kernel_rfl) rfl rfl rfl rfl rfl rfl (by kernel_rfl) (by kernel_rfl) (by kernel_rfl))
    (of_decide_eq_true (by kernel_rfl)) (by unfold Func.isWrapper; rw [if_neg (by decide +kernel)]; exact ⟨rfl, rfl⟩)
    (fun os started H enc _ => lifted os started H enc)
theorem proved : Rows.FnTextSaid := over
end Go.Proofs.YtpdnabhpkdchjaaDoor.fnText
namespace Go.Proofs.YtpdnabhpkdchjaaDoor
theorem fnTextCard_holds : Rows.FnTextCardSaid :=
  Claim7.holds_tied_plain_at .later [] [.data, .data, .data, .data] true (true, "3535572eedccaf819ec62b2d03865cafaa398ae32f8b1aa05a99bb5a0e86f2eb") false
    fnText.proved (fun _ h => by cases h) (by kernel_rfl) (fun _ h => by cases h) fnText_row_tie rfl ⟨rfl, rfl⟩ (by kernel_rfl) rfl
    (fun f fn hf hfn => by
      obtain rfl : f = 6 := Option.some.inj ((show Tryd.prog.funcNamed "loop.example/treadle/laws.FnText" = some 6 by kernel_rfl).symm.trans hf) |>.symm
      obtain rfl : fn = Tryd.f6 := (Option.some.inj (Tryd.func6.symm.trans hfn)).symm
      exact ⟨by kernel_rfl, fun j t ht => by
        rw [Tryd.params6] at ht
        rcases j with _ | j
        · obtain rfl : 46 = t := by simpa using ht
          kernel_rfl
        · simp at ht⟩)
    (by kernel_rfl)
#print axioms fnTextCard_holds
end Go.Proofs.YtpdnabhpkdchjaaDoor
