/- The statement FnExactGaps holds of the given program, for every argument; there are no conditions. (Part 7 of 7.) -/
import Derived.Test.YtpdnabhpkdchjaaBFnExactGaps6
import Derived.ShutString
namespace Go.Proofs.Ytpdnabhpkdchjaa.WalkFnExactGaps
open Go.RowKit Go.Proofs.YtpdnabhpkdchjaaW.PrintWords Go.Proofs.YtpdnabhpkdchjaaW.PrintLast Go.Proofs.YtpdnabhpkdchjaaW.PrintMore P
attribute [local go_sem ↓] Go.wp_at_zero Go.wp_at_succ
set_option linter.unusedVariables false
set_option linter.unusedSimpArgs false
set_option maxHeartbeats 16000000 in
set_option maxRecDepth 100000 in
theorem too1 (n:Int) (A:Option Addr) (c:Nat) (l:List S160) (A1:Option Addr) (c1:Nat) (es:List S54) (w:World) (hr:Kd.C k160 w A l.length l) (hc:l.length≤c) (hr1:Kd.C k54 w A1 es.length es) (hc1:es.length≤c1) (m1:Int) (h1:laws_szLayout.f n l 1048576=some m1) (hm:m1<0) :
  Calls Try.prog 16 #[.agg #[.int .i64 n,.slice A l.length c],.slice A1 es.length c1] w fun e w'=>e=.returned (.bool true)∧Below w.heap.size w w':=by
 have HR:=Aside0.mk hr
 have HC:=Aside0.mk hc
 have HE:=Aside0.mk hr1
 have HEC:=Aside0.mk hc1
 clear hr hc hr1 hc1
 have hmb:decide (m1<0)=true:=decide_eq_true hm
 have H1:=Aside0.mk h1
 clear h1 hm
 go_enter Try.func16,Try.ntmps16
 go_upto_region 1 with ((with_reducible refine gate_dst (N:=2) rfl ?_);refine box_event ?hg (N:=2) ?hd (cs:=#[.int .i64 n,.slice A l.length c]) (t:=25) ?hr ?_;(case hd=>rfl);(case hg=>rfl);(case hr=>first|(go_simp;done)|(go_simp;rfl));intro gl el w1 kl kb;have Z0:Aside0 (w.heap.size≤w1.heap.size):=⟨kb.size⟩;have F1:Aside0 (Below w.heap.size w w1):=⟨kb⟩;have F2:Aside0 (w1.heap[gl]?=some (.cells #[.int .i64 n,.slice A l.length c] 25 (0,0))):=⟨kl⟩;have EG0:Aside0 (gl=w.heap.size):=⟨el⟩;have EG2:Aside0 (gl<w1.heap.size):=⟨blk_lt kl⟩;clear kb kl el)
 have kl0:w1.cell? ⟨gl,0,none⟩=some (.int .i64 n):=(blk_cell F2.out 0).trans rfl
 have kl1:w1.cell? ⟨gl,1,none⟩=some (.slice A l.length c):=(blk_cell F2.out 1).trans rfl
 go_wp2_with (go_at_call 22;refine (laws_szLayout.calls n A c l 1048576 m1 _ (Kd.C_below HR.out F1.out) HC.out H1.out).mono ?_;rintro e w2 ⟨rfl,hb⟩;have Z1:Aside0 (w1.heap.size≤w2.heap.size):=⟨hb.size⟩;have F3:Aside0 (Below w.heap.size w w2):=⟨below_step F1.out hb⟩;clear F1;have F4:Aside0 (w2.heap[gl]?=some (.cells #[.int .i64 n,.slice A l.length c] 25 (0,0))):=⟨blk_below F2.out hb⟩;clear F2;clear hb)
 go_ret
 exact ⟨rfl,F3.out⟩
set_option maxHeartbeats 16000000 in
set_option maxRecDepth 100000 in
theorem too2 (n:Int) (A:Option Addr) (c:Nat) (l:List S160) (A1:Option Addr) (c1:Nat) (es:List S54) (w:World) (hr:Kd.C k160 w A l.length l) (hc:l.length≤c) (hr1:Kd.C k54 w A1 es.length es) (hc1:es.length≤c1) (m1 m2:Int) (h1:laws_szLayout.f n l 1048576=some m1) (hm:0≤m1) (h2:laws_szEventS.f es m1=some m2) (hm2:m2<0) :
  Calls Try.prog 16 #[.agg #[.int .i64 n,.slice A l.length c],.slice A1 es.length c1] w fun e w'=>e=.returned (.bool true)∧Below w.heap.size w w':=by
 have HR:=Aside0.mk hr
 have HC:=Aside0.mk hc
 have HE:=Aside0.mk hr1
 have HEC:=Aside0.mk hc1
 clear hr hc hr1 hc1
 have hmb:decide (m1<0)=false:=decide_eq_false (by omega)
 have hmb2:decide (m2<0)=true:=decide_eq_true hm2
 have H1:=Aside0.mk h1
 have H2:=Aside0.mk h2
 clear h1 hm h2 hm2
 go_enter Try.func16,Try.ntmps16
 go_upto_region 1 with ((with_reducible refine gate_dst (N:=2) rfl ?_);refine box_event ?hg (N:=2) ?hd (cs:=#[.int .i64 n,.slice A l.length c]) (t:=25) ?hr ?_;(case hd=>rfl);(case hg=>rfl);(case hr=>first|(go_simp;done)|(go_simp;rfl));intro gl el w1 kl kb;have Z0:Aside0 (w.heap.size≤w1.heap.size):=⟨kb.size⟩;have F1:Aside0 (Below w.heap.size w w1):=⟨kb⟩;have F2:Aside0 (w1.heap[gl]?=some (.cells #[.int .i64 n,.slice A l.length c] 25 (0,0))):=⟨kl⟩;have EG0:Aside0 (gl=w.heap.size):=⟨el⟩;have EG2:Aside0 (gl<w1.heap.size):=⟨blk_lt kl⟩;clear kb kl el)
 have kl0:w1.cell? ⟨gl,0,none⟩=some (.int .i64 n):=(blk_cell F2.out 0).trans rfl
 have kl1:w1.cell? ⟨gl,1,none⟩=some (.slice A l.length c):=(blk_cell F2.out 1).trans rfl
 go_upto_region 5 with (go_at_call 22;refine (laws_szLayout.calls n A c l 1048576 m1 _ (Kd.C_below HR.out F1.out) HC.out H1.out).mono ?_;rintro e w2 ⟨rfl,hb⟩;have Z1:Aside0 (w1.heap.size≤w2.heap.size):=⟨hb.size⟩;have F3:Aside0 (Below w.heap.size w w2):=⟨below_step F1.out hb⟩;clear F1;have F4:Aside0 (w2.heap[gl]?=some (.cells #[.int .i64 n,.slice A l.length c] 25 (0,0))):=⟨blk_below F2.out hb⟩;clear F2;clear hb)
 clear kl0 kl1
 go_wp2_with (go_at_call 48;refine (laws_szEventS.calls A1 c1 es m1 m2 _ (Kd.C_below HE.out F3.out) HEC.out H2.out).mono ?_;rintro e w3 ⟨rfl,hb0⟩;have hb:=hb0.below;have Z2:Aside0 (w2.heap.size≤w3.heap.size):=⟨hb.size⟩;have F5:Aside0 (Below w.heap.size w w3):=⟨below_step F3.out hb⟩;clear F3;have F6:Aside0 (w3.heap[gl]?=some (.cells #[.int .i64 n,.slice A l.length c] 25 (0,0))):=⟨blk_below F4.out hb⟩;clear F4;clear hb;clear hb0)
 go_ret
 exact ⟨rfl,F5.out⟩
set_option maxHeartbeats 16000000 in
set_option maxRecDepth 100000 in
theorem whole (n:Int) (A:Option Addr) (c:Nat) (l:List S160) (A1:Option Addr) (c1:Nat) (es:List S54) (w:World) (hr:Kd.C k160 w A l.length l) (hc:l.length≤c) (hr1:Kd.C k54 w A1 es.length es) (hc1:es.length≤c1) (m1 m2:Int) (h1:laws_szLayout.f n l 1048576=some m1) (hm:0≤m1) (h2:laws_szEventS.f es m1=some m2) (hm2:0≤m2) (lc:List S88) (ec:List S56) (hcl:lc.length≤1048576) (hel:ec.length≤1048576) (evTL:Ev (fun k=>laws_toLayout.f k n l) (n,lc)) (evTE:Ev (fun k=>laws_toEventS.f k es) ec) :
  Calls Try.prog 16 #[.agg #[.int .i64 n,.slice A l.length c],.slice A1 es.length c1] w fun e w'=>e=.returned (.bool true)∧Below w.heap.size w w':=by
 have HR:=Aside0.mk hr
 have HC:=Aside0.mk hc
 have HE:=Aside0.mk hr1
 have HEC:=Aside0.mk hc1
 clear hr hc hr1 hc1
 have hmb:decide (m1<0)=false:=decide_eq_false (by omega)
 have hmb2:decide (m2<0)=false:=decide_eq_false (by omega)
 have H1:=Aside0.mk h1
 have H2:=Aside0.mk h2
 clear h1 hm h2 hm2
 have HRL:=Aside0.mk (gaps_len n lc ec)
 obtain ⟨kTL,hTL⟩:=(evTL).rounds
 have ETL:=Aside0.mk hTL
 clear hTL
 obtain ⟨kTE,hTE⟩:=(evTE).rounds
 have ETE:=Aside0.mk hTE
 clear hTE
 obtain ⟨kEL,hEL⟩:=(eqLayout_ev n lc hcl).rounds
 have EEL:=Aside0.mk hEL
 clear hEL
 obtain ⟨kEE,hEE⟩:=(eqEventS_ev ec hel).rounds
 have EEE:=Aside0.mk hEE
 clear hEE
 obtain ⟨kML,hML⟩:=(markLayout_ev n lc 1 (by omega) (by omega)).rounds
 have EML:=Aside0.mk hML
 clear hML
 obtain ⟨rME,hrME⟩:=markEventS_ev ec (1+2 * (lc.length:Int)) hel (by omega) (by omega)
 obtain ⟨kME,hME⟩:=(hrME).rounds
 have EME:=Aside0.mk hME
 clear hME
 clear hrME
 generalize hk2:((1+2 * (lc.length:Int))+3 * (ec.length:Int))=k2 at EME
 have hk2b:decide (k2<0)=false:=decide_eq_false (by omega)
 clear hk2
 generalize hk1:(1+2 * (lc.length:Int))=k1 at EME EML
 clear hk1
 have hmp:decide ((1+2 * ((gaps n lc ec).length:Int))<0)=false:=decide_eq_false (by omega)
 clear hcl hel evTL evTE
 go_enter Try.func16,Try.ntmps16
 go_upto_region 1 with ((with_reducible refine gate_dst (N:=2) rfl ?_);refine box_event ?hg (N:=2) ?hd (cs:=#[.int .i64 n,.slice A l.length c]) (t:=25) ?hr ?_;(case hd=>rfl);(case hg=>rfl);(case hr=>first|(go_simp;done)|(go_simp;rfl));intro gl el w1 kl kb;have Z0:Aside0 (w.heap.size≤w1.heap.size):=⟨kb.size⟩;have F1:Aside0 (Below w.heap.size w w1):=⟨kb⟩;have F2:Aside0 (w1.heap[gl]?=some (.cells #[.int .i64 n,.slice A l.length c] 25 (0,0))):=⟨kl⟩;have EG0:Aside0 (gl=w.heap.size):=⟨el⟩;have EG2:Aside0 (gl<w1.heap.size):=⟨blk_lt kl⟩;clear kb kl el)
 have kl0:w1.cell? ⟨gl,0,none⟩=some (.int .i64 n):=(blk_cell F2.out 0).trans rfl
 have kl1:w1.cell? ⟨gl,1,none⟩=some (.slice A l.length c):=(blk_cell F2.out 1).trans rfl
 go_upto_region 5 with (go_at_call 22;refine (laws_szLayout.calls n A c l 1048576 m1 _ (Kd.C_below HR.out F1.out) HC.out H1.out).mono ?_;rintro e w2 ⟨rfl,hb⟩;have Z1:Aside0 (w1.heap.size≤w2.heap.size):=⟨hb.size⟩;have F3:Aside0 (Below w.heap.size w w2):=⟨below_step F1.out hb⟩;clear F1;have F4:Aside0 (w2.heap[gl]?=some (.cells #[.int .i64 n,.slice A l.length c] 25 (0,0))):=⟨blk_below F2.out hb⟩;clear F2;clear hb)
 clear kl0 kl1
 go_upto_region 8 with (go_at_call 48;refine (laws_szEventS.calls A1 c1 es m1 m2 _ (Kd.C_below HE.out F3.out) HEC.out H2.out).mono ?_;rintro e w3 ⟨rfl,hb0⟩;have hb:=hb0.below;have Z2:Aside0 (w2.heap.size≤w3.heap.size):=⟨hb.size⟩;have F5:Aside0 (Below w.heap.size w w3):=⟨below_step F3.out hb⟩;clear F3;have F6:Aside0 (w3.heap[gl]?=some (.cells #[.int .i64 n,.slice A l.length c] 25 (0,0))):=⟨blk_below F4.out hb⟩;clear F4;clear hb;clear hb0)
 have kl0:w3.cell? ⟨gl,0,none⟩=some (.int .i64 n):=(blk_cell F6.out 0).trans rfl
 have kl1:w3.cell? ⟨gl,1,none⟩=some (.slice A l.length c):=(blk_cell F6.out 1).trans rfl
 go_upto_region 9 with (first|(go_at_call 24;refine (laws_toLayout.calls kTL n A c l n lc _ (Kd.C_below HR.out F5.out) HC.out ETL.out).mono ?_;rintro e w4 ⟨v,rfl,ho,hb⟩;have BSZ:=(F5.out).size;have Z3:Aside0 (w3.heap.size≤w4.heap.size):=⟨hb.size⟩;have F7:Aside0 (Below w.heap.size w w4):=⟨below_step F5.out hb⟩;clear F5;have F8:Aside0 (w4.heap[gl]?=some (.cells #[.int .i64 n,.slice A l.length c] 25 (0,0))):=⟨blk_below F6.out hb⟩;clear F6;obtain ⟨A4,c4,rfl⟩:=Kd.R_slice ho;have F9:Aside0 (Kd.R k88 88 w4 w.heap.size (fun k=>w3.heap.size≤k∧k<w4.heap.size) (.slice A4 lc.length c4) lc):=⟨Kd.R_mono (Kd.R_lower (Kd.R_bound ho) BSZ) (fun k hq=>⟨hq.2.1,hq.2.2.1⟩)⟩;clear ho;clear hb BSZ)|(go_at_call 50;refine (laws_toEventS.calls kTE A1 c1 es ec _ (Kd.C_below HE.out F7.out) HEC.out ETE.out).mono ?_;rintro e w5 ⟨v,rfl,ho,hb⟩;have BSZ:=(F7.out).size;have Z4:Aside0 (w4.heap.size≤w5.heap.size):=⟨hb.size⟩;have F10:Aside0 (Below w.heap.size w w5):=⟨below_step F7.out hb⟩;clear F7;have F11:Aside0 (w5.heap[gl]?=some (.cells #[.int .i64 n,.slice A l.length c] 25 (0,0))):=⟨blk_below F8.out hb⟩;clear F8;have F12:Aside0 (Kd.R k88 88 w5 w.heap.size (fun k=>w3.heap.size≤k∧k<w4.heap.size) (.slice A4 lc.length c4) lc):=⟨Kd.R_below F9.out hb⟩;clear F9;obtain ⟨A5,c5,rfl⟩:=Kd.R_slice ho;have F13:Aside0 (Kd.R k56 56 w5 w.heap.size (fun k=>w4.heap.size≤k∧k<w5.heap.size) (.slice A5 ec.length c5) ec):=⟨Kd.R_mono (Kd.R_lower (Kd.R_bound ho) BSZ) (fun k hq=>⟨hq.2.1,hq.2.2.1⟩)⟩;clear ho;clear hb BSZ)|(go_at_call 65;refine (sgaps_is n _ _ lc _ _ ec _ (Kd.R_reads' F12.out).2.2 (Kd.R_reads' F12.out).2.1 (Kd.R_reads' F13.out).2.2 (Kd.R_reads' F13.out).2.1).mono ?_;rintro e w6 ⟨v,rfl,ho,hb⟩;have BSZ:=(F10.out).size;have Z5:Aside0 (w5.heap.size≤w6.heap.size):=⟨hb.size⟩;have F14:Aside0 (Below w.heap.size w w6):=⟨below_step F10.out hb⟩;clear F10;have F15:Aside0 (w6.heap[gl]?=some (.cells #[.int .i64 n,.slice A l.length c] 25 (0,0))):=⟨blk_below F11.out hb⟩;clear F11;have F16:Aside0 (Kd.R k88 88 w6 w.heap.size (fun k=>w3.heap.size≤k∧k<w4.heap.size) (.slice A4 lc.length c4) lc):=⟨Kd.R_below F12.out hb⟩;clear F12;have F17:Aside0 (Kd.R k56 56 w6 w.heap.size (fun k=>w4.heap.size≤k∧k<w5.heap.size) (.slice A5 ec.length c5) ec):=⟨Kd.R_below F13.out hb⟩;clear F13;obtain ⟨A6,c6,rfl⟩:=Kd.R_slice ho;have F18:Aside0 (Kd.R k138 138 w6 w.heap.size (fun k=>w5.heap.size≤k∧k<w6.heap.size) (.slice A6 (gaps n lc ec).length c6) (gaps n lc ec)):=⟨Kd.R_mono (Kd.R_lower (Kd.R_bound ho) BSZ) (fun k hq=>⟨hq.2.1,hq.2.2.1⟩)⟩;clear ho;clear hb BSZ))
 clear kl0 kl1
 clear F16
 clear F17
 have kl0:w6.cell? ⟨gl,0,none⟩=some (.int .i64 n):=(blk_cell F15.out 0).trans rfl
 have kl1:w6.cell? ⟨gl,1,none⟩=some (.slice A l.length c):=(blk_cell F15.out 1).trans rfl
 go_upto_region 10 with (first|(go_at_call 24;refine (laws_toLayout.calls kTL n A c l n lc _ (Kd.C_below HR.out F14.out) HC.out ETL.out).mono ?_;rintro e w7 ⟨v,rfl,ho,hb⟩;have BSZ:=(F14.out).size;have Z6:Aside0 (w6.heap.size≤w7.heap.size):=⟨hb.size⟩;have F19:Aside0 (Below w.heap.size w w7):=⟨below_step F14.out hb⟩;clear F14;have F20:Aside0 (w7.heap[gl]?=some (.cells #[.int .i64 n,.slice A l.length c] 25 (0,0))):=⟨blk_below F15.out hb⟩;clear F15;have F21:Aside0 (Kd.R k138 138 w7 w.heap.size (fun k=>w5.heap.size≤k∧k<w6.heap.size) (.slice A6 (gaps n lc ec).length c6) (gaps n lc ec)):=⟨Kd.R_below F18.out hb⟩;clear F18;obtain ⟨A7,c7,rfl⟩:=Kd.R_slice ho;have F22:Aside0 (Kd.R k88 88 w7 w.heap.size (fun k=>w6.heap.size≤k∧k<w7.heap.size) (.slice A7 lc.length c7) lc):=⟨Kd.R_mono (Kd.R_lower (Kd.R_bound ho) BSZ) (fun k hq=>⟨hq.2.1,hq.2.2.1⟩)⟩;clear ho;clear hb BSZ)|((with_reducible refine gate_dst (N:=7) rfl ?_);refine box_event ?hg (N:=7) ?hd (cs:=#[.int .i64 0,.slice none 0 0]) (t:=30) ?hr ?_;(case hd=>rfl);(case hg=>rfl);(case hr=>first|(go_simp;done)|(go_simp;rfl));intro gx ex w8 kx bx;have zx0:=blk_frozen kx 0;have zx1:=blk_frozen kx 1;have kx0:=(blk_cell kx 0).trans (show _=some (Value.int .i64 0) from rfl);have kx1:=(blk_cell kx 1).trans (show _=some (Value.slice none 0 0) from rfl);have KX:=Aside0.mk kx;have EX:=Aside0.mk ex;have BX:=Aside0.mk bx;clear kx ex bx))
 clear kl0 kl1
 have KY:=Aside0.mk (blk_put (blk_put KX.out 0 (.int .i64 n) rfl) 1 (.slice A7 lc.length c7) rfl)
 have BY:=Aside0.mk (below_set (j:=1) (v:=(.slice A7 lc.length c7)) (below_set (j:=0) (v:=.int .i64 n) BX.out (Nat.le_of_eq EX.out.symm)) (Nat.le_of_eq EX.out.symm))
 clear KX BX zx0 zx1 kx0 kx1
 generalize ((w8.setCell ⟨gx,0,none⟩ (.int .i64 n)).setCell ⟨gx,1,none⟩ (.slice A7 lc.length c7))=w9 at KY BY ⊢
 have Z7:Aside0 (w7.heap.size≤w9.heap.size):=⟨BY.out.size⟩
 have F23:Aside0 (Below w.heap.size w w9):=⟨below_step F19.out BY.out⟩
 clear F19
 have F24:Aside0 (w9.heap[gl]?=some (.cells #[.int .i64 n,.slice A l.length c] 25 (0,0))):=⟨blk_below F20.out BY.out⟩
 clear F20
 have F25:Aside0 (Kd.R k138 138 w9 w.heap.size (fun k=>w5.heap.size≤k∧k<w6.heap.size) (.slice A6 (gaps n lc ec).length c6) (gaps n lc ec)):=⟨Kd.R_below F21.out BY.out⟩
 clear F21
 have F26:Aside0 (Kd.R k88 88 w9 w.heap.size (fun k=>w6.heap.size≤k∧k<w7.heap.size) (.slice A7 lc.length c7) lc):=⟨Kd.R_below F22.out BY.out⟩
 clear F22
 clear BY
 have EX2:Aside0 (gx<w9.heap.size):=⟨blk_lt KY.out⟩
 go_upto_region 11 with (go_at_call 50;refine (laws_toEventS.calls kTE A1 c1 es ec _ (Kd.C_below HE.out F23.out) HEC.out ETE.out).mono ?_;rintro e w10 ⟨v,rfl,ho,hb⟩;have BSZ:=(F23.out).size;have Z8:Aside0 (w9.heap.size≤w10.heap.size):=⟨hb.size⟩;have F27:Aside0 (Below w.heap.size w w10):=⟨below_step F23.out hb⟩;clear F23;have F28:Aside0 (w10.heap[gl]?=some (.cells #[.int .i64 n,.slice A l.length c] 25 (0,0))):=⟨blk_below F24.out hb⟩;clear F24;have F29:Aside0 (Kd.R k138 138 w10 w.heap.size (fun k=>w5.heap.size≤k∧k<w6.heap.size) (.slice A6 (gaps n lc ec).length c6) (gaps n lc ec)):=⟨Kd.R_below F25.out hb⟩;clear F25;have F30:Aside0 (Kd.R k88 88 w10 w.heap.size (fun k=>w6.heap.size≤k∧k<w7.heap.size) (.slice A7 lc.length c7) lc):=⟨Kd.R_below F26.out hb⟩;clear F26;have F31:Aside0 (w10.heap[gx]?=some (.cells #[.int .i64 n,(.slice A7 lc.length c7)] 30 (0,0))):=⟨blk_below KY.out hb⟩;clear KY;obtain ⟨A10,c10,rfl⟩:=Kd.R_slice ho;have F32:Aside0 (Kd.R k56 56 w10 w.heap.size (fun k=>w9.heap.size≤k∧k<w10.heap.size) (.slice A10 ec.length c10) ec):=⟨Kd.R_mono (Kd.R_lower (Kd.R_bound ho) BSZ) (fun k hq=>⟨hq.2.1,hq.2.2.1⟩)⟩;clear ho;clear hb BSZ)
 have kx0:w10.cell? ⟨gx,0,none⟩=some (.int .i64 n):=(blk_cell F31.out 0).trans rfl
 have kx1:w10.cell? ⟨gx,1,none⟩=some ((.slice A7 lc.length c7)):=(blk_cell F31.out 1).trans rfl
 go_upto_region 12 with (go_at_call 63;refine (gaps_is n _ _ lc _ _ ec _ (Kd.R_reads' F30.out).2.2 (Kd.R_reads' F30.out).2.1 (Kd.R_reads' F32.out).2.2 (Kd.R_reads' F32.out).2.1).mono ?_;rintro e w11 ⟨v,rfl,ho,hb⟩;have BSZ:=(F27.out).size;have Z9:Aside0 (w10.heap.size≤w11.heap.size):=⟨hb.size⟩;have F33:Aside0 (Below w.heap.size w w11):=⟨below_step F27.out hb⟩;clear F27;have F34:Aside0 (w11.heap[gl]?=some (.cells #[.int .i64 n,.slice A l.length c] 25 (0,0))):=⟨blk_below F28.out hb⟩;clear F28;have F35:Aside0 (Kd.R k138 138 w11 w.heap.size (fun k=>w5.heap.size≤k∧k<w6.heap.size) (.slice A6 (gaps n lc ec).length c6) (gaps n lc ec)):=⟨Kd.R_below F29.out hb⟩;clear F29;have F36:Aside0 (Kd.R k88 88 w11 w.heap.size (fun k=>w6.heap.size≤k∧k<w7.heap.size) (.slice A7 lc.length c7) lc):=⟨Kd.R_below F30.out hb⟩;clear F30;have F37:Aside0 (w11.heap[gx]?=some (.cells #[.int .i64 n,(.slice A7 lc.length c7)] 30 (0,0))):=⟨blk_below F31.out hb⟩;clear F31;have F38:Aside0 (Kd.R k56 56 w11 w.heap.size (fun k=>w9.heap.size≤k∧k<w10.heap.size) (.slice A10 ec.length c10) ec):=⟨Kd.R_below F32.out hb⟩;clear F32;obtain ⟨A11,c11,rfl⟩:=Kd.R_slice ho;have F39:Aside0 (Kd.R k138 138 w11 w.heap.size (fun k=>w10.heap.size≤k∧k<w11.heap.size) (.slice A11 (gaps n lc ec).length c11) (gaps n lc ec)):=⟨Kd.R_mono (Kd.R_lower (Kd.R_bound ho) BSZ) (fun k hq=>⟨hq.2.1,hq.2.2.1⟩)⟩;clear ho;clear hb BSZ)
 clear kx0 kx1
 go_upto_region 14 with (go_at_call 66;refine (eqG_any F39.out F35.out HRL.out).mono ?_;rintro e w12 ⟨rfl,hb⟩;have Z10:Aside0 (w11.heap.size≤w12.heap.size):=⟨hb.size⟩;have F40:Aside0 (Below w.heap.size w w12):=⟨below_step F33.out hb⟩;clear F33;have F41:Aside0 (w12.heap[gl]?=some (.cells #[.int .i64 n,.slice A l.length c] 25 (0,0))):=⟨blk_below F34.out hb⟩;clear F34;have F42:Aside0 (Kd.R k138 138 w12 w.heap.size (fun k=>w5.heap.size≤k∧k<w6.heap.size) (.slice A6 (gaps n lc ec).length c6) (gaps n lc ec)):=⟨Kd.R_below F35.out hb⟩;clear F35;have F43:Aside0 (Kd.R k88 88 w12 w.heap.size (fun k=>w6.heap.size≤k∧k<w7.heap.size) (.slice A7 lc.length c7) lc):=⟨Kd.R_below F36.out hb⟩;clear F36;have F44:Aside0 (w12.heap[gx]?=some (.cells #[.int .i64 n,(.slice A7 lc.length c7)] 30 (0,0))):=⟨blk_below F37.out hb⟩;clear F37;have F45:Aside0 (Kd.R k56 56 w12 w.heap.size (fun k=>w9.heap.size≤k∧k<w10.heap.size) (.slice A10 ec.length c10) ec):=⟨Kd.R_below F38.out hb⟩;clear F38;have F46:Aside0 (Kd.R k138 138 w12 w.heap.size (fun k=>w10.heap.size≤k∧k<w11.heap.size) (.slice A11 (gaps n lc ec).length c11) (gaps n lc ec)):=⟨Kd.R_below F39.out hb⟩;clear F39;clear hb)
 have kl0:w12.cell? ⟨gl,0,none⟩=some (.int .i64 n):=(blk_cell F41.out 0).trans rfl
 have kl1:w12.cell? ⟨gl,1,none⟩=some (.slice A l.length c):=(blk_cell F41.out 1).trans rfl
 have kx0:w12.cell? ⟨gx,0,none⟩=some (.int .i64 n):=(blk_cell F44.out 0).trans rfl
 have kx1:w12.cell? ⟨gx,1,none⟩=some ((.slice A7 lc.length c7)):=(blk_cell F44.out 1).trans rfl
 have Z11:Aside0 (w12.heap.size≤w12.drew.heap.size):=⟨(below_drew1 (Below.refl w12.heap.size w12)).size⟩
 have F47:Aside0 (Below w.heap.size w w12.drew):=⟨below_step F40.out (below_drew1 (Below.refl w12.heap.size w12))⟩
 clear F40
 have F48:Aside0 (w12.drew.heap[gl]?=some (.cells #[.int .i64 n,.slice A l.length c] 25 (0,0))):=⟨blk_below F41.out (below_drew1 (Below.refl w12.heap.size w12))⟩
 clear F41
 have F49:Aside0 (Kd.R k138 138 w12.drew w.heap.size (fun k=>w5.heap.size≤k∧k<w6.heap.size) (.slice A6 (gaps n lc ec).length c6) (gaps n lc ec)):=⟨Kd.R_below F42.out (below_drew1 (Below.refl w12.heap.size w12))⟩
 clear F42
 have F50:Aside0 (Kd.R k88 88 w12.drew w.heap.size (fun k=>w6.heap.size≤k∧k<w7.heap.size) (.slice A7 lc.length c7) lc):=⟨Kd.R_below F43.out (below_drew1 (Below.refl w12.heap.size w12))⟩
 clear F43
 have F51:Aside0 (w12.drew.heap[gx]?=some (.cells #[.int .i64 n,(.slice A7 lc.length c7)] 30 (0,0))):=⟨blk_below F44.out (below_drew1 (Below.refl w12.heap.size w12))⟩
 clear F44
 have F52:Aside0 (Kd.R k56 56 w12.drew w.heap.size (fun k=>w9.heap.size≤k∧k<w10.heap.size) (.slice A10 ec.length c10) ec):=⟨Kd.R_below F45.out (below_drew1 (Below.refl w12.heap.size w12))⟩
 clear F45
 have F53:Aside0 (Kd.R k138 138 w12.drew w.heap.size (fun k=>w10.heap.size≤k∧k<w11.heap.size) (.slice A11 (gaps n lc ec).length c11) (gaps n lc ec)):=⟨Kd.R_below F46.out (below_drew1 (Below.refl w12.heap.size w12))⟩
 clear F46
 go_region_held3 (fun w'=>w'.cell? ⟨gl,0,none⟩=some (.int .i64 n)∧w'.cell? ⟨gl,1,none⟩=some (.slice A l.length c)∧w'.cell? ⟨gx,0,none⟩=some (.int .i64 n)∧w'.cell? ⟨gx,1,none⟩=some (.slice A7 lc.length c7))
  (first|go_keep|(go_split_ands;(repeat' apply And.intro) <;> (refine pw_cell_below hbk.out ?_;assumption)))
  (first|(go_at_call 24;refine (laws_toLayout.calls kTL n A c l n lc _ (Kd.C_below HR.out F47.out) HC.out ETL.out).mono ?_;rintro e w13 ⟨v,rfl,ho,hb⟩;have BSZ:=(F47.out).size;have Z12:Aside0 (w12.drew.heap.size≤w13.heap.size):=⟨hb.size⟩;have F54:Aside0 (Below w.heap.size w w13):=⟨below_step F47.out hb⟩;clear F47;have F55:Aside0 (w13.heap[gl]?=some (.cells #[.int .i64 n,.slice A l.length c] 25 (0,0))):=⟨blk_below F48.out hb⟩;clear F48;have F56:Aside0 (Kd.R k138 138 w13 w.heap.size (fun k=>w5.heap.size≤k∧k<w6.heap.size) (.slice A6 (gaps n lc ec).length c6) (gaps n lc ec)):=⟨Kd.R_below F49.out hb⟩;clear F49;have F57:Aside0 (Kd.R k88 88 w13 w.heap.size (fun k=>w6.heap.size≤k∧k<w7.heap.size) (.slice A7 lc.length c7) lc):=⟨Kd.R_below F50.out hb⟩;clear F50;have F58:Aside0 (w13.heap[gx]?=some (.cells #[.int .i64 n,(.slice A7 lc.length c7)] 30 (0,0))):=⟨blk_below F51.out hb⟩;clear F51;have F59:Aside0 (Kd.R k56 56 w13 w.heap.size (fun k=>w9.heap.size≤k∧k<w10.heap.size) (.slice A10 ec.length c10) ec):=⟨Kd.R_below F52.out hb⟩;clear F52;have F60:Aside0 (Kd.R k138 138 w13 w.heap.size (fun k=>w10.heap.size≤k∧k<w11.heap.size) (.slice A11 (gaps n lc ec).length c11) (gaps n lc ec)):=⟨Kd.R_below F53.out hb⟩;clear F53;obtain ⟨A13,c13,rfl⟩:=Kd.R_slice ho;have F61:Aside0 (Kd.R k88 88 w13 w.heap.size (fun k=>w12.drew.heap.size≤k∧k<w13.heap.size) (.slice A13 lc.length c13) lc):=⟨Kd.R_mono (Kd.R_lower (Kd.R_bound ho) BSZ) (fun k hq=>⟨hq.2.1,hq.2.2.1⟩)⟩;clear ho;have hbk:=Aside0.mk hb;clear hb BSZ)|(go_at_call 26;refine (laws_eqLayout.calls kEL n _ _ lc n _ _ lc true _ (Kd.R_reads' F57.out).2.2 (Kd.R_reads' F57.out).2.1 (Kd.R_reads' F61.out).2.2 (Kd.R_reads' F61.out).2.1 EEL.out).mono ?_;rintro e w14 ⟨rfl,hb⟩;have Z13:Aside0 (w13.heap.size≤w14.heap.size):=⟨hb.size⟩;have F62:Aside0 (Below w.heap.size w w14):=⟨below_step F54.out hb⟩;clear F54;have F63:Aside0 (w14.heap[gl]?=some (.cells #[.int .i64 n,.slice A l.length c] 25 (0,0))):=⟨blk_below F55.out hb⟩;clear F55;have F64:Aside0 (Kd.R k138 138 w14 w.heap.size (fun k=>w5.heap.size≤k∧k<w6.heap.size) (.slice A6 (gaps n lc ec).length c6) (gaps n lc ec)):=⟨Kd.R_below F56.out hb⟩;clear F56;have F65:Aside0 (Kd.R k88 88 w14 w.heap.size (fun k=>w6.heap.size≤k∧k<w7.heap.size) (.slice A7 lc.length c7) lc):=⟨Kd.R_below F57.out hb⟩;clear F57;have F66:Aside0 (w14.heap[gx]?=some (.cells #[.int .i64 n,(.slice A7 lc.length c7)] 30 (0,0))):=⟨blk_below F58.out hb⟩;clear F58;have F67:Aside0 (Kd.R k56 56 w14 w.heap.size (fun k=>w9.heap.size≤k∧k<w10.heap.size) (.slice A10 ec.length c10) ec):=⟨Kd.R_below F59.out hb⟩;clear F59;have F68:Aside0 (Kd.R k138 138 w14 w.heap.size (fun k=>w10.heap.size≤k∧k<w11.heap.size) (.slice A11 (gaps n lc ec).length c11) (gaps n lc ec)):=⟨Kd.R_below F60.out hb⟩;clear F60;have F69:Aside0 (Kd.R k88 88 w14 w.heap.size (fun k=>w12.drew.heap.size≤k∧k<w13.heap.size) (.slice A13 lc.length c13) lc):=⟨Kd.R_below F61.out hb⟩;clear F61;have hbk:=Aside0.mk hb;clear hb))
 clear kl0 kl1 kx0 kx1
 clear F69
 go_upto_region 16 with fail
 go_upto_region 18 with (first|(go_at_call 50;refine (laws_toEventS.calls kTE A1 c1 es ec _ (Kd.C_below HE.out F62.out) HEC.out ETE.out).mono ?_;rintro e w15 ⟨v,rfl,ho,hb⟩;have BSZ:=(F62.out).size;have Z14:Aside0 (w14.heap.size≤w15.heap.size):=⟨hb.size⟩;have F70:Aside0 (Below w.heap.size w w15):=⟨below_step F62.out hb⟩;clear F62;have F71:Aside0 (w15.heap[gl]?=some (.cells #[.int .i64 n,.slice A l.length c] 25 (0,0))):=⟨blk_below F63.out hb⟩;clear F63;have F72:Aside0 (Kd.R k138 138 w15 w.heap.size (fun k=>w5.heap.size≤k∧k<w6.heap.size) (.slice A6 (gaps n lc ec).length c6) (gaps n lc ec)):=⟨Kd.R_below F64.out hb⟩;clear F64;have F73:Aside0 (Kd.R k88 88 w15 w.heap.size (fun k=>w6.heap.size≤k∧k<w7.heap.size) (.slice A7 lc.length c7) lc):=⟨Kd.R_below F65.out hb⟩;clear F65;have F74:Aside0 (w15.heap[gx]?=some (.cells #[.int .i64 n,(.slice A7 lc.length c7)] 30 (0,0))):=⟨blk_below F66.out hb⟩;clear F66;have F75:Aside0 (Kd.R k56 56 w15 w.heap.size (fun k=>w9.heap.size≤k∧k<w10.heap.size) (.slice A10 ec.length c10) ec):=⟨Kd.R_below F67.out hb⟩;clear F67;have F76:Aside0 (Kd.R k138 138 w15 w.heap.size (fun k=>w10.heap.size≤k∧k<w11.heap.size) (.slice A11 (gaps n lc ec).length c11) (gaps n lc ec)):=⟨Kd.R_below F68.out hb⟩;clear F68;obtain ⟨A15,c15,rfl⟩:=Kd.R_slice ho;have F77:Aside0 (Kd.R k56 56 w15 w.heap.size (fun k=>w14.heap.size≤k∧k<w15.heap.size) (.slice A15 ec.length c15) ec):=⟨Kd.R_mono (Kd.R_lower (Kd.R_bound ho) BSZ) (fun k hq=>⟨hq.2.1,hq.2.2.1⟩)⟩;clear ho;clear hb BSZ)|(go_at_call 52;refine (laws_eqEventS.calls kEE _ _ ec _ _ ec true _ (Kd.R_reads' F75.out).2.2 (Kd.R_reads' F75.out).2.1 (Kd.R_reads' F77.out).2.2 (Kd.R_reads' F77.out).2.1 EEE.out).mono ?_;rintro e w16 ⟨rfl,hb⟩;have Z15:Aside0 (w15.heap.size≤w16.heap.size):=⟨hb.size⟩;have F78:Aside0 (Below w.heap.size w w16):=⟨below_step F70.out hb⟩;clear F70;have F79:Aside0 (w16.heap[gl]?=some (.cells #[.int .i64 n,.slice A l.length c] 25 (0,0))):=⟨blk_below F71.out hb⟩;clear F71;have F80:Aside0 (Kd.R k138 138 w16 w.heap.size (fun k=>w5.heap.size≤k∧k<w6.heap.size) (.slice A6 (gaps n lc ec).length c6) (gaps n lc ec)):=⟨Kd.R_below F72.out hb⟩;clear F72;have F81:Aside0 (Kd.R k88 88 w16 w.heap.size (fun k=>w6.heap.size≤k∧k<w7.heap.size) (.slice A7 lc.length c7) lc):=⟨Kd.R_below F73.out hb⟩;clear F73;have F82:Aside0 (w16.heap[gx]?=some (.cells #[.int .i64 n,(.slice A7 lc.length c7)] 30 (0,0))):=⟨blk_below F74.out hb⟩;clear F74;have F83:Aside0 (Kd.R k56 56 w16 w.heap.size (fun k=>w9.heap.size≤k∧k<w10.heap.size) (.slice A10 ec.length c10) ec):=⟨Kd.R_below F75.out hb⟩;clear F75;have F84:Aside0 (Kd.R k138 138 w16 w.heap.size (fun k=>w10.heap.size≤k∧k<w11.heap.size) (.slice A11 (gaps n lc ec).length c11) (gaps n lc ec)):=⟨Kd.R_below F76.out hb⟩;clear F76;have F85:Aside0 (Kd.R k56 56 w16 w.heap.size (fun k=>w14.heap.size≤k∧k<w15.heap.size) (.slice A15 ec.length c15) ec):=⟨Kd.R_below F77.out hb⟩;clear F77;clear hb))
 clear F85
 have kx0:w16.cell? ⟨gx,0,none⟩=some (.int .i64 n):=(blk_cell F82.out 0).trans rfl
 have kx1:w16.cell? ⟨gx,1,none⟩=some ((.slice A7 lc.length c7)):=(blk_cell F82.out 1).trans rfl
 go_upto_region 20 with (go_at_call 40;refine (laws_markLayout.calls kML n (fun k=>w6.heap.size≤k∧k<w7.heap.size) _ lc 1 k1 _ w _ F78.out F81.out EML.out).mono ?_;rintro e w17 ⟨rfl,hm,hB,hk⟩;have hBB:=hB;have Z16:Aside0 (w16.heap.size≤w17.heap.size):=⟨hk.1⟩;have F86:Aside0 (Below w.heap.size w w17):=⟨hB⟩;clear F78;have F87:Aside0 (w17.heap[gl]?=some (.cells #[.int .i64 n,.slice A l.length c] 25 (0,0))):=⟨blk_kept F79.out hk (fun hq=>by obtain ⟨hq1,hq2⟩:=hq;have:=EG0.out;have:=EG2.out;have:=Z1.out;have:=Z2.out;have:=Z3.out;have:=Z4.out;have:=Z5.out;omega)⟩;clear F79;have F88:Aside0 (Kd.R k138 138 w17 w.heap.size (fun k=>w5.heap.size≤k∧k<w6.heap.size) (.slice A6 (gaps n lc ec).length c6) (gaps n lc ec)):=⟨Kd.R_kept F80.out hk (fun k hq hr=>by obtain ⟨hq1,hq2⟩:=hq;obtain ⟨hr1,hr2⟩:=hr;omega)⟩;clear F80;have F89:Aside0 (w17.heap[gx]?=some (.cells #[.int .i64 n,(.slice A7 lc.length c7)] 30 (0,0))):=⟨blk_kept F82.out hk (fun hq=>by obtain ⟨hq1,hq2⟩:=hq;have:=EX.out;have:=EX2.out;omega)⟩;clear F82;have F90:Aside0 (Kd.R k56 56 w17 w.heap.size (fun k=>w9.heap.size≤k∧k<w10.heap.size) (.slice A10 ec.length c10) ec):=⟨Kd.R_kept F83.out hk (fun k hq hr=>by obtain ⟨hq1,hq2⟩:=hq;obtain ⟨hr1,hr2⟩:=hr;have:=Z7.out;omega)⟩;clear F83;have F91:Aside0 (Kd.R k138 138 w17 w.heap.size (fun k=>w10.heap.size≤k∧k<w11.heap.size) (.slice A11 (gaps n lc ec).length c11) (gaps n lc ec)):=⟨Kd.R_kept F84.out hk (fun k hq hr=>by obtain ⟨hq1,hq2⟩:=hq;obtain ⟨hr1,hr2⟩:=hr;have:=Z7.out;have:=Z8.out;omega)⟩;clear F84;clear hk hB hBB;clear hm)
 clear kx0 kx1
 clear F81
 clear F89
 go_upto_region 21 with (go_at_call 60;refine (laws_markEventS.calls kME (fun k=>w9.heap.size≤k∧k<w10.heap.size) _ ec k1 k2 _ w _ F86.out F90.out EME.out).mono ?_;rintro e w18 ⟨rfl,hm,hB,hk⟩;have hBB:=hB;have Z17:Aside0 (w17.heap.size≤w18.heap.size):=⟨hk.1⟩;have F92:Aside0 (Below w.heap.size w w18):=⟨hB⟩;clear F86;have F93:Aside0 (w18.heap[gl]?=some (.cells #[.int .i64 n,.slice A l.length c] 25 (0,0))):=⟨blk_kept F87.out hk (fun hq=>by obtain ⟨hq1,hq2⟩:=hq;have:=EG0.out;have:=EG2.out;have:=Z1.out;have:=Z2.out;have:=Z3.out;have:=Z4.out;have:=Z5.out;have:=Z6.out;have:=Z7.out;omega)⟩;clear F87;have F94:Aside0 (Kd.R k138 138 w18 w.heap.size (fun k=>w5.heap.size≤k∧k<w6.heap.size) (.slice A6 (gaps n lc ec).length c6) (gaps n lc ec)):=⟨Kd.R_kept F88.out hk (fun k hq hr=>by obtain ⟨hq1,hq2⟩:=hq;obtain ⟨hr1,hr2⟩:=hr;have:=Z6.out;have:=Z7.out;omega)⟩;clear F88;have F95:Aside0 (Kd.R k138 138 w18 w.heap.size (fun k=>w10.heap.size≤k∧k<w11.heap.size) (.slice A11 (gaps n lc ec).length c11) (gaps n lc ec)):=⟨Kd.R_kept F91.out hk (fun k hq hr=>by obtain ⟨hq1,hq2⟩:=hq;obtain ⟨hr1,hr2⟩:=hr;omega)⟩;clear F91;clear hk hB hBB;clear hm)
 clear F90
 go_upto_region 23 with (go_at_call 66;refine (eqG_any F95.out F94.out HRL.out).mono ?_;rintro e w19 ⟨rfl,hb⟩;have Z18:Aside0 (w18.heap.size≤w19.heap.size):=⟨hb.size⟩;have F96:Aside0 (Below w.heap.size w w19):=⟨below_step F92.out hb⟩;clear F92;have F97:Aside0 (w19.heap[gl]?=some (.cells #[.int .i64 n,.slice A l.length c] 25 (0,0))):=⟨blk_below F93.out hb⟩;clear F93;have F98:Aside0 (Kd.R k138 138 w19 w.heap.size (fun k=>w5.heap.size≤k∧k<w6.heap.size) (.slice A6 (gaps n lc ec).length c6) (gaps n lc ec)):=⟨Kd.R_below F94.out hb⟩;clear F94;have F99:Aside0 (Kd.R k138 138 w19 w.heap.size (fun k=>w10.heap.size≤k∧k<w11.heap.size) (.slice A11 (gaps n lc ec).length c11) (gaps n lc ec)):=⟨Kd.R_below F95.out hb⟩;clear F95;clear hb)
 have HS0:Aside0 (w.heap.size≤w10.heap.size):=⟨by have:=Z0.out;have:=Z1.out;have:=Z2.out;have:=Z3.out;have:=Z4.out;have:=Z5.out;have:=Z6.out;have:=Z7.out;have:=Z8.out;omega⟩
 go_upto_region 25 with (go_at_call 67;refine (markG_any F96.out F99.out (fun k hq=>Nat.le_trans HS0.out hq.1) HRL.out).mono ?_;rintro e w20 ⟨rfl,hm,hB,hk⟩;have hBB:=hB;have Z19:Aside0 (w19.heap.size≤w20.heap.size):=⟨hk.1⟩;have F100:Aside0 (Below w.heap.size w w20):=⟨hB⟩;clear F96;have F101:Aside0 (w20.heap[gl]?=some (.cells #[.int .i64 n,.slice A l.length c] 25 (0,0))):=⟨blk_kept F97.out hk (fun hq=>by obtain ⟨hq1,hq2⟩:=hq;have:=EG0.out;have:=EG2.out;have:=Z1.out;have:=Z2.out;have:=Z3.out;have:=Z4.out;have:=Z5.out;have:=Z6.out;have:=Z7.out;have:=Z8.out;omega)⟩;clear F97;have F102:Aside0 (Kd.R k138 138 w20 w.heap.size (fun k=>w5.heap.size≤k∧k<w6.heap.size) (.slice A6 (gaps n lc ec).length c6) (gaps n lc ec)):=⟨Kd.R_kept F98.out hk (fun k hq hr=>by obtain ⟨hq1,hq2⟩:=hq;obtain ⟨hr1,hr2⟩:=hr;have:=Z6.out;have:=Z7.out;have:=Z8.out;omega)⟩;clear F98;clear hk hB hBB;have F103:Aside0 (Kd.R k138 138 w20 w.heap.size (fun k=>w10.heap.size≤k∧k<w11.heap.size) (.slice A11 (gaps n lc ec).length c11) (marks mkG 2 1 (gaps n lc ec).length)):=⟨hm⟩;clear hm F99)
 go_upto_region 31 with (go_at_call 68;refine (heldG_any F103.out HRL.out).mono ?_;rintro e w21 ⟨rfl,hb⟩;have Z20:Aside0 (w20.heap.size≤w21.heap.size):=⟨hb.size⟩;have F104:Aside0 (Below w.heap.size w w21):=⟨below_step F100.out hb⟩;clear F100;have F105:Aside0 (w21.heap[gl]?=some (.cells #[.int .i64 n,.slice A l.length c] 25 (0,0))):=⟨blk_below F101.out hb⟩;clear F101;have F106:Aside0 (Kd.R k138 138 w21 w.heap.size (fun k=>w5.heap.size≤k∧k<w6.heap.size) (.slice A6 (gaps n lc ec).length c6) (gaps n lc ec)):=⟨Kd.R_below F102.out hb⟩;clear F102;have F107:Aside0 (Kd.R k138 138 w21 w.heap.size (fun k=>w10.heap.size≤k∧k<w11.heap.size) (.slice A11 (gaps n lc ec).length c11) (marks mkG 2 1 (gaps n lc ec).length)):=⟨Kd.R_below F103.out hb⟩;clear F103;clear hb)
 have kl0:w21.cell? ⟨gl,0,none⟩=some (.int .i64 n):=(blk_cell F105.out 0).trans rfl
 have kl1:w21.cell? ⟨gl,1,none⟩=some (.slice A l.length c):=(blk_cell F105.out 1).trans rfl
 go_upto_region 32 with (first|(go_at_call 24;refine (laws_toLayout.calls kTL n A c l n lc _ (Kd.C_below HR.out F104.out) HC.out ETL.out).mono ?_;rintro e w22 ⟨v,rfl,ho,hb⟩;have BSZ:=(F104.out).size;have Z21:Aside0 (w21.heap.size≤w22.heap.size):=⟨hb.size⟩;have F108:Aside0 (Below w.heap.size w w22):=⟨below_step F104.out hb⟩;clear F104;have F109:Aside0 (w22.heap[gl]?=some (.cells #[.int .i64 n,.slice A l.length c] 25 (0,0))):=⟨blk_below F105.out hb⟩;clear F105;have F110:Aside0 (Kd.R k138 138 w22 w.heap.size (fun k=>w5.heap.size≤k∧k<w6.heap.size) (.slice A6 (gaps n lc ec).length c6) (gaps n lc ec)):=⟨Kd.R_below F106.out hb⟩;clear F106;have F111:Aside0 (Kd.R k138 138 w22 w.heap.size (fun k=>w10.heap.size≤k∧k<w11.heap.size) (.slice A11 (gaps n lc ec).length c11) (marks mkG 2 1 (gaps n lc ec).length)):=⟨Kd.R_below F107.out hb⟩;clear F107;obtain ⟨A22,c22,rfl⟩:=Kd.R_slice ho;have F112:Aside0 (Kd.R k88 88 w22 w.heap.size (fun k=>w21.heap.size≤k∧k<w22.heap.size) (.slice A22 lc.length c22) lc):=⟨Kd.R_mono (Kd.R_lower (Kd.R_bound ho) BSZ) (fun k hq=>⟨hq.2.1,hq.2.2.1⟩)⟩;clear ho;clear hb BSZ)|(go_at_call 50;refine (laws_toEventS.calls kTE A1 c1 es ec _ (Kd.C_below HE.out F108.out) HEC.out ETE.out).mono ?_;rintro e w23 ⟨v,rfl,ho,hb⟩;have BSZ:=(F108.out).size;have Z22:Aside0 (w22.heap.size≤w23.heap.size):=⟨hb.size⟩;have F113:Aside0 (Below w.heap.size w w23):=⟨below_step F108.out hb⟩;clear F108;have F114:Aside0 (w23.heap[gl]?=some (.cells #[.int .i64 n,.slice A l.length c] 25 (0,0))):=⟨blk_below F109.out hb⟩;clear F109;have F115:Aside0 (Kd.R k138 138 w23 w.heap.size (fun k=>w5.heap.size≤k∧k<w6.heap.size) (.slice A6 (gaps n lc ec).length c6) (gaps n lc ec)):=⟨Kd.R_below F110.out hb⟩;clear F110;have F116:Aside0 (Kd.R k138 138 w23 w.heap.size (fun k=>w10.heap.size≤k∧k<w11.heap.size) (.slice A11 (gaps n lc ec).length c11) (marks mkG 2 1 (gaps n lc ec).length)):=⟨Kd.R_below F111.out hb⟩;clear F111;have F117:Aside0 (Kd.R k88 88 w23 w.heap.size (fun k=>w21.heap.size≤k∧k<w22.heap.size) (.slice A22 lc.length c22) lc):=⟨Kd.R_below F112.out hb⟩;clear F112;obtain ⟨A23,c23,rfl⟩:=Kd.R_slice ho;have F118:Aside0 (Kd.R k56 56 w23 w.heap.size (fun k=>w22.heap.size≤k∧k<w23.heap.size) (.slice A23 ec.length c23) ec):=⟨Kd.R_mono (Kd.R_lower (Kd.R_bound ho) BSZ) (fun k hq=>⟨hq.2.1,hq.2.2.1⟩)⟩;clear ho;clear hb BSZ)|(go_at_call 63;refine (gaps_is n _ _ lc _ _ ec _ (Kd.R_reads' F117.out).2.2 (Kd.R_reads' F117.out).2.1 (Kd.R_reads' F118.out).2.2 (Kd.R_reads' F118.out).2.1).mono ?_;rintro e w24 ⟨v,rfl,ho,hb⟩;have BSZ:=(F113.out).size;have Z23:Aside0 (w23.heap.size≤w24.heap.size):=⟨hb.size⟩;have F119:Aside0 (Below w.heap.size w w24):=⟨below_step F113.out hb⟩;clear F113;have F120:Aside0 (w24.heap[gl]?=some (.cells #[.int .i64 n,.slice A l.length c] 25 (0,0))):=⟨blk_below F114.out hb⟩;clear F114;have F121:Aside0 (Kd.R k138 138 w24 w.heap.size (fun k=>w5.heap.size≤k∧k<w6.heap.size) (.slice A6 (gaps n lc ec).length c6) (gaps n lc ec)):=⟨Kd.R_below F115.out hb⟩;clear F115;have F122:Aside0 (Kd.R k138 138 w24 w.heap.size (fun k=>w10.heap.size≤k∧k<w11.heap.size) (.slice A11 (gaps n lc ec).length c11) (marks mkG 2 1 (gaps n lc ec).length)):=⟨Kd.R_below F116.out hb⟩;clear F116;have F123:Aside0 (Kd.R k88 88 w24 w.heap.size (fun k=>w21.heap.size≤k∧k<w22.heap.size) (.slice A22 lc.length c22) lc):=⟨Kd.R_below F117.out hb⟩;clear F117;have F124:Aside0 (Kd.R k56 56 w24 w.heap.size (fun k=>w22.heap.size≤k∧k<w23.heap.size) (.slice A23 ec.length c23) ec):=⟨Kd.R_below F118.out hb⟩;clear F118;obtain ⟨A24,c24,rfl⟩:=Kd.R_slice ho;have F125:Aside0 (Kd.R k138 138 w24 w.heap.size (fun k=>w23.heap.size≤k∧k<w24.heap.size) (.slice A24 (gaps n lc ec).length c24) (gaps n lc ec)):=⟨Kd.R_mono (Kd.R_lower (Kd.R_bound ho) BSZ) (fun k hq=>⟨hq.2.1,hq.2.2.1⟩)⟩;clear ho;clear hb BSZ))
 clear kl0 kl1
 clear F123
 clear F124
 go_upto_region 34 with (go_at_call 66;refine (eqG_any F125.out F121.out HRL.out).mono ?_;rintro e w25 ⟨rfl,hb⟩;have Z24:Aside0 (w24.heap.size≤w25.heap.size):=⟨hb.size⟩;have F126:Aside0 (Below w.heap.size w w25):=⟨below_step F119.out hb⟩;clear F119;have F127:Aside0 (w25.heap[gl]?=some (.cells #[.int .i64 n,.slice A l.length c] 25 (0,0))):=⟨blk_below F120.out hb⟩;clear F120;have F128:Aside0 (Kd.R k138 138 w25 w.heap.size (fun k=>w5.heap.size≤k∧k<w6.heap.size) (.slice A6 (gaps n lc ec).length c6) (gaps n lc ec)):=⟨Kd.R_below F121.out hb⟩;clear F121;have F129:Aside0 (Kd.R k138 138 w25 w.heap.size (fun k=>w10.heap.size≤k∧k<w11.heap.size) (.slice A11 (gaps n lc ec).length c11) (marks mkG 2 1 (gaps n lc ec).length)):=⟨Kd.R_below F122.out hb⟩;clear F122;have F130:Aside0 (Kd.R k138 138 w25 w.heap.size (fun k=>w23.heap.size≤k∧k<w24.heap.size) (.slice A24 (gaps n lc ec).length c24) (gaps n lc ec)):=⟨Kd.R_below F125.out hb⟩;clear F125;clear hb)
 go_wp2_with (go_at_call 68;refine (heldG_any F129.out HRL.out).mono ?_;rintro e w26 ⟨rfl,hb⟩;have Z25:Aside0 (w25.heap.size≤w26.heap.size):=⟨hb.size⟩;have F131:Aside0 (Below w.heap.size w w26):=⟨below_step F126.out hb⟩;clear F126;have F132:Aside0 (w26.heap[gl]?=some (.cells #[.int .i64 n,.slice A l.length c] 25 (0,0))):=⟨blk_below F127.out hb⟩;clear F127;have F133:Aside0 (Kd.R k138 138 w26 w.heap.size (fun k=>w5.heap.size≤k∧k<w6.heap.size) (.slice A6 (gaps n lc ec).length c6) (gaps n lc ec)):=⟨Kd.R_below F128.out hb⟩;clear F128;have F134:Aside0 (Kd.R k138 138 w26 w.heap.size (fun k=>w10.heap.size≤k∧k<w11.heap.size) (.slice A11 (gaps n lc ec).length c11) (marks mkG 2 1 (gaps n lc ec).length)):=⟨Kd.R_below F129.out hb⟩;clear F129;have F135:Aside0 (Kd.R k138 138 w26 w.heap.size (fun k=>w23.heap.size≤k∧k<w24.heap.size) (.slice A24 (gaps n lc ec).length c24) (gaps n lc ec)):=⟨Kd.R_below F130.out hb⟩;clear F130;clear hb)
 go_ret
 exact ⟨rfl,F131.out⟩
theorem walk (n:Int) (A:Option Addr) (c:Nat) (l:List S160) (A1:Option Addr) (c1:Nat) (es:List S54) (w:World) (hr:Kd.C k160 w A l.length l) (hc:l.length≤c) (hr1:Kd.C k54 w A1 es.length es) (hc1:es.length≤c1) :
  Calls Try.prog 16 #[.agg #[.int .i64 n,.slice A l.length c],.slice A1 es.length c1] w fun e w'=>e=.returned (.bool true)∧Below w.heap.size w w':=by
 have b1:=hr.2.1
 have b2:=hr1.2.1
 have s1:=szLayout_eq n l 1048576 (by omega) (by omega) b1
 by_cases h:(1048576:Int)<l.length
 ·rw [if_pos h] at s1
  exact too1 n A c l A1 c1 es w hr hc hr1 hc1 _ s1 (by omega)
 rw [if_neg h] at s1
 have s2:=szEventS_eq es (1048576 - l.length) (by omega) (by omega) b2
 by_cases h2:(1048576:Int) - l.length<es.length
 ·rw [if_pos h2] at s2
  exact too2 n A c l A1 c1 es w hr hc hr1 hc1 _ _ s1 (by omega) s2 (by omega)
 rw [if_neg h2] at s2
 exact whole n A c l A1 c1 es w hr hc hr1 hc1 _ _ s1 (by omega) s2 (by omega) (l.map cvC) (es.map cvE) (by rw [List.length_map];omega) (by rw [List.length_map];omega) (toLayout_ev n l (by omega)) (toEventS_ev es (by omega))
end Go.Proofs.Ytpdnabhpkdchjaa.WalkFnExactGaps
namespace Go.Proofs.Ytpdnabhpkdchjaa.fnExactGaps
open Go.ChangeShapes Go.WideShapes Go.ChangeAt Go.RowKit Go.Proofs.Ytpdnabhpkdchjaa.Open Go.Proofs.Ytpdnabhpkdchjaa.P
set_option linter.unusedVariables false
set_option maxRecDepth 100000 in
theorem lifted (os : Os) (started : os.Started) (H : Type) (enc : TypeId × Value → H) :
    ReturnsInHanded {} Try.checked os 16 .any (Rows.fnExactGapsSpec.pre6 enc Try.prog Try.f16 Rows.fnExactGapsRow.domain false) (Rows.fnExactGapsSpec.post enc Try.prog Try.f16 false true false false) := by
  refine returnsInHanded_of_change_sized (C := Try.checked) Facts.own started (by kernel_rfl) Try.func16
    (ChangeSpec.witness6 (enc := enc) (C := Try.checked) false ⟨#[], #[.agg #[.int .i64 0, .slice none 0 0], .slice none 0 0], []⟩ 8 (by kernel_rfl) (by kernel_rfl) (by kernel_rfl) (by kernel_rfl)) ?_
  intro W base args ds gs before hval0 hW hcnd hsz0 _
  have hval : ∀ (j : Nat) t v, Try.f16.params[j]? = some t → args[j]? = some v → Value.okWide Try.prog W .any base t v := hval0
  have hW' := hW
  obtain ⟨p, q, hA0, hV, rfl, hfz, hnd⟩ := hW
  have hA : DataW.TrodAll enc Try.prog W 0 (fun _ => true) true Try.f16.params.toList args.toList ds p := hA0
  rw [Try.params16] at hA hval
  obtain ⟨v0, vs0, d0, ds0, p0, q0, hargs, rfl, rfl, h0, r0⟩ := trodAll_cons hA
  obtain ⟨v1, vs1, d1, ds1, p1, q1, rfl, rfl, rfl, h1, r1⟩ := trodAll_cons r0
  obtain ⟨rfl, rfl, rfl⟩ := trodAll_nil r1
  obtain rfl : args = #[v0, v1] := by cases args; simp_all
  obtain ⟨rfl, rfl⟩ := trodVars_none hV
  have k0 := h0
  have lt0 : ∀ x ∈ p0, x.block < W.heap.size := by obtain ⟨m, hm⟩ := k0; exact DataW.trod_lt m _ _ _ hm
  obtain ⟨n0, A0, c0, l0, rfl, hr0, hc0⟩ := arg_layout (hval 0 25 v0 rfl rfl) h0
  have k1 := h1
  have lt1 : ∀ x ∈ p1, x.block < W.heap.size := by obtain ⟨m, hm⟩ := k1; exact DataW.trod_lt m _ _ _ hm
  obtain ⟨A1, c1, l1, rfl, hr1, hc1⟩ := arg_slice Try.underlying67 oEvents (hval 1 67 v1 rfl rfl) h1
  clear hA0 hval0 hsz0
  refine (WalkFnExactGaps.walk n0 A0 c0 l0 A1 c1 l1 W hr0 hc0 hr1 hc1).mono fun e W' ⟨he, bel⟩ => ?_
  subst he
  exact ⟨_, rfl, _, _, _, [], _, [], hW', trodAll_mk1 (shut_bool Try.underlying4 _), (trodAll_cons_mk (Below.trod Facts.laidOut (by kernel_rfl) (of_decide_eq_true (by kernel_rfl)) k0 bel lt0) (trodAll_cons_mk (Below.trod Facts.laidOut (by kernel_rfl) (of_decide_eq_true (by kernel_rfl)) k1 bel lt1) trodAll_mk0)), rfl, bel.frame _, fun h => by cases h⟩
theorem k10 : (Rows.fnExactGapsRow.inPlace == Try.prog.inPlace 16) = true := by kernel_rfl
theorem k11 : (Rows.fnExactGapsRow.unfollowed == Try.prog.unfollowed 16) = true := by kernel_rfl
theorem k12 : (Rows.fnExactGapsRow.recurses == Try.prog.recurses 16) = true := by kernel_rfl
theorem k13 : (Rows.fnExactGapsRow.named == Try.prog.varsNamed 16) = true := by kernel_rfl
theorem over : Rows.fnExactGapsRow.holds Try.pinned (OpenSpec.ofChange Rows.fnExactGapsSpec) :=
  OpenClaim.holds_of_wide 16 Try.f16 rfl rfl rfl rfl rfl rfl rfl ⟨rfl, rfl, rfl, rfl, rfl⟩ rfl rfl rfl rfl rfl (by kernel_rfl) Try.func16
    (joined_of 16 Try.f16 Rows.fnExactGapsSpec Rows.fnExactGapsRow (by kernel_rfl) (by kernel_rfl) (by kernel_rfl) rfl rfl Facts.stopKnobs k10 k11 k12 k13 (by kernel_rfl) (by kernel_rfl) (by kernel_rfl) (by kernel_rfl) (by kernel_rfl) (by kernel_rfl) (by kernel_rfl) (by kernel_rfl) (by kernel_rfl) rfl rfl rfl rfl rfl rfl (by kernel_rfl) (by kernel_rfl) (by kernel_rfl))
    (of_decide_eq_true (by kernel_rfl)) (by unfold Func.isWrapper; rw [if_neg (by decide +kernel)]; exact ⟨rfl, rfl⟩)
    (fun os started H enc _ => lifted os started H enc)
theorem proved : Rows.FnExactGapsSaid := over
end Go.Proofs.Ytpdnabhpkdchjaa.fnExactGaps
namespace Go.Proofs.Ytpdnabhpkdchjaa
theorem fnExactGaps_holds : Rows.FnExactGapsSaid := fnExactGaps.proved
#print axioms fnExactGaps_holds
end Go.Proofs.Ytpdnabhpkdchjaa
