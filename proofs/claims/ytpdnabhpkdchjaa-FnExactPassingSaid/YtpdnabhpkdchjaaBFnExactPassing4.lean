/- The statement FnExactPassing holds of the given program, for every argument; there are no conditions. (Part 4 of 4.) -/
import Derived.Test.YtpdnabhpkdchjaaBFnExactPassing3
import Derived.ShutString
namespace Go.Proofs.Ytpdnabhpkdchjaa.P
open Go.RowKit Go.Proofs.YtpdnabhpkdchjaaW.PrintWords Go.Proofs.YtpdnabhpkdchjaaW.PrintLast Go.Proofs.YtpdnabhpkdchjaaW.PrintMore
attribute [local go_sem] max2_int min2_int max_two min_two max_three min_three max_four min_four
set_option linter.unusedVariables false
set_option linter.unusedSimpArgs false
def laws_markPostS.l0:Nat→List (S143)→Int→Int→Option (Int × (List (S143)))
 | 0,_,_,_=>none
 | k+1,x0,x1,x5=>if x5<(x0.length:Int) then (if 0≤x5 then ((some (x0.set (x5:Int).toNat (⟨x1,(rd_T143 x0 x5).f1,(rd_T143 x0 x5).f2⟩:S143):List (S143))).bind fun y1131=>((some (y1131.set (x5:Int).toNat (⟨(rd_T143 y1131 x5).f0,wrap64 (x1+1),(rd_T143 y1131 x5).f2⟩:S143):List (S143))).bind fun y1132=>(laws_markPostS.l0 k (y1132.set (x5:Int).toNat (⟨(rd_T143 y1132 x5).f0,(rd_T143 y1132 x5).f1,wrap64 ((wrap64 (x1+1))+1)⟩:S143)) (wrap64 ((wrap64 ((wrap64 (x1+1))+1))+1)) (wrap64 (x5+1))))) else (none)) else (some (x1,x0))
def laws_markPostS.f (k:Nat) (l0:List (S143)) (a1:Int):Option (Int × (List (S143))):=laws_markPostS.l0 k l0 a1 0
set_option maxHeartbeats 8000000 in
set_option maxRecDepth 100000 in
theorem laws_markPostS.calls (k:Nat) (P0_:Nat→Prop) (u9000_:Value) (l0:List (S143)) (a1:Int) (r1:Int) (r2:List (S143)) (w0 w:World) (hB:Below w0.heap.size w0 w) (ho0:Kd.R k143 143 w w0.heap.size P0_ u9000_ l0) (h:laws_markPostS.f k l0 a1=some (r1,r2)) :
  Calls Try.prog 84 #[u9000_,.int .i64 a1] w fun e w'=>e=.returned (.int .i64 r1)∧Kd.R k143 143 w' w0.heap.size (fun k_=>(P0_ k_ ∨ w.heap.size≤k_)) u9000_ r2∧Below w0.heap.size w0 w'∧Kept w w' (fun k_=>P0_ k_):=by
 have HO0:=Aside0.mk (show Kd.R k143 143 w w0.heap.size (fun k_=>(P0_ k_ ∨ w.heap.size≤k_)) u9000_ l0 from Kd.R_mono ho0 (fun k_ hk=>(.inl hk)))
 have HK:=Aside0.mk (Kept.refl w (fun k_=>P0_ k_))
 have HW0:=Aside0.mk hB.size
 have HB:=Aside0.mk hB
 clear hB
 have H:(laws_markPostS.l0 k l0 a1 0)=some (r1,r2):=h
 clear h
 have H':=Aside0.mk H
 clear H
 go_enter Try.func84,Try.ntmps84
 go_wp2
 go_loopg [1,5] k (fun kq v1 v5 w'=>∃ (x0_1:List (S143)) (x1_1:Int) (x5_1:Int),v1=.int .i64 x1_1∧v5=.int .i64 x5_1∧Aside0 (laws_markPostS.l0 kq x0_1 x1_1 x5_1=some (r1,r2))∧Aside0 (kq≤k)∧Aside0 (Kd.R k143 143 w' w0.heap.size (fun k_=>(P0_ k_ ∨ w.heap.size≤k_)) u9000_ x0_1)∧Aside0 (Kept w w' (fun k_=>P0_ k_))∧Aside0 (Below w0.heap.size w0 w'))
 case atStart=>exact ⟨(l0),(a1),(0),(by first|rfl|(simp;done)|(simp [*];done)),(by first|rfl|(simp;done)|(simp [*];done)),H',⟨Nat.le_refl _⟩,⟨by (with_reducible repeat (first|apply Kd.R_alloc|apply Kd.R_drewN|apply Kd.R_drew));exact HO0.out⟩,⟨by repeat (first|(with_reducible first|exact HK.out|apply Kept.alloc|apply Kept.drewN|apply Kept.drew)|exact HK.out)⟩,⟨by repeat (first|(with_reducible first|exact HB.out|apply below_alloc|apply pw_below_drewN|apply below_drew1)|exact HB.out)⟩⟩
 case round =>
  clear H'
  try clear p2
  obtain ⟨x0_1,x1_1,x5_1,rfl,rfl,HA,HK1,HO_0,HK,HB⟩:=hrel
  cases gk with
  | zero=>exact absurd HA.out (by simp [laws_markPostS.l0])
  | succ k1 =>
   have H:=HA.out
   clear HA
   simp only [laws_markPostS.l0] at H
   by_cases c3:x5_1<(x0_1.length:Int)
   ·rw [if_pos c3] at H
    have c3b0:decide (x5_1<(x0_1.length:Int))=true:=decide_eq_true c3
    clear c3
    by_cases c4:0≤x5_1
    ·rw [if_pos c4] at H
     have c4b0:decide (0≤x5_1)=true:=decide_eq_true c4
     clear c4
     obtain ⟨y1131,hy1131⟩:∃ y_:List (S143),y_=(x0_1.set (x5_1:Int).toNat (⟨x1_1,(rd_T143 x0_1 x5_1).f1,(rd_T143 x0_1 x5_1).f2⟩:S143)):=⟨_,rfl⟩
     replace H:((some (y1131.set (x5_1:Int).toNat (⟨(rd_T143 y1131 x5_1).f0,wrap64 (x1_1+1),(rd_T143 y1131 x5_1).f2⟩:S143):List (S143))).bind fun y1132=>(laws_markPostS.l0 k1 (y1132.set (x5_1:Int).toNat (⟨(rd_T143 y1132 x5_1).f0,(rd_T143 y1132 x5_1).f1,wrap64 ((wrap64 (x1_1+1))+1)⟩:S143)) (wrap64 ((wrap64 ((wrap64 (x1_1+1))+1))+1)) (wrap64 (x5_1+1))))=some (r1,r2):=by first|(rw [hy1131];with_reducible exact H)|(have H2_:=(Option.bind_some _ _).symm.trans H;rw [hy1131];with_reducible exact H2_)|(have H2_:=(Option.bind_some _ _).symm.trans H;with_reducible exact H2_)|with_reducible exact H|(rw [hy1131];exact H)|exact H
     have Ny1131:=Aside0.mk hy1131
     clear hy1131
     obtain ⟨y1132,hy1132⟩:∃ y_:List (S143),y_=(y1131.set (x5_1:Int).toNat (⟨(rd_T143 y1131 x5_1).f0,wrap64 (x1_1+1),(rd_T143 y1131 x5_1).f2⟩:S143)):=⟨_,rfl⟩
     replace H:(laws_markPostS.l0 k1 (y1132.set (x5_1:Int).toNat (⟨(rd_T143 y1132 x5_1).f0,(rd_T143 y1132 x5_1).f1,wrap64 ((wrap64 (x1_1+1))+1)⟩:S143)) (wrap64 ((wrap64 ((wrap64 (x1_1+1))+1))+1)) (wrap64 (x5_1+1)))=some (r1,r2):=by first|(rw [hy1132];with_reducible exact H)|(have H2_:=(Option.bind_some _ _).symm.trans H;rw [hy1132];with_reducible exact H2_)|(have H2_:=(Option.bind_some _ _).symm.trans H;with_reducible exact H2_)|with_reducible exact H|(rw [hy1132];exact H)|exact H
     have Ny1132:=Aside0.mk hy1132
     clear hy1132
     obtain ⟨y1133,hy1133⟩:∃ y_:List (S143),y_=(y1132.set (x5_1:Int).toNat (⟨(rd_T143 y1132 x5_1).f0,(rd_T143 y1132 x5_1).f1,wrap64 ((wrap64 (x1_1+1))+1)⟩:S143)):=⟨_,rfl⟩
     replace H:(laws_markPostS.l0 k1 y1133 (wrap64 ((wrap64 ((wrap64 (x1_1+1))+1))+1)) (wrap64 (x5_1+1)))=some (r1,r2):=by first|(rw [hy1133];with_reducible exact H)|(have H2_:=(Option.bind_some _ _).symm.trans H;rw [hy1133];with_reducible exact H2_)|(have H2_:=(Option.bind_some _ _).symm.trans H;with_reducible exact H2_)|with_reducible exact H|(rw [hy1133];exact H)|exact H
     have Ny1133:=Aside0.mk hy1133
     clear hy1133
     have H':=Aside0.mk H
     clear H
     obtain ⟨Ao8,co8,eo8⟩:=Kd.R_slice HO_0.out
     subst eo8
     have p5:0≤(x5_1:Int):=of_decide_eq_true (by first|(with_reducible assumption)|assumption)
     have q5:(x5_1:Int)<((x0_1.length:Int):Int):=of_decide_eq_true (by first|(with_reducible assumption)|assumption)
     obtain ⟨go5,co5,eo5,gb5,gl5,cl5,HG5⟩:=Kd.R_form HO_0.out (by omega)
     (first|cases eo5|(injection eo5 with ea_ en_ ec_;(first|subst ea_|(injection ea_ with ea_;subst ea_));subst ec_;clear en_))
     have GB5:=Aside0.mk gb5
     have GG5:=Aside0.mk HG5
     clear gb5 gl5 HG5
     have HMgo5:=Aside0.mk (show (P0_ go5 ∨ w.heap.size≤go5) from (HO_0.out.1 _ rfl))
     obtain ⟨ce5,hcl5,hM5,hcc5,hfr5⟩:=Kd.R_elem HO_0.out z143 (x5_1:Int) p5 q5
     obtain rfl:=k143_openM hM5
     have hx5_0:wr.cell? ⟨go5,(x5_1:Int).toNat * 3,none⟩=some (.int .i64 ((rd_T143 x0_1 x5_1).f0)):=hcc5 0 _ rfl
     have hx5_1:wr.cell? ⟨go5,(x5_1:Int).toNat * 3+1,none⟩=some (.int .i64 ((rd_T143 x0_1 x5_1).f1)):=hcc5 1 _ rfl
     have hx5_2:wr.cell? ⟨go5,(x5_1:Int).toNat * 3+2,none⟩=some (.int .i64 ((rd_T143 x0_1 x5_1).f2)):=hcc5 2 _ rfl
     have hf5_0:wr.frozen? ⟨go5,(x5_1:Int).toNat * 3,none⟩=false:=hfr5 0
     have hf5_1:wr.frozen? ⟨go5,(x5_1:Int).toNat * 3+1,none⟩=false:=hfr5 1
     have hf5_2:wr.frozen? ⟨go5,(x5_1:Int).toNat * 3+2,none⟩=false:=hfr5 2
     clear hcl5 hcc5 hfr5 hM5
     replace p5:=eq_true p5
     replace q5:=eq_true q5
     have HX9:=Aside0.mk (show Kd.R k143 143 wr w0.heap.size (fun k_=>(P0_ k_ ∨ w.heap.size≤k_)) (.slice (some ⟨go5,0,none⟩) x0_1.length co8) x0_1 from (by (with_reducible repeat (first|apply Kd.R_alloc|apply Kd.R_drewN|apply Kd.R_drew));exact HO_0.out))
     obtain ⟨ce9,hcl9,hM9,hcc9,hfr9⟩:=Kd.R_elem HX9.out z143 (x5_1:Int) (of_decide_eq_true (by first|(with_reducible assumption)|assumption)) (by have h_:(x5_1:Int)<((x0_1.length:Int):Int):=of_decide_eq_true (by first|(with_reducible assumption)|assumption);first|exact h_|(have e_:=(Kd.R_reads' HO_0.out).1;omega)|simpa using h_)
     obtain rfl:=k143_openM hM9
     have HP9:=Kd.R_seg HX9.out (x5_1:Int) (of_decide_eq_true (by first|(with_reducible assumption)|assumption)) (by have h_:(x5_1:Int)<((x0_1.length:Int):Int):=of_decide_eq_true (by first|(with_reducible assumption)|assumption);first|exact h_|(have e_:=(Kd.R_reads' HO_0.out).1;omega)|simpa using h_) (seg:=[.int .i64 x1_1]) (j:=0) hcl9 hcc9 (show 1≤3 from by decide) (x':=(⟨x1_1,(rd_T143 x0_1 x5_1).f1,(rd_T143 x0_1 x5_1).f2⟩:S143)) (k143_mkM _ _ _ (⟨x1_1,(rd_T143 x0_1 x5_1).f1,(rd_T143 x0_1 x5_1).f2⟩:S143) ) (fun _ hk=>hk)
     have hx9_0:=hcc9 0 _ rfl
     (try simp only [show (k143).sz=3 from rfl,Nat.mul_one,Nat.add_zero] at hx9_0)
     have hf9_0:=hfr9 0
     (try simp only [show (k143).sz=3 from rfl,Nat.mul_one,Nat.add_zero] at hf9_0)
     clear hcl9 hcc9 hfr9 hM9
     go_wp2_with (first|((with_reducible refine gate_store (t:=3) (p:=16) rfl ?_);refine store_event (t:=3) (p:=16) (v:=?vo_w10) (w1:=(wr.setCell ⟨go5,(x5_1:Int).toNat * 3,none⟩ (.int .i64 x1_1))) ?hg ?ho ?hn ?hr ?_;(case ho=>rfl);(case hg=>rfl);(case hn=>rfl);(case hr=>first|(go_simp;done)|(go_simp;rfl));intro w10 hw;have hg:wr.grownBy w10 (some go5):=(by rw [hw];exact HP9.2);have hp_:Kd.R k143 143 w10 w0.heap.size (fun k_=>(P0_ k_ ∨ w.heap.size≤k_)) (.slice (some ⟨go5,0,none⟩) x0_1.length co8) y1131:=(by rw [hw,Ny1131.out];exact HP9.1);clear HP9;have n0_:=Aside0.mk (hp_);have n1_:=Aside0.mk ((by rw [hw];exact below_set (HB.out) GB5.out:Below w0.heap.size w0 w10));have n2_:=Aside0.mk (Kept.of_grown (S:=(fun k_=>P0_ k_)) hg (by repeat (first|(with_reducible first|exact HK.out|apply Kept.alloc|apply Kept.drewN|apply Kept.drew)|exact HK.out)) (fun k_ e_=>(HO_0.out.1 k_ e_)));clear HO_0;clear HB;clear HK;have HO_0:=n0_;have HB:=n1_;have HK:=n2_;clear n0_ n1_ n2_;clear hg hw hp_;have p6:0≤(x5_1:Int):=of_decide_eq_true (by first|(with_reducible assumption)|assumption);have q6:(x5_1:Int)<((x0_1.length:Int):Int):=of_decide_eq_true (by first|(with_reducible assumption)|assumption);obtain ⟨ce6,hcl6,hM6,hcc6,hfr6⟩:=Kd.R_elem HO_0.out z143 (x5_1:Int) p6 q6;obtain rfl:=k143_openM hM6;have hx6_0:w10.cell? ⟨go5,(x5_1:Int).toNat * 3,none⟩=some (.int .i64 ((rd_T143 y1131 x5_1).f0)):=hcc6 0 _ rfl;have hx6_1:w10.cell? ⟨go5,(x5_1:Int).toNat * 3+1,none⟩=some (.int .i64 ((rd_T143 y1131 x5_1).f1)):=hcc6 1 _ rfl;have hx6_2:w10.cell? ⟨go5,(x5_1:Int).toNat * 3+2,none⟩=some (.int .i64 ((rd_T143 y1131 x5_1).f2)):=hcc6 2 _ rfl;have hf6_0:w10.frozen? ⟨go5,(x5_1:Int).toNat * 3,none⟩=false:=hfr6 0;have hf6_1:w10.frozen? ⟨go5,(x5_1:Int).toNat * 3+1,none⟩=false:=hfr6 1;have hf6_2:w10.frozen? ⟨go5,(x5_1:Int).toNat * 3+2,none⟩=false:=hfr6 2;clear hcl6 hcc6 hfr6 hM6;replace p6:=eq_true p6;replace q6:=eq_true q6;have HX11:=Aside0.mk (show Kd.R k143 143 w10 w0.heap.size (fun k_=>(P0_ k_ ∨ w.heap.size≤k_)) (.slice (some ⟨go5,0,none⟩) x0_1.length co8) y1131 from (by (with_reducible repeat (first|apply Kd.R_alloc|apply Kd.R_drewN|apply Kd.R_drew));exact HO_0.out));obtain ⟨ce11,hcl11,hM11,hcc11,hfr11⟩:=Kd.R_elem HX11.out z143 (x5_1:Int) (of_decide_eq_true (by first|(with_reducible assumption)|assumption)) (by have h_:(x5_1:Int)<((x0_1.length:Int):Int):=of_decide_eq_true (by first|(with_reducible assumption)|assumption);first|exact h_|(have e_:=(Kd.R_reads' HO_0.out).1;omega)|simpa using h_);obtain rfl:=k143_openM hM11;have HP11:=Kd.R_seg HX11.out (x5_1:Int) (of_decide_eq_true (by first|(with_reducible assumption)|assumption)) (by have h_:(x5_1:Int)<((x0_1.length:Int):Int):=of_decide_eq_true (by first|(with_reducible assumption)|assumption);first|exact h_|(have e_:=(Kd.R_reads' HO_0.out).1;omega)|simpa using h_) (seg:=[.int .i64 (wrap64 (x1_1+1))]) (j:=1) hcl11 hcc11 (show 2≤3 from by decide) (x':=(⟨(rd_T143 y1131 x5_1).f0,wrap64 (x1_1+1),(rd_T143 y1131 x5_1).f2⟩:S143)) (k143_mkM _ _ _ (⟨(rd_T143 y1131 x5_1).f0,wrap64 (x1_1+1),(rd_T143 y1131 x5_1).f2⟩:S143) ) (fun _ hk=>hk);have hx11_1:=hcc11 1 _ rfl;(try simp only [show (k143).sz=3 from rfl,Nat.mul_one,Nat.add_zero] at hx11_1);have hf11_1:=hfr11 1;(try simp only [show (k143).sz=3 from rfl,Nat.mul_one,Nat.add_zero] at hf11_1);clear hcl11 hcc11 hfr11 hM11)|((with_reducible refine gate_store (t:=3) (p:=23) rfl ?_);refine store_event (t:=3) (p:=23) (v:=?vo_w12) (w1:=(w10.setCell ⟨go5,(x5_1:Int).toNat * 3+1,none⟩ (.int .i64 (wrap64 (x1_1+1))))) ?hg ?ho ?hn ?hr ?_;(case ho=>rfl);(case hg=>rfl);(case hn=>rfl);(case hr=>first|(go_simp;done)|(go_simp;rfl));intro w12 hw;have hg:w10.grownBy w12 (some go5):=(by rw [hw];exact HP11.2);have hp_:Kd.R k143 143 w12 w0.heap.size (fun k_=>(P0_ k_ ∨ w.heap.size≤k_)) (.slice (some ⟨go5,0,none⟩) x0_1.length co8) y1132:=(by rw [hw,Ny1132.out];exact HP11.1);clear HP11;have n0_:=Aside0.mk (hp_);have n1_:=Aside0.mk ((by rw [hw];exact below_set (HB.out) GB5.out:Below w0.heap.size w0 w12));have n2_:=Aside0.mk (Kept.of_grown (S:=(fun k_=>P0_ k_)) hg (by repeat (first|(with_reducible first|exact HK.out|apply Kept.alloc|apply Kept.drewN|apply Kept.drew)|exact HK.out)) (fun k_ e_=>(HO_0.out.1 k_ e_)));clear HO_0;clear HB;clear HK;have HO_0:=n0_;have HB:=n1_;have HK:=n2_;clear n0_ n1_ n2_;clear hg hw hp_;have p7:0≤(x5_1:Int):=of_decide_eq_true (by first|(with_reducible assumption)|assumption);have q7:(x5_1:Int)<((x0_1.length:Int):Int):=of_decide_eq_true (by first|(with_reducible assumption)|assumption);obtain ⟨ce7,hcl7,hM7,hcc7,hfr7⟩:=Kd.R_elem HO_0.out z143 (x5_1:Int) p7 q7;obtain rfl:=k143_openM hM7;have hx7_0:w12.cell? ⟨go5,(x5_1:Int).toNat * 3,none⟩=some (.int .i64 ((rd_T143 y1132 x5_1).f0)):=hcc7 0 _ rfl;have hx7_1:w12.cell? ⟨go5,(x5_1:Int).toNat * 3+1,none⟩=some (.int .i64 ((rd_T143 y1132 x5_1).f1)):=hcc7 1 _ rfl;have hx7_2:w12.cell? ⟨go5,(x5_1:Int).toNat * 3+2,none⟩=some (.int .i64 ((rd_T143 y1132 x5_1).f2)):=hcc7 2 _ rfl;have hf7_0:w12.frozen? ⟨go5,(x5_1:Int).toNat * 3,none⟩=false:=hfr7 0;have hf7_1:w12.frozen? ⟨go5,(x5_1:Int).toNat * 3+1,none⟩=false:=hfr7 1;have hf7_2:w12.frozen? ⟨go5,(x5_1:Int).toNat * 3+2,none⟩=false:=hfr7 2;clear hcl7 hcc7 hfr7 hM7;replace p7:=eq_true p7;replace q7:=eq_true q7;have HX13:=Aside0.mk (show Kd.R k143 143 w12 w0.heap.size (fun k_=>(P0_ k_ ∨ w.heap.size≤k_)) (.slice (some ⟨go5,0,none⟩) x0_1.length co8) y1132 from (by (with_reducible repeat (first|apply Kd.R_alloc|apply Kd.R_drewN|apply Kd.R_drew));exact HO_0.out));obtain ⟨ce13,hcl13,hM13,hcc13,hfr13⟩:=Kd.R_elem HX13.out z143 (x5_1:Int) (of_decide_eq_true (by first|(with_reducible assumption)|assumption)) (by have h_:(x5_1:Int)<((x0_1.length:Int):Int):=of_decide_eq_true (by first|(with_reducible assumption)|assumption);first|exact h_|(have e_:=(Kd.R_reads' HO_0.out).1;omega)|simpa using h_);obtain rfl:=k143_openM hM13;have HP13:=Kd.R_seg HX13.out (x5_1:Int) (of_decide_eq_true (by first|(with_reducible assumption)|assumption)) (by have h_:(x5_1:Int)<((x0_1.length:Int):Int):=of_decide_eq_true (by first|(with_reducible assumption)|assumption);first|exact h_|(have e_:=(Kd.R_reads' HO_0.out).1;omega)|simpa using h_) (seg:=[.int .i64 (wrap64 ((wrap64 (x1_1+1))+1))]) (j:=2) hcl13 hcc13 (show 3≤3 from by decide) (x':=(⟨(rd_T143 y1132 x5_1).f0,(rd_T143 y1132 x5_1).f1,wrap64 ((wrap64 (x1_1+1))+1)⟩:S143)) (k143_mkM _ _ _ (⟨(rd_T143 y1132 x5_1).f0,(rd_T143 y1132 x5_1).f1,wrap64 ((wrap64 (x1_1+1))+1)⟩:S143) ) (fun _ hk=>hk);have hx13_2:=hcc13 2 _ rfl;(try simp only [show (k143).sz=3 from rfl,Nat.mul_one,Nat.add_zero] at hx13_2);have hf13_2:=hfr13 2;(try simp only [show (k143).sz=3 from rfl,Nat.mul_one,Nat.add_zero] at hf13_2);clear hcl13 hcc13 hfr13 hM13)|((with_reducible refine gate_store (t:=3) (p:=30) rfl ?_);refine store_event (t:=3) (p:=30) (v:=?vo_w14) (w1:=(w12.setCell ⟨go5,(x5_1:Int).toNat * 3+2,none⟩ (.int .i64 (wrap64 ((wrap64 (x1_1+1))+1))))) ?hg ?ho ?hn ?hr ?_;(case ho=>rfl);(case hg=>rfl);(case hn=>rfl);(case hr=>first|(go_simp;done)|(go_simp;rfl));intro w14 hw;have hg:w12.grownBy w14 (some go5):=(by rw [hw];exact HP13.2);have hp_:Kd.R k143 143 w14 w0.heap.size (fun k_=>(P0_ k_ ∨ w.heap.size≤k_)) (.slice (some ⟨go5,0,none⟩) x0_1.length co8) y1133:=(by rw [hw,Ny1133.out];exact HP13.1);clear HP13;have n0_:=Aside0.mk (hp_);have n1_:=Aside0.mk ((by rw [hw];exact below_set (HB.out) GB5.out:Below w0.heap.size w0 w14));have n2_:=Aside0.mk (Kept.of_grown (S:=(fun k_=>P0_ k_)) hg (by repeat (first|(with_reducible first|exact HK.out|apply Kept.alloc|apply Kept.drewN|apply Kept.drew)|exact HK.out)) (fun k_ e_=>(HO_0.out.1 k_ e_)));clear HO_0;clear HB;clear HK;have HO_0:=n0_;have HB:=n1_;have HK:=n2_;clear n0_ n1_ n2_;clear hg hw hp_))
     go_roundg k1
     case measure=>have:=HK1.out;omega
     case rel=>exact ⟨(y1133),(wrap64 ((wrap64 ((wrap64 (x1_1+1))+1))+1)),(wrap64 (x5_1+1)),(by first|rfl|(simp;done)|(simp [*];done)),(by first|rfl|(simp;done)|(simp [*];done)),H',⟨by have:=HK1.out;omega⟩,⟨by (with_reducible repeat (first|apply Kd.R_alloc|apply Kd.R_drewN|apply Kd.R_drew));exact HO_0.out⟩,⟨by repeat (first|(with_reducible first|exact HK.out|apply Kept.alloc|apply Kept.drewN|apply Kept.drew)|exact HK.out)⟩,⟨by repeat (first|(with_reducible first|exact HB.out|apply below_alloc|apply pw_below_drewN|apply below_drew1)|exact HB.out)⟩⟩
    rw [if_neg c4] at H
    exact absurd H (by simp)
   rw [if_neg c3] at H
   have c3b0:decide (x5_1<(x0_1.length:Int))=false:=decide_eq_false c3
   clear c3
   simp only [Option.some.injEq,Prod.mk.injEq] at H
   obtain ⟨rfl,rfl⟩:=H
   obtain ⟨Ao15,co15,eo15⟩:=Kd.R_slice HO_0.out
   subst eo15
   go_wp2
   go_ret
   exact ⟨by first|rfl|(simp [errW_none,errW_some] <;> rfl)|(simp [*,errW_none,errW_some] <;> rfl),by (with_reducible repeat (first|apply Kd.R_alloc|apply Kd.R_drewN|apply Kd.R_drew));exact HO_0.out,by repeat (first|(with_reducible first|exact HB.out|apply below_alloc|apply pw_below_drewN|apply below_drew1)|exact HB.out),by repeat (first|(with_reducible first|exact HK.out|apply Kept.alloc|apply Kept.drewN|apply Kept.drew)|exact HK.out)⟩
end Go.Proofs.Ytpdnabhpkdchjaa.P
namespace Go.Proofs.Ytpdnabhpkdchjaa.P
open Go.RowKit Go.Proofs.YtpdnabhpkdchjaaW.PrintWords Go.Proofs.YtpdnabhpkdchjaaW.PrintLast Go.Proofs.YtpdnabhpkdchjaaW.PrintMore
attribute [local go_sem] max2_int min2_int max_two min_two max_three min_three max_four min_four
set_option linter.unusedVariables false
set_option linter.unusedSimpArgs false
def laws_heldEventS.l0:Nat→List (S56)→Int→Int→Option (Int)
 | 0,_,_,_=>none
 | k+1,x0,x1,x5=>if x5<(x0.length:Int) then (if 0≤x5 then (if ((rd_T56 x0 x5).f0)=x1 then (if ((rd_T56 x0 x5).f1)=(wrap64 (x1+1)) then (if ((rd_T56 x0 x5).f2)=(wrap64 ((wrap64 (x1+1))+1)) then (laws_heldEventS.l0 k x0 (wrap64 ((wrap64 ((wrap64 (x1+1))+1))+1)) (wrap64 (x5+1))) else (some (-1))) else (some (-1))) else (some (-1))) else (none)) else (some x1)
def laws_heldEventS.f (k:Nat) (l0:List (S56)) (a1:Int):Option (Int):=laws_heldEventS.l0 k l0 a1 0
set_option maxHeartbeats 8000000 in
set_option maxRecDepth 100000 in
theorem laws_heldEventS.calls (k:Nat) (A0:Option Addr) (c0:Nat) (l0:List (S56)) (a1:Int) (r:Int) (w:World) (hr0:Kd.C k56 w A0 l0.length l0) (hc0:l0.length≤c0) (h:laws_heldEventS.f k l0 a1=some r) :
  Calls Try.prog 85 #[.slice A0 l0.length c0,.int .i64 a1] w fun e w'=>e=.returned (.int .i64 r)∧Drawn0 w w':=by
 have HR0:=Aside0.mk hr0
 have HC0:=Aside0.mk hc0
 clear hr0 hc0
 have H:(laws_heldEventS.l0 k l0 a1 0)=some r:=h
 clear h
 have H':=Aside0.mk H
 clear H
 go_enter Try.func85,Try.ntmps85
 go_wp2
 go_loopg [1,5] k (fun kq v1 v5 w'=>∃ (x1_1:Int) (x5_1:Int),v1=.int .i64 x1_1∧v5=.int .i64 x5_1∧Aside0 (laws_heldEventS.l0 kq l0 x1_1 x5_1=some r)∧Aside0 (kq≤k)∧Drawn0 w w')
 case atStart=>exact ⟨(a1),(0),(by first|rfl|(simp;done)|(simp [*];done)),(by first|rfl|(simp;done)|(simp [*];done)),H',⟨Nat.le_refl _⟩,by repeat (first|exact Drawn0.refl _|apply Drawn0.step)⟩
 case round =>
  clear H'
  try clear p2
  obtain ⟨x1_1,x5_1,rfl,rfl,HA,HK1,⟨m1,rfl⟩⟩:=hrel
  cases gk with
  | zero=>exact absurd HA.out (by simp [laws_heldEventS.l0])
  | succ k1 =>
   have H:=HA.out
   clear HA
   simp only [laws_heldEventS.l0] at H
   by_cases c3:x5_1<(l0.length:Int)
   ·rw [if_pos c3] at H
    have c3b0:decide (x5_1<(l0.length:Int))=true:=decide_eq_true c3
    clear c3
    by_cases c4:0≤x5_1
    ·rw [if_pos c4] at H
     have c4b0:decide (0≤x5_1)=true:=decide_eq_true c4
     clear c4
     by_cases c5:((rd_T56 l0 x5_1).f0)=x1_1
     ·rw [if_pos c5] at H
      have c5b0:(((rd_T56 l0 x5_1).f0)==x1_1)=true:=beq_iff_eq.mpr c5
      have c5b1:(((rd_T56 l0 x5_1).f0) != x1_1)=false:=bne_eq_false_iff_eq.mpr c5
      clear c5
      by_cases c6:((rd_T56 l0 x5_1).f1)=(wrap64 (x1_1+1))
      ·rw [if_pos c6] at H
       have c6b0:(((rd_T56 l0 x5_1).f1)==(wrap64 (x1_1+1)))=true:=beq_iff_eq.mpr c6
       have c6b1:(((rd_T56 l0 x5_1).f1) != (wrap64 (x1_1+1)))=false:=bne_eq_false_iff_eq.mpr c6
       clear c6
       by_cases c7:((rd_T56 l0 x5_1).f2)=(wrap64 ((wrap64 (x1_1+1))+1))
       ·rw [if_pos c7] at H
        have c7b0:(((rd_T56 l0 x5_1).f2)==(wrap64 ((wrap64 (x1_1+1))+1)))=true:=beq_iff_eq.mpr c7
        have c7b1:(((rd_T56 l0 x5_1).f2) != (wrap64 ((wrap64 (x1_1+1))+1)))=false:=bne_eq_false_iff_eq.mpr c7
        clear c7
        have H':=Aside0.mk H
        clear H
        have p1134:0≤(x5_1:Int):=of_decide_eq_true (by first|(with_reducible assumption)|assumption)
        have q1134:x5_1<(l0.length:Int):=of_decide_eq_true (by first|(with_reducible assumption)|assumption)
        obtain ⟨ad1134,e1134,hx1134_0,hx1134_1,hx1134_2⟩:=at_T56 HR0.out x5_1 p1134 q1134
        cases e1134
        replace p1134:=eq_true p1134
        replace q1134:=eq_true q1134
        have p1135:0≤(x5_1:Int):=of_decide_eq_true (by first|(with_reducible assumption)|assumption)
        have q1135:x5_1<(l0.length:Int):=of_decide_eq_true (by first|(with_reducible assumption)|assumption)
        obtain ⟨ad1135,e1135,hx1135_0,hx1135_1,hx1135_2⟩:=at_T56 HR0.out x5_1 p1135 q1135
        obtain rfl:ad1134=ad1135:=(by injection e1135)
        replace p1135:=eq_true p1135
        replace q1135:=eq_true q1135
        have p1136:0≤(x5_1:Int):=of_decide_eq_true (by first|(with_reducible assumption)|assumption)
        have q1136:x5_1<(l0.length:Int):=of_decide_eq_true (by first|(with_reducible assumption)|assumption)
        obtain ⟨ad1136,e1136,hx1136_0,hx1136_1,hx1136_2⟩:=at_T56 HR0.out x5_1 p1136 q1136
        obtain rfl:ad1134=ad1136:=(by injection e1136)
        replace p1136:=eq_true p1136
        replace q1136:=eq_true q1136
        go_wp2
        go_roundg k1
        case measure=>have:=HK1.out;omega
        case rel=>exact ⟨(wrap64 ((wrap64 ((wrap64 (x1_1+1))+1))+1)),(wrap64 (x5_1+1)),(by first|rfl|(simp;done)|(simp [*];done)),(by first|rfl|(simp;done)|(simp [*];done)),H',⟨by have:=HK1.out;omega⟩,by repeat (first|exact Drawn0.refl _|apply Drawn0.step)⟩
       rw [if_neg c7] at H
       have c7b0:(((rd_T56 l0 x5_1).f2)==(wrap64 ((wrap64 (x1_1+1))+1)))=false:=beq_eq_false_iff_ne.mpr c7
       have c7b1:(((rd_T56 l0 x5_1).f2) != (wrap64 ((wrap64 (x1_1+1))+1)))=true:=bne_iff_ne.mpr c7
       obtain rfl:=Option.some.inj H
       have p1134:0≤(x5_1:Int):=of_decide_eq_true (by first|(with_reducible assumption)|assumption)
       have q1134:x5_1<(l0.length:Int):=of_decide_eq_true (by first|(with_reducible assumption)|assumption)
       obtain ⟨ad1134,e1134,hx1134_0,hx1134_1,hx1134_2⟩:=at_T56 HR0.out x5_1 p1134 q1134
       cases e1134
       replace p1134:=eq_true p1134
       replace q1134:=eq_true q1134
       have p1135:0≤(x5_1:Int):=of_decide_eq_true (by first|(with_reducible assumption)|assumption)
       have q1135:x5_1<(l0.length:Int):=of_decide_eq_true (by first|(with_reducible assumption)|assumption)
       obtain ⟨ad1135,e1135,hx1135_0,hx1135_1,hx1135_2⟩:=at_T56 HR0.out x5_1 p1135 q1135
       obtain rfl:ad1134=ad1135:=(by injection e1135)
       replace p1135:=eq_true p1135
       replace q1135:=eq_true q1135
       have p1136:0≤(x5_1:Int):=of_decide_eq_true (by first|(with_reducible assumption)|assumption)
       have q1136:x5_1<(l0.length:Int):=of_decide_eq_true (by first|(with_reducible assumption)|assumption)
       obtain ⟨ad1136,e1136,hx1136_0,hx1136_1,hx1136_2⟩:=at_T56 HR0.out x5_1 p1136 q1136
       obtain rfl:ad1134=ad1136:=(by injection e1136)
       replace p1136:=eq_true p1136
       replace q1136:=eq_true q1136
       go_wp2
       go_ret
       exact ⟨by first|rfl|(simp;done)|(simp [*];done),by repeat (first|exact Drawn0.refl _|apply Drawn0.step)⟩
      rw [if_neg c6] at H
      have c6b0:(((rd_T56 l0 x5_1).f1)==(wrap64 (x1_1+1)))=false:=beq_eq_false_iff_ne.mpr c6
      have c6b1:(((rd_T56 l0 x5_1).f1) != (wrap64 (x1_1+1)))=true:=bne_iff_ne.mpr c6
      obtain rfl:=Option.some.inj H
      have p1134:0≤(x5_1:Int):=of_decide_eq_true (by first|(with_reducible assumption)|assumption)
      have q1134:x5_1<(l0.length:Int):=of_decide_eq_true (by first|(with_reducible assumption)|assumption)
      obtain ⟨ad1134,e1134,hx1134_0,hx1134_1,hx1134_2⟩:=at_T56 HR0.out x5_1 p1134 q1134
      cases e1134
      replace p1134:=eq_true p1134
      replace q1134:=eq_true q1134
      have p1135:0≤(x5_1:Int):=of_decide_eq_true (by first|(with_reducible assumption)|assumption)
      have q1135:x5_1<(l0.length:Int):=of_decide_eq_true (by first|(with_reducible assumption)|assumption)
      obtain ⟨ad1135,e1135,hx1135_0,hx1135_1,hx1135_2⟩:=at_T56 HR0.out x5_1 p1135 q1135
      obtain rfl:ad1134=ad1135:=(by injection e1135)
      replace p1135:=eq_true p1135
      replace q1135:=eq_true q1135
      go_wp2
      go_ret
      exact ⟨by first|rfl|(simp;done)|(simp [*];done),by repeat (first|exact Drawn0.refl _|apply Drawn0.step)⟩
     rw [if_neg c5] at H
     have c5b0:(((rd_T56 l0 x5_1).f0)==x1_1)=false:=beq_eq_false_iff_ne.mpr c5
     have c5b1:(((rd_T56 l0 x5_1).f0) != x1_1)=true:=bne_iff_ne.mpr c5
     obtain rfl:=Option.some.inj H
     have p1134:0≤(x5_1:Int):=of_decide_eq_true (by first|(with_reducible assumption)|assumption)
     have q1134:x5_1<(l0.length:Int):=of_decide_eq_true (by first|(with_reducible assumption)|assumption)
     obtain ⟨ad1134,e1134,hx1134_0,hx1134_1,hx1134_2⟩:=at_T56 HR0.out x5_1 p1134 q1134
     cases e1134
     replace p1134:=eq_true p1134
     replace q1134:=eq_true q1134
     go_wp2
     go_ret
     exact ⟨by first|rfl|(simp;done)|(simp [*];done),by repeat (first|exact Drawn0.refl _|apply Drawn0.step)⟩
    rw [if_neg c4] at H
    exact absurd H (by simp)
   rw [if_neg c3] at H
   have c3b0:decide (x5_1<(l0.length:Int))=false:=decide_eq_false c3
   clear c3
   obtain rfl:=Option.some.inj H
   go_wp2
   go_ret
   exact ⟨by first|rfl|(simp;done)|(simp [*];done),by repeat (first|exact Drawn0.refl _|apply Drawn0.step)⟩
end Go.Proofs.Ytpdnabhpkdchjaa.P
namespace Go.Proofs.Ytpdnabhpkdchjaa.P
open Go.RowKit Go.Proofs.YtpdnabhpkdchjaaW.PrintWords Go.Proofs.YtpdnabhpkdchjaaW.PrintLast
set_option linter.unusedVariables false
set_option linter.unusedSimpArgs false
theorem szPostS_eq (l : List S157) (left : Int) (h0 : 0 ≤ left) (h1 : left ≤ 1048576) (hl : l.length ≤ 9223372036854775807) :
    laws_szPostS.f l left = some (if left < (l.length : Int) then -1 else left - l.length) := by
  unfold laws_szPostS.f
  rw [wrap_id (by omega) (by omega)]
  by_cases h : left < (l.length : Int)
  · rw [if_pos (by omega), if_pos h]
  · rw [if_neg (by omega), if_neg h]
def cvP (x : S157) : S143 := ⟨x.f0, x.f1, x.f2⟩
theorem rd157 (l : List S157) (i : Nat) (h : i < l.length) : rd_T157 l (i : Int) = l[i] := by simp [rd_T157, h]
theorem toPostS_l0 (l : List S157) (hl : l.length ≤ 1048576) (d : Nat) : ∀ (i : Nat), i + d = l.length → Ev (fun k => laws_toPostS.l0 k l ((l.take i).map cvP ++ List.replicate d z143) i) (l.map cvP) := by
  induction d with
  | zero =>
    intro i hi
    refine Ev.step1 fun k => ?_
    simp only [laws_toPostS.l0]
    rw [if_neg (by omega), List.take_of_length_le (by omega)]
    simp
  | succ d ih =>
    intro i hi
    have hlt : i < l.length := by omega
    refine Ev.step (fun k => ?_) (ih (i + 1) (by omega))
    simp only [laws_toPostS.l0, laws_toPost.f]
    rw [if_pos (by omega), if_pos (by omega)]
    simp only [Option.bind_some]
    rw [if_pos (by simp; omega), wrap_succ (by omega), rd157 l i hlt]
    congr 1
    rw [Int.toNat_natCast, List.set_append_right _ _ (by simp; omega)]
    simp only [List.map_take, List.length_take, List.length_map, Nat.min_eq_left (Nat.le_of_lt hlt), Nat.sub_self, List.replicate_succ, List.set_cons_zero]
    rw [List.take_succ_eq_append_getElem (by simpa using hlt)]
    simp [cvP]
theorem toPostS_ev (l : List S157) (hl : l.length ≤ 1048576) : Ev (fun k => laws_toPostS.f k l) (l.map cvP) := by
  unfold laws_toPostS.f
  refine Ev.ite_pos (by omega) (Ev.ite_pos (by omega) ?_)
  simpa using toPostS_l0 l hl l.length 0 (by omega)
theorem eqPostS_l0 (l : List S143) (hl : l.length ≤ 1048576) (d : Nat) : ∀ (i : Nat), i + d = l.length → Ev (fun k => laws_eqPostS.l0 k l l i) true := by
  induction d with
  | zero => intro i hi; refine Ev.step1 fun k => ?_; simp only [laws_eqPostS.l0]; rw [if_neg (by omega)]
  | succ d ih =>
    intro i hi
    refine Ev.step (fun k => ?_) (ih (i + 1) (by omega))
    simp only [laws_eqPostS.l0, laws_eqPost.f, if_true, Option.bind_some]
    rw [if_pos (by omega), if_pos (by omega), if_pos (by omega), wrap_succ (by omega)]
theorem eqPostS_ev (l : List S143) (hl : l.length ≤ 1048576) : Ev (fun k => laws_eqPostS.f k l l) true := by
  unfold laws_eqPostS.f
  exact Ev.ite_pos rfl (eqPostS_l0 l hl l.length 0 (by omega))
theorem toIntS_l0 (l : List Int) (hl : l.length ≤ 1048576) (d : Nat) : ∀ (i : Nat), i + d = l.length → Ev (fun k => laws_toIntS.l0 k l (l.take i ++ List.replicate d 0) i) l := by
  induction d with
  | zero =>
    intro i hi
    refine Ev.step1 fun k => ?_
    simp only [laws_toIntS.l0]
    rw [if_neg (by omega), List.take_of_length_le (by omega)]
    simp
  | succ d ih =>
    intro i hi
    have hlt : i < l.length := by omega
    have hr : rd l (i : Int) = l[i] := by simp [rd, hlt]
    refine Ev.step (fun k => ?_) (ih (i + 1) (by omega))
    simp only [laws_toIntS.l0]
    rw [if_pos (by omega), if_pos (by omega), if_pos (by simp; omega), wrap_succ (by omega), hr]
    congr 1
    rw [Int.toNat_natCast, List.set_append_right _ _ (by simp; omega)]
    simp only [List.length_take, Nat.min_eq_left (Nat.le_of_lt hlt), Nat.sub_self, List.replicate_succ, List.set_cons_zero]
    rw [List.take_succ_eq_append_getElem hlt, List.append_assoc]
    rfl
theorem toIntS_ev (l : List Int) (hl : l.length ≤ 1048576) : Ev (fun k => laws_toIntS.f k l) l := by
  unfold laws_toIntS.f
  refine Ev.ite_pos (by omega) (Ev.ite_pos (by omega) ?_)
  simpa using toIntS_l0 l hl l.length 0 (by omega)
def mkPost (k : Int) : S143 := ⟨k, k + 1, k + 1 + 1⟩
theorem markPostS_l0 (l : List S143) (a : Int) (ha : 0 ≤ a) (hl : a + 3 * l.length ≤ 4611686018427387903) (d : Nat) : ∀ (i : Nat), i + d = l.length →
    Ev (fun k => laws_markPostS.l0 k ((marks mkPost 3 a l.length).take i ++ l.drop i) (a + 3 * i) i) (a + 3 * l.length, marks mkPost 3 a l.length) := by
  have hm : (marks mkPost 3 a l.length).length = l.length := marks_length _ _ _ _
  induction d with
  | zero =>
    intro i hi
    refine Ev.step1 fun k => ?_
    simp only [laws_markPostS.l0]
    rw [mid_length (by omega) hm, if_neg (by omega), List.take_of_length_le (by omega), List.drop_eq_nil_of_le (by omega), List.append_nil, show i = l.length by omega]
  | succ d ih =>
    intro i hi
    refine Ev.step (fun k => ?_) (ih (i + 1) (by omega))
    have hlen := mid_length (m := marks mkPost 3 a l.length) (l := l) (i := i) (by omega) hm
    simp only [laws_markPostS.l0, Option.bind_some]
    rw [hlen, if_pos (by omega), if_pos (by omega), wrap_succ (by omega), wrap_id (x := a + 3 * (i : Int) + 1) (by omega) (by omega), wrap_id (x := a + 3 * (i : Int) + 1 + 1) (by omega) (by omega), wrap_id (by omega) (by omega)]
    have rd_set : ∀ v : S143, rd_T143 (((marks mkPost 3 a l.length).take i ++ l.drop i).set i v) (i : Int) = v := by
      intro v
      simp only [rd_T143, Int.toNat_natCast]
      rw [List.getD_eq_getElem?_getD, List.getElem?_set_self (by omega), Option.getD_some]
    simp only [Int.toNat_natCast, List.set_set, rd_set]
    have hv : (⟨a + 3 * (i : Int), a + 3 * (i : Int) + 1, a + 3 * (i : Int) + 1 + 1⟩ : S143) = mkPost (a + 3 * i) := rfl
    rw [hv, set_mid (by omega) hm (v := mkPost (a + 3 * i)) (marks_get _ _ _ _ _ (by omega))]
    rw [show a + 3 * (i : Int) + 1 + 1 + 1 = a + 3 * ((i + 1 : Nat) : Int) by omega]
theorem markPostS_ev (l : List S143) (a : Int) (ha : 0 ≤ a) (hl : a + 3 * l.length ≤ 4611686018427387903) : Ev (fun k => laws_markPostS.f k l a) (a + 3 * l.length, marks mkPost 3 a l.length) := by
  unfold laws_markPostS.f
  simpa using markPostS_l0 l a ha hl l.length 0 (by omega)
def mkEvent (k : Int) : S56 := ⟨k, k + 1, k + 1 + 1⟩
theorem marksEventS_l0 (l : List S56) (a : Int) (ha : 0 ≤ a) (hl : a + 3 * l.length ≤ 4611686018427387903) (d : Nat) : ∀ (i : Nat), i + d = l.length →
    Ev (fun k => laws_markEventS.l0 k ((marks mkEvent 3 a l.length).take i ++ l.drop i) (a + 3 * i) i) (a + 3 * l.length, marks mkEvent 3 a l.length) := by
  have hm : (marks mkEvent 3 a l.length).length = l.length := marks_length _ _ _ _
  induction d with
  | zero =>
    intro i hi
    refine Ev.step1 fun k => ?_
    simp only [laws_markEventS.l0]
    rw [mid_length (by omega) hm, if_neg (by omega), List.take_of_length_le (by omega), List.drop_eq_nil_of_le (by omega), List.append_nil, show i = l.length by omega]
  | succ d ih =>
    intro i hi
    refine Ev.step (fun k => ?_) (ih (i + 1) (by omega))
    have hlen := mid_length (m := marks mkEvent 3 a l.length) (l := l) (i := i) (by omega) hm
    simp only [laws_markEventS.l0, Option.bind_some]
    rw [hlen, if_pos (by omega), if_pos (by omega), wrap_succ (by omega), wrap_id (x := a + 3 * (i : Int) + 1) (by omega) (by omega), wrap_id (x := a + 3 * (i : Int) + 1 + 1) (by omega) (by omega), wrap_id (by omega) (by omega)]
    have rd_set : ∀ v : S56, rd_T56 (((marks mkEvent 3 a l.length).take i ++ l.drop i).set i v) (i : Int) = v := by
      intro v
      simp only [rd_T56, Int.toNat_natCast]
      rw [List.getD_eq_getElem?_getD, List.getElem?_set_self (by omega), Option.getD_some]
    simp only [Int.toNat_natCast, List.set_set, rd_set]
    have hv : (⟨a + 3 * (i : Int), a + 3 * (i : Int) + 1, a + 3 * (i : Int) + 1 + 1⟩ : S56) = mkEvent (a + 3 * i) := rfl
    rw [hv, set_mid (by omega) hm (v := mkEvent (a + 3 * i)) (marks_get _ _ _ _ _ (by omega))]
    rw [show a + 3 * (i : Int) + 1 + 1 + 1 = a + 3 * ((i + 1 : Nat) : Int) by omega]
theorem marksEventS_ev (l : List S56) (a : Int) (ha : 0 ≤ a) (hl : a + 3 * l.length ≤ 4611686018427387903) : Ev (fun k => laws_markEventS.f k l a) (a + 3 * l.length, marks mkEvent 3 a l.length) := by
  unfold laws_markEventS.f
  simpa using marksEventS_l0 l a ha hl l.length 0 (by omega)
theorem heldEventS_l0 (m : Nat) (a : Int) (ha : 0 ≤ a) (hl : a + 3 * m ≤ 4611686018427387903) (d : Nat) : ∀ (i : Nat), i + d = m → Ev (fun k => laws_heldEventS.l0 k (marks mkEvent 3 a m) (a + 3 * i) i) (a + 3 * m) := by
  have hm : (marks mkEvent 3 a m).length = m := marks_length _ _ _ _
  induction d with
  | zero => intro i hi; refine Ev.step1 fun k => ?_; simp only [laws_heldEventS.l0]; rw [if_neg (by omega), show i = m by omega]
  | succ d ih =>
    intro i hi
    have hg : rd_T56 (marks mkEvent 3 a m) (i : Int) = mkEvent (a + 3 * i) := by
      simp only [rd_T56, Int.toNat_natCast]
      rw [List.getD_eq_getElem?_getD, List.getElem?_eq_getElem (by omega), Option.getD_some, marks_get _ _ _ _ _ (by omega)]
    refine Ev.step (fun k => ?_) (ih (i + 1) (by omega))
    simp only [laws_heldEventS.l0, hg, mkEvent]
    rw [if_pos (by omega), if_pos (by omega), if_pos trivial, wrap_id (x := a + 3 * (i : Int) + 1) (by omega) (by omega), if_pos rfl, wrap_id (x := a + 3 * (i : Int) + 1 + 1) (by omega) (by omega), if_pos rfl, wrap_id (by omega) (by omega), wrap_succ (by omega),
      show a + 3 * (i : Int) + 1 + 1 + 1 = a + 3 * ((i + 1 : Nat) : Int) by omega]
theorem heldEventS_ev (m : Nat) (a : Int) (ha : 0 ≤ a) (hl : a + 3 * m ≤ 4611686018427387903) : Ev (fun k => laws_heldEventS.f k (marks mkEvent 3 a m) a) (a + 3 * m) := by
  unfold laws_heldEventS.f
  simpa using heldEventS_l0 m a ha hl m 0 (by omega)
end Go.Proofs.Ytpdnabhpkdchjaa.P
namespace Go.Proofs.Ytpdnabhpkdchjaa.P
open Go.RowKit Go.Proofs.YtpdnabhpkdchjaaW.PrintWords Go.Proofs.YtpdnabhpkdchjaaW.PrintLast Go.Proofs.YtpdnabhpkdchjaaW.PrintMore
set_option linter.unusedVariables false
set_option linter.unusedSimpArgs false
section
variable {A A' : Option Addr} {n n' c c' : Nat} {t : List S56} {w0 w : World} {base base' : Nat} {ok ok' : Nat → Prop}
theorem markE_any (hB : Below w0.heap.size w0 w) (hH : Kd.R k56 56 w w0.heap.size ok (.slice A t.length c) t) (hok : ∀ k, ok k → w0.heap.size ≤ k) (hl : t.length ≤ 1000000) :
    Calls Try.prog 60 #[.slice A t.length c, .int .i64 1] w fun e w' => e = .returned (.int .i64 (1 + 3 * (t.length : Int))) ∧ Kd.R k56 56 w' w0.heap.size ok (.slice A t.length c) (marks mkEvent 3 1 t.length) ∧ Below w0.heap.size w0 w' ∧ Kept w w' ok := by
  obtain ⟨k, hk⟩ := (marksEventS_ev t 1 (by omega) (by omega)).rounds
  refine (laws_markEventS.calls k ok (.slice A t.length c) t 1 _ _ w0 w hB hH hk).mono ?_
  rintro e w' ⟨he, hr, hb, hk⟩
  exact ⟨he, Kd.R_reok rfl hr (fun k hk => hH.1 k hk), hb, hk⟩
theorem eqE_any (h1 : Kd.R k56 56 w base ok (.slice A n c) t) (h2 : Kd.R k56 56 w base' ok' (.slice A' n' c') t) (hl : t.length ≤ 1000000) :
    Calls Try.prog 52 #[.slice A n c, .slice A' n' c'] w fun e w' => e = .returned (.bool true) ∧ Below w.heap.size w w' := by
  obtain ⟨rfl, l1, r1⟩ := Kd.R_reads' h1
  obtain ⟨rfl, l2, r2⟩ := Kd.R_reads' h2
  obtain ⟨k, hk⟩ := (eqEventS_ev t (by omega)).rounds
  exact laws_eqEventS.calls k A c t A' c' t true w r1 l1 r2 l2 hk
theorem heldE_any (h1 : Kd.R k56 56 w base ok (.slice A n c) (marks mkEvent 3 1 t.length)) (hl : t.length ≤ 1000000) :
    Calls Try.prog 85 #[.slice A n c, .int .i64 1] w fun e w' => e = .returned (.int .i64 (1 + 3 * (t.length : Int))) ∧ Below w.heap.size w w' := by
  obtain ⟨rfl, l1, r1⟩ := Kd.R_reads' h1
  obtain ⟨k, hk⟩ := (heldEventS_ev t.length 1 (by omega) (by omega)).rounds
  exact (laws_heldEventS.calls k A c _ 1 _ w r1 l1 hk).mono fun e w' ⟨he, hd⟩ => ⟨he, hd.below⟩
end
end Go.Proofs.Ytpdnabhpkdchjaa.P
namespace Go.Proofs.Ytpdnabhpkdchjaa.WalkFnExactPassing
open Go.RowKit Go.Proofs.YtpdnabhpkdchjaaW.PrintWords Go.Proofs.YtpdnabhpkdchjaaW.PrintLast Go.Proofs.YtpdnabhpkdchjaaW.PrintMore P
attribute [local go_sem ↓] Go.wp_at_zero Go.wp_at_succ
set_option linter.unusedVariables false
set_option linter.unusedSimpArgs false
theorem passing_len (n : Int) (l : List S88) (ps : List S143) (ax : List Int) (fr tt : Int) : (passing n l ps ax fr tt).length ≤ 1000000 := by
  unfold passing
  split
  · rename_i h
    unfold passOk at h
    simp only [Bool.and_eq_true, decide_eq_true_eq] at h
    have h1 := h.1.1.1.2.2
    have h2 := h.1.1.2.2
    rw [trainEvs, List.length_map, sortM_len]
    exact Nat.le_trans (metTo_len ps ax fr tt ax.length) (Nat.le_trans (Nat.mul_le_mul h2 h1) (by omega))
  · simp
set_option maxHeartbeats 32000000 in
set_option maxRecDepth 100000 in
theorem too0 (n : Int) (A : Option Addr) (c : Nat) (l : List S160) (A1 : Option Addr) (c1 : Nat) (ps : List S157) (A2 : Option Addr) (c2 : Nat) (al : List Int) (fr tt : Int) (w : World) (hr : Kd.C k160 w A l.length l) (hc : l.length ≤ c) (hr1 : Kd.C k157 w A1 ps.length ps) (hc1 : ps.length ≤ c1) (hr2 : Kd.C (Kd.int .i64) w A2 al.length al) (hc2 : al.length ≤ c2) (h0 : 1048576 < al.length) :
    Calls Try.prog 20 #[.agg #[.int .i64 n, .slice A l.length c], .slice A1 ps.length c1, .slice A2 al.length c2, .int .i64 fr, .int .i64 tt] w fun e w' => e = .returned (.bool true) ∧ Below w.heap.size w w' := by
  have HR := Aside0.mk hr
  have HC := Aside0.mk hc
  have HE := Aside0.mk hr1
  have HEC := Aside0.mk hc1
  have HI := Aside0.mk hr2
  have HIC := Aside0.mk hc2
  clear hr hc hr1 hc1 hr2 hc2
  have h0b : decide ((al.length : Int) > 1048576) = true := decide_eq_true (by omega)
  have h0c : decide ((1048576 : Int) < (al.length : Int)) = true := decide_eq_true (by omega)
  go_enter Try.func20, Try.ntmps20
  go_upto_region 1 with ((with_reducible refine gate_dst (N := 5) rfl ?_); refine box_event ?hg (N := 5) ?hd (cs := #[.int .i64 n, .slice A l.length c]) (t := 25) ?hr ?_; (case hd => rfl); (case hg => rfl); (case hr => first | (go_simp; done) | (go_simp; rfl)); intro gl el w1 kl kb; have Z0 : Aside0 (w.heap.size ≤ w1.heap.size) := ⟨kb.size⟩; have F1 : Aside0 (Below w.heap.size w w1) := ⟨kb⟩; have F2 : Aside0 (w1.heap[gl]? = some (.cells #[.int .i64 n, .slice A l.length c] 25 (0, 0))) := ⟨kl⟩; have EG0 : Aside0 (gl = w.heap.size) := ⟨el⟩; have EG2 : Aside0 (gl < w1.heap.size) := ⟨blk_lt kl⟩; clear kb kl el)
  go_wp2_with fail
  go_ret
  exact ⟨rfl, F1.out⟩
set_option maxHeartbeats 32000000 in
set_option maxRecDepth 100000 in
theorem too1 (n : Int) (A : Option Addr) (c : Nat) (l : List S160) (A1 : Option Addr) (c1 : Nat) (ps : List S157) (A2 : Option Addr) (c2 : Nat) (al : List Int) (fr tt : Int) (w : World) (hr : Kd.C k160 w A l.length l) (hc : l.length ≤ c) (hr1 : Kd.C k157 w A1 ps.length ps) (hc1 : ps.length ≤ c1) (hr2 : Kd.C (Kd.int .i64) w A2 al.length al) (hc2 : al.length ≤ c2) (h0 : al.length ≤ 1048576) (m1 : Int) (h1 : laws_szLayout.f n l 1048576 = some m1) (hm : m1 < 0) :
    Calls Try.prog 20 #[.agg #[.int .i64 n, .slice A l.length c], .slice A1 ps.length c1, .slice A2 al.length c2, .int .i64 fr, .int .i64 tt] w fun e w' => e = .returned (.bool true) ∧ Below w.heap.size w w' := by
  have HR := Aside0.mk hr
  have HC := Aside0.mk hc
  have HE := Aside0.mk hr1
  have HEC := Aside0.mk hc1
  have HI := Aside0.mk hr2
  have HIC := Aside0.mk hc2
  clear hr hc hr1 hc1 hr2 hc2
  have h0b : decide ((al.length : Int) > 1048576) = false := decide_eq_false (by omega)
  have h0c : decide ((1048576 : Int) < (al.length : Int)) = false := decide_eq_false (by omega)
  have h0d : ¬ 1048576 < al.length := by omega
  have hmb : decide (m1 < 0) = true := decide_eq_true hm
  have H1 := Aside0.mk h1
  clear h1 hm h0
  go_enter Try.func20, Try.ntmps20
  go_upto_region 1 with ((with_reducible refine gate_dst (N := 5) rfl ?_); refine box_event ?hg (N := 5) ?hd (cs := #[.int .i64 n, .slice A l.length c]) (t := 25) ?hr ?_; (case hd => rfl); (case hg => rfl); (case hr => first | (go_simp; done) | (go_simp; rfl)); intro gl el w1 kl kb; have Z0 : Aside0 (w.heap.size ≤ w1.heap.size) := ⟨kb.size⟩; have F1 : Aside0 (Below w.heap.size w w1) := ⟨kb⟩; have F2 : Aside0 (w1.heap[gl]? = some (.cells #[.int .i64 n, .slice A l.length c] 25 (0, 0))) := ⟨kl⟩; have EG0 : Aside0 (gl = w.heap.size) := ⟨el⟩; have EG2 : Aside0 (gl < w1.heap.size) := ⟨blk_lt kl⟩; clear kb kl el)
  have kl0 : w1.cell? ⟨gl, 0, none⟩ = some (.int .i64 n) := (blk_cell F2.out 0).trans rfl
  have kl1 : w1.cell? ⟨gl, 1, none⟩ = some (.slice A l.length c) := (blk_cell F2.out 1).trans rfl
  go_wp2_with (go_at_call 22; refine (laws_szLayout.calls n A c l 1048576 m1 _ (Kd.C_below HR.out F1.out) HC.out H1.out).mono ?_; rintro e w2 ⟨rfl, hb⟩; have Z1 : Aside0 (w1.heap.size ≤ w2.heap.size) := ⟨hb.size⟩; have F3 : Aside0 (Below w.heap.size w w2) := ⟨below_step F1.out hb⟩; clear F1; have F4 : Aside0 (w2.heap[gl]? = some (.cells #[.int .i64 n, .slice A l.length c] 25 (0, 0))) := ⟨blk_below F2.out hb⟩; clear F2; clear hb)
  go_ret
  exact ⟨rfl, F3.out⟩
set_option maxHeartbeats 32000000 in
set_option maxRecDepth 100000 in
theorem too2 (n : Int) (A : Option Addr) (c : Nat) (l : List S160) (A1 : Option Addr) (c1 : Nat) (ps : List S157) (A2 : Option Addr) (c2 : Nat) (al : List Int) (fr tt : Int) (w : World) (hr : Kd.C k160 w A l.length l) (hc : l.length ≤ c) (hr1 : Kd.C k157 w A1 ps.length ps) (hc1 : ps.length ≤ c1) (hr2 : Kd.C (Kd.int .i64) w A2 al.length al) (hc2 : al.length ≤ c2) (h0 : al.length ≤ 1048576) (m1 m2 : Int) (h1 : laws_szLayout.f n l 1048576 = some m1) (hm : 0 ≤ m1) (h2 : laws_szPostS.f ps m1 = some m2) (hm2 : m2 < 0) :
    Calls Try.prog 20 #[.agg #[.int .i64 n, .slice A l.length c], .slice A1 ps.length c1, .slice A2 al.length c2, .int .i64 fr, .int .i64 tt] w fun e w' => e = .returned (.bool true) ∧ Below w.heap.size w w' := by
  have HR := Aside0.mk hr
  have HC := Aside0.mk hc
  have HE := Aside0.mk hr1
  have HEC := Aside0.mk hc1
  have HI := Aside0.mk hr2
  have HIC := Aside0.mk hc2
  clear hr hc hr1 hc1 hr2 hc2
  have h0b : decide ((al.length : Int) > 1048576) = false := decide_eq_false (by omega)
  have h0c : decide ((1048576 : Int) < (al.length : Int)) = false := decide_eq_false (by omega)
  have h0d : ¬ 1048576 < al.length := by omega
  have hmb : decide (m1 < 0) = false := decide_eq_false (by omega)
  have hmb2 : decide (m2 < 0) = true := decide_eq_true hm2
  have H1 := Aside0.mk h1
  have H2 := Aside0.mk h2
  clear h1 hm h2 hm2 h0
  go_enter Try.func20, Try.ntmps20
  go_upto_region 1 with ((with_reducible refine gate_dst (N := 5) rfl ?_); refine box_event ?hg (N := 5) ?hd (cs := #[.int .i64 n, .slice A l.length c]) (t := 25) ?hr ?_; (case hd => rfl); (case hg => rfl); (case hr => first | (go_simp; done) | (go_simp; rfl)); intro gl el w1 kl kb; have Z0 : Aside0 (w.heap.size ≤ w1.heap.size) := ⟨kb.size⟩; have F1 : Aside0 (Below w.heap.size w w1) := ⟨kb⟩; have F2 : Aside0 (w1.heap[gl]? = some (.cells #[.int .i64 n, .slice A l.length c] 25 (0, 0))) := ⟨kl⟩; have EG0 : Aside0 (gl = w.heap.size) := ⟨el⟩; have EG2 : Aside0 (gl < w1.heap.size) := ⟨blk_lt kl⟩; clear kb kl el)
  have kl0 : w1.cell? ⟨gl, 0, none⟩ = some (.int .i64 n) := (blk_cell F2.out 0).trans rfl
  have kl1 : w1.cell? ⟨gl, 1, none⟩ = some (.slice A l.length c) := (blk_cell F2.out 1).trans rfl
  go_upto_region 7 with (go_at_call 22; refine (laws_szLayout.calls n A c l 1048576 m1 _ (Kd.C_below HR.out F1.out) HC.out H1.out).mono ?_; rintro e w2 ⟨rfl, hb⟩; have Z1 : Aside0 (w1.heap.size ≤ w2.heap.size) := ⟨hb.size⟩; have F3 : Aside0 (Below w.heap.size w w2) := ⟨below_step F1.out hb⟩; clear F1; have F4 : Aside0 (w2.heap[gl]? = some (.cells #[.int .i64 n, .slice A l.length c] 25 (0, 0))) := ⟨blk_below F2.out hb⟩; clear F2; clear hb)
  clear kl0 kl1
  go_wp2_with (go_at_call 79; refine (laws_szPostS.calls A1 c1 ps m1 m2 _ (Kd.C_below HE.out F3.out) HEC.out H2.out).mono ?_; rintro e w3 ⟨rfl, hb0⟩; have hb := hb0.below; have Z2 : Aside0 (w2.heap.size ≤ w3.heap.size) := ⟨hb.size⟩; have F5 : Aside0 (Below w.heap.size w w3) := ⟨below_step F3.out hb⟩; clear F3; have F6 : Aside0 (w3.heap[gl]? = some (.cells #[.int .i64 n, .slice A l.length c] 25 (0, 0))) := ⟨blk_below F4.out hb⟩; clear F4; clear hb; clear hb0)
  go_ret
  exact ⟨rfl, F5.out⟩
set_option maxHeartbeats 32000000 in
set_option maxRecDepth 100000 in
theorem whole (n : Int) (A : Option Addr) (c : Nat) (l : List S160) (A1 : Option Addr) (c1 : Nat) (ps : List S157) (A2 : Option Addr) (c2 : Nat) (al : List Int) (fr tt : Int) (w : World) (hr : Kd.C k160 w A l.length l) (hc : l.length ≤ c) (hr1 : Kd.C k157 w A1 ps.length ps) (hc1 : ps.length ≤ c1) (hr2 : Kd.C (Kd.int .i64) w A2 al.length al) (hc2 : al.length ≤ c2) (h0 : al.length ≤ 1048576) (m1 m2 : Int) (h1 : laws_szLayout.f n l 1048576 = some m1) (hm : 0 ≤ m1) (h2 : laws_szPostS.f ps m1 = some m2) (hm2 : 0 ≤ m2) (lc : List S88) (pc : List S143) (hcl : lc.length ≤ 1048576) (hpl : pc.length ≤ 1048576) (evTL : Ev (fun k => laws_toLayout.f k n l) (n, lc)) (evTP : Ev (fun k => laws_toPostS.f k ps) pc) :
    Calls Try.prog 20 #[.agg #[.int .i64 n, .slice A l.length c], .slice A1 ps.length c1, .slice A2 al.length c2, .int .i64 fr, .int .i64 tt] w fun e w' => e = .returned (.bool true) ∧ Below w.heap.size w w' := by
  have HR := Aside0.mk hr
  have HC := Aside0.mk hc
  have HE := Aside0.mk hr1
  have HEC := Aside0.mk hc1
  have HI := Aside0.mk hr2
  have HIC := Aside0.mk hc2
  clear hr hc hr1 hc1 hr2 hc2
  have h0b : decide ((al.length : Int) > 1048576) = false := decide_eq_false (by omega)
  have h0c : decide ((1048576 : Int) < (al.length : Int)) = false := decide_eq_false (by omega)
  have h0d : ¬ 1048576 < al.length := by omega
  have hmb : decide (m1 < 0) = false := decide_eq_false (by omega)
  have hmb2 : decide (m2 < 0) = false := decide_eq_false (by omega)
  have H1 := Aside0.mk h1
  have H2 := Aside0.mk h2
  have HPL := Aside0.mk hpl
  have HAL := Aside0.mk h0
  clear h1 hm h2 hm2
  have HRL := Aside0.mk (passing_len n lc pc al fr tt)
  obtain ⟨kTL, hTL⟩ := (evTL).rounds
  have ETL := Aside0.mk hTL
  clear hTL
  obtain ⟨kTP, hTP⟩ := (evTP).rounds
  have ETP := Aside0.mk hTP
  clear hTP
  obtain ⟨kTI, hTI⟩ := (toIntS_ev al h0).rounds
  have ETI := Aside0.mk hTI
  clear hTI
  obtain ⟨kEL, hEL⟩ := (eqLayout_ev n lc hcl).rounds
  have EEL := Aside0.mk hEL
  clear hEL
  obtain ⟨kEP, hEP⟩ := (eqPostS_ev pc hpl).rounds
  have EEP := Aside0.mk hEP
  clear hEP
  obtain ⟨kEI, hEI⟩ := (eqIntS_ev al (by omega)).rounds
  have EEI := Aside0.mk hEI
  clear hEI
  obtain ⟨kML, hML⟩ := (markLayout_ev n lc 1 (by omega) (by omega)).rounds
  have EML := Aside0.mk hML
  clear hML
  obtain ⟨kMP, hMP⟩ := (markPostS_ev pc (1 + 2 * (lc.length : Int)) (by omega) (by omega)).rounds
  have EMP := Aside0.mk hMP
  clear hMP
  obtain ⟨kMI, hMI⟩ := (markIntS_ev al ((1 + 2 * (lc.length : Int)) + 3 * (pc.length : Int)) (by omega) (by omega)).rounds
  have EMI := Aside0.mk hMI
  clear hMI
  generalize hk3 : (((1 + 2 * (lc.length : Int)) + 3 * (pc.length : Int)) + (al.length : Int)) = k3 at EMI
  have hk3b : decide (k3 < 0) = false := decide_eq_false (by omega)
  clear hk3
  generalize hk2 : ((1 + 2 * (lc.length : Int)) + 3 * (pc.length : Int)) = k2 at EMP EMI
  clear hk2
  generalize hk1 : (1 + 2 * (lc.length : Int)) = k1 at EMP EML
  clear hk1
  have hmp : decide ((1 + 3 * ((passing n lc pc al fr tt).length : Int)) < 0) = false := decide_eq_false (by omega)
  clear hcl hpl h0 evTL evTP
  go_enter Try.func20, Try.ntmps20
  go_upto_region 1 with ((with_reducible refine gate_dst (N := 5) rfl ?_); refine box_event ?hg (N := 5) ?hd (cs := #[.int .i64 n, .slice A l.length c]) (t := 25) ?hr ?_; (case hd => rfl); (case hg => rfl); (case hr => first | (go_simp; done) | (go_simp; rfl)); intro gl el w1 kl kb; have Z0 : Aside0 (w.heap.size ≤ w1.heap.size) := ⟨kb.size⟩; have F1 : Aside0 (Below w.heap.size w w1) := ⟨kb⟩; have F2 : Aside0 (w1.heap[gl]? = some (.cells #[.int .i64 n, .slice A l.length c] 25 (0, 0))) := ⟨kl⟩; have EG0 : Aside0 (gl = w.heap.size) := ⟨el⟩; have EG2 : Aside0 (gl < w1.heap.size) := ⟨blk_lt kl⟩; clear kb kl el)
  have kl0 : w1.cell? ⟨gl, 0, none⟩ = some (.int .i64 n) := (blk_cell F2.out 0).trans rfl
  have kl1 : w1.cell? ⟨gl, 1, none⟩ = some (.slice A l.length c) := (blk_cell F2.out 1).trans rfl
  go_upto_region 7 with (go_at_call 22; refine (laws_szLayout.calls n A c l 1048576 m1 _ (Kd.C_below HR.out F1.out) HC.out H1.out).mono ?_; rintro e w2 ⟨rfl, hb⟩; have Z1 : Aside0 (w1.heap.size ≤ w2.heap.size) := ⟨hb.size⟩; have F3 : Aside0 (Below w.heap.size w w2) := ⟨below_step F1.out hb⟩; clear F1; have F4 : Aside0 (w2.heap[gl]? = some (.cells #[.int .i64 n, .slice A l.length c] 25 (0, 0))) := ⟨blk_below F2.out hb⟩; clear F2; clear hb)
  clear kl0 kl1
  go_upto_region 10 with (go_at_call 79; refine (laws_szPostS.calls A1 c1 ps m1 m2 _ (Kd.C_below HE.out F3.out) HEC.out H2.out).mono ?_; rintro e w3 ⟨rfl, hb0⟩; have hb := hb0.below; have Z2 : Aside0 (w2.heap.size ≤ w3.heap.size) := ⟨hb.size⟩; have F5 : Aside0 (Below w.heap.size w w3) := ⟨below_step F3.out hb⟩; clear F3; have F6 : Aside0 (w3.heap[gl]? = some (.cells #[.int .i64 n, .slice A l.length c] 25 (0, 0))) := ⟨blk_below F4.out hb⟩; clear F4; clear hb; clear hb0)
  clear h0b h0c h0d
  have kl0 : w3.cell? ⟨gl, 0, none⟩ = some (.int .i64 n) := (blk_cell F6.out 0).trans rfl
  have kl1 : w3.cell? ⟨gl, 1, none⟩ = some (.slice A l.length c) := (blk_cell F6.out 1).trans rfl
  go_upto_region 11 with (first | (go_at_call 24; refine (laws_toLayout.calls kTL n A c l n lc _ (Kd.C_below HR.out F5.out) HC.out ETL.out).mono ?_; rintro e w4 ⟨v, rfl, ho, hb⟩; have BSZ := (F5.out).size; have Z3 : Aside0 (w3.heap.size ≤ w4.heap.size) := ⟨hb.size⟩; have F7 : Aside0 (Below w.heap.size w w4) := ⟨below_step F5.out hb⟩; clear F5; have F8 : Aside0 (w4.heap[gl]? = some (.cells #[.int .i64 n, .slice A l.length c] 25 (0, 0))) := ⟨blk_below F6.out hb⟩; clear F6; obtain ⟨A4, c4, rfl⟩ := Kd.R_slice ho; have F9 : Aside0 (Kd.R k88 88 w4 w.heap.size (fun k => w3.heap.size ≤ k ∧ k < w4.heap.size) (.slice A4 lc.length c4) lc) := ⟨Kd.R_mono (Kd.R_lower (Kd.R_bound ho) BSZ) (fun k hq => ⟨hq.2.1, hq.2.2.1⟩)⟩; clear ho; clear hb BSZ) | (go_at_call 81; refine (laws_toPostS.calls kTP A1 c1 ps pc _ (Kd.C_below HE.out F7.out) HEC.out ETP.out).mono ?_; rintro e w5 ⟨v, rfl, ho, hb⟩; have BSZ := (F7.out).size; have Z4 : Aside0 (w4.heap.size ≤ w5.heap.size) := ⟨hb.size⟩; have F10 : Aside0 (Below w.heap.size w w5) := ⟨below_step F7.out hb⟩; clear F7; have F11 : Aside0 (w5.heap[gl]? = some (.cells #[.int .i64 n, .slice A l.length c] 25 (0, 0))) := ⟨blk_below F8.out hb⟩; clear F8; have F12 : Aside0 (Kd.R k88 88 w5 w.heap.size (fun k => w3.heap.size ≤ k ∧ k < w4.heap.size) (.slice A4 lc.length c4) lc) := ⟨Kd.R_below F9.out hb⟩; clear F9; obtain ⟨A5, c5, rfl⟩ := Kd.R_slice ho; have F13 : Aside0 (Kd.R k143 143 w5 w.heap.size (fun k => w4.heap.size ≤ k ∧ k < w5.heap.size) (.slice A5 pc.length c5) pc) := ⟨Kd.R_mono (Kd.R_lower (Kd.R_bound ho) BSZ) (fun k hq => ⟨hq.2.1, hq.2.2.1⟩)⟩; clear ho; clear hb BSZ) | (go_at_call 82; refine (laws_toIntS.calls kTI A2 c2 al al _ (Kd.C_below HI.out F10.out) HIC.out ETI.out).mono ?_; rintro e w6 ⟨v, rfl, ho, hb⟩; have BSZ := (F10.out).size; have Z5 : Aside0 (w5.heap.size ≤ w6.heap.size) := ⟨hb.size⟩; have F14 : Aside0 (Below w.heap.size w w6) := ⟨below_step F10.out hb⟩; clear F10; have F15 : Aside0 (w6.heap[gl]? = some (.cells #[.int .i64 n, .slice A l.length c] 25 (0, 0))) := ⟨blk_below F11.out hb⟩; clear F11; have F16 : Aside0 (Kd.R k88 88 w6 w.heap.size (fun k => w3.heap.size ≤ k ∧ k < w4.heap.size) (.slice A4 lc.length c4) lc) := ⟨Kd.R_below F12.out hb⟩; clear F12; have F17 : Aside0 (Kd.R k143 143 w6 w.heap.size (fun k => w4.heap.size ≤ k ∧ k < w5.heap.size) (.slice A5 pc.length c5) pc) := ⟨Kd.R_below F13.out hb⟩; clear F13; obtain ⟨A6, c6, rfl⟩ := Kd.R_slice ho; have F18 : Aside0 (Kd.R (Kd.int .i64) 3 w6 w.heap.size (fun k => w5.heap.size ≤ k ∧ k < w6.heap.size) (.slice A6 al.length c6) al) := ⟨Kd.R_mono (Kd.R_lower (Kd.R_bound ho) BSZ) (fun k hq => ⟨hq.2.1, hq.2.2.1⟩)⟩; clear ho; clear hb BSZ) | (go_at_call 80; refine (spassing_is n _ _ lc _ _ pc _ _ al fr tt _ (Kd.R_reads' F16.out).2.2 (Kd.R_reads' F16.out).2.1 (Kd.R_reads' F17.out).2.2 (Kd.R_reads' F17.out).2.1 (Kd.R_reads' F18.out).2.2 (Kd.R_reads' F18.out).2.1 HPL.out HAL.out).mono ?_; rintro e w7 ⟨v, rfl, ho, hb⟩; have BSZ := (F14.out).size; have Z6 : Aside0 (w6.heap.size ≤ w7.heap.size) := ⟨hb.size⟩; have F19 : Aside0 (Below w.heap.size w w7) := ⟨below_step F14.out hb⟩; clear F14; have F20 : Aside0 (w7.heap[gl]? = some (.cells #[.int .i64 n, .slice A l.length c] 25 (0, 0))) := ⟨blk_below F15.out hb⟩; clear F15; have F21 : Aside0 (Kd.R k88 88 w7 w.heap.size (fun k => w3.heap.size ≤ k ∧ k < w4.heap.size) (.slice A4 lc.length c4) lc) := ⟨Kd.R_below F16.out hb⟩; clear F16; have F22 : Aside0 (Kd.R k143 143 w7 w.heap.size (fun k => w4.heap.size ≤ k ∧ k < w5.heap.size) (.slice A5 pc.length c5) pc) := ⟨Kd.R_below F17.out hb⟩; clear F17; have F23 : Aside0 (Kd.R (Kd.int .i64) 3 w7 w.heap.size (fun k => w5.heap.size ≤ k ∧ k < w6.heap.size) (.slice A6 al.length c6) al) := ⟨Kd.R_below F18.out hb⟩; clear F18; obtain ⟨A7, c7, rfl⟩ := Kd.R_slice ho; have F24 : Aside0 (Kd.R k56 56 w7 w.heap.size (fun k => w6.heap.size ≤ k ∧ k < w7.heap.size) (.slice A7 (passing n lc pc al fr tt).length c7) (passing n lc pc al fr tt)) := ⟨Kd.R_mono (Kd.R_lower (Kd.R_bound ho) BSZ) (fun k hq => ⟨hq.2.1, hq.2.2.1⟩)⟩; clear ho; clear hb BSZ))
  clear kl0 kl1
  clear F21
  clear F22
  clear F23
  have kl0 : w7.cell? ⟨gl, 0, none⟩ = some (.int .i64 n) := (blk_cell F20.out 0).trans rfl
  have kl1 : w7.cell? ⟨gl, 1, none⟩ = some (.slice A l.length c) := (blk_cell F20.out 1).trans rfl
  go_upto_region 12 with (first | (go_at_call 24; refine (laws_toLayout.calls kTL n A c l n lc _ (Kd.C_below HR.out F19.out) HC.out ETL.out).mono ?_; rintro e w8 ⟨v, rfl, ho, hb⟩; have BSZ := (F19.out).size; have Z7 : Aside0 (w7.heap.size ≤ w8.heap.size) := ⟨hb.size⟩; have F25 : Aside0 (Below w.heap.size w w8) := ⟨below_step F19.out hb⟩; clear F19; have F26 : Aside0 (w8.heap[gl]? = some (.cells #[.int .i64 n, .slice A l.length c] 25 (0, 0))) := ⟨blk_below F20.out hb⟩; clear F20; have F27 : Aside0 (Kd.R k56 56 w8 w.heap.size (fun k => w6.heap.size ≤ k ∧ k < w7.heap.size) (.slice A7 (passing n lc pc al fr tt).length c7) (passing n lc pc al fr tt)) := ⟨Kd.R_below F24.out hb⟩; clear F24; obtain ⟨A8, c8, rfl⟩ := Kd.R_slice ho; have F28 : Aside0 (Kd.R k88 88 w8 w.heap.size (fun k => w7.heap.size ≤ k ∧ k < w8.heap.size) (.slice A8 lc.length c8) lc) := ⟨Kd.R_mono (Kd.R_lower (Kd.R_bound ho) BSZ) (fun k hq => ⟨hq.2.1, hq.2.2.1⟩)⟩; clear ho; clear hb BSZ) | ((with_reducible refine gate_dst (N := 13) rfl ?_); refine box_event ?hg (N := 13) ?hd (cs := #[.int .i64 0, .slice none 0 0]) (t := 30) ?hr ?_; (case hd => rfl); (case hg => rfl); (case hr => first | (go_simp; done) | (go_simp; rfl)); intro gx ex w9 kx bx; have zx0 := blk_frozen kx 0; have zx1 := blk_frozen kx 1; have kx0 := (blk_cell kx 0).trans (show _ = some (Value.int .i64 0) from rfl); have kx1 := (blk_cell kx 1).trans (show _ = some (Value.slice none 0 0) from rfl); have KX := Aside0.mk kx; have EX := Aside0.mk ex; have BX := Aside0.mk bx; clear kx ex bx))
  clear kl0 kl1
  have KY := Aside0.mk (blk_put (blk_put KX.out 0 (.int .i64 n) rfl) 1 (.slice A8 lc.length c8) rfl)
  have BY := Aside0.mk (below_set (j := 1) (v := (.slice A8 lc.length c8)) (below_set (j := 0) (v := .int .i64 n) BX.out (Nat.le_of_eq EX.out.symm)) (Nat.le_of_eq EX.out.symm))
  clear KX BX zx0 zx1 kx0 kx1
  generalize ((w9.setCell ⟨gx, 0, none⟩ (.int .i64 n)).setCell ⟨gx, 1, none⟩ (.slice A8 lc.length c8)) = w10 at KY BY ⊢
  have Z8 : Aside0 (w8.heap.size ≤ w10.heap.size) := ⟨BY.out.size⟩
  have F29 : Aside0 (Below w.heap.size w w10) := ⟨below_step F25.out BY.out⟩
  clear F25
  have F30 : Aside0 (w10.heap[gl]? = some (.cells #[.int .i64 n, .slice A l.length c] 25 (0, 0))) := ⟨blk_below F26.out BY.out⟩
  clear F26
  have F31 : Aside0 (Kd.R k56 56 w10 w.heap.size (fun k => w6.heap.size ≤ k ∧ k < w7.heap.size) (.slice A7 (passing n lc pc al fr tt).length c7) (passing n lc pc al fr tt)) := ⟨Kd.R_below F27.out BY.out⟩
  clear F27
  have F32 : Aside0 (Kd.R k88 88 w10 w.heap.size (fun k => w7.heap.size ≤ k ∧ k < w8.heap.size) (.slice A8 lc.length c8) lc) := ⟨Kd.R_below F28.out BY.out⟩
  clear F28
  clear BY
  have EX2 : Aside0 (gx < w10.heap.size) := ⟨blk_lt KY.out⟩
  go_upto_region 13 with (go_at_call 81; refine (laws_toPostS.calls kTP A1 c1 ps pc _ (Kd.C_below HE.out F29.out) HEC.out ETP.out).mono ?_; rintro e w11 ⟨v, rfl, ho, hb⟩; have BSZ := (F29.out).size; have Z9 : Aside0 (w10.heap.size ≤ w11.heap.size) := ⟨hb.size⟩; have F33 : Aside0 (Below w.heap.size w w11) := ⟨below_step F29.out hb⟩; clear F29; have F34 : Aside0 (w11.heap[gl]? = some (.cells #[.int .i64 n, .slice A l.length c] 25 (0, 0))) := ⟨blk_below F30.out hb⟩; clear F30; have F35 : Aside0 (Kd.R k56 56 w11 w.heap.size (fun k => w6.heap.size ≤ k ∧ k < w7.heap.size) (.slice A7 (passing n lc pc al fr tt).length c7) (passing n lc pc al fr tt)) := ⟨Kd.R_below F31.out hb⟩; clear F31; have F36 : Aside0 (Kd.R k88 88 w11 w.heap.size (fun k => w7.heap.size ≤ k ∧ k < w8.heap.size) (.slice A8 lc.length c8) lc) := ⟨Kd.R_below F32.out hb⟩; clear F32; have F37 : Aside0 (w11.heap[gx]? = some (.cells #[.int .i64 n, (.slice A8 lc.length c8)] 30 (0, 0))) := ⟨blk_below KY.out hb⟩; clear KY; obtain ⟨A11, c11, rfl⟩ := Kd.R_slice ho; have F38 : Aside0 (Kd.R k143 143 w11 w.heap.size (fun k => w10.heap.size ≤ k ∧ k < w11.heap.size) (.slice A11 pc.length c11) pc) := ⟨Kd.R_mono (Kd.R_lower (Kd.R_bound ho) BSZ) (fun k hq => ⟨hq.2.1, hq.2.2.1⟩)⟩; clear ho; clear hb BSZ)
  go_upto_region 14 with (go_at_call 82; refine (laws_toIntS.calls kTI A2 c2 al al _ (Kd.C_below HI.out F33.out) HIC.out ETI.out).mono ?_; rintro e w12 ⟨v, rfl, ho, hb⟩; have BSZ := (F33.out).size; have Z10 : Aside0 (w11.heap.size ≤ w12.heap.size) := ⟨hb.size⟩; have F39 : Aside0 (Below w.heap.size w w12) := ⟨below_step F33.out hb⟩; clear F33; have F40 : Aside0 (w12.heap[gl]? = some (.cells #[.int .i64 n, .slice A l.length c] 25 (0, 0))) := ⟨blk_below F34.out hb⟩; clear F34; have F41 : Aside0 (Kd.R k56 56 w12 w.heap.size (fun k => w6.heap.size ≤ k ∧ k < w7.heap.size) (.slice A7 (passing n lc pc al fr tt).length c7) (passing n lc pc al fr tt)) := ⟨Kd.R_below F35.out hb⟩; clear F35; have F42 : Aside0 (Kd.R k88 88 w12 w.heap.size (fun k => w7.heap.size ≤ k ∧ k < w8.heap.size) (.slice A8 lc.length c8) lc) := ⟨Kd.R_below F36.out hb⟩; clear F36; have F43 : Aside0 (w12.heap[gx]? = some (.cells #[.int .i64 n, (.slice A8 lc.length c8)] 30 (0, 0))) := ⟨blk_below F37.out hb⟩; clear F37; have F44 : Aside0 (Kd.R k143 143 w12 w.heap.size (fun k => w10.heap.size ≤ k ∧ k < w11.heap.size) (.slice A11 pc.length c11) pc) := ⟨Kd.R_below F38.out hb⟩; clear F38; obtain ⟨A12, c12, rfl⟩ := Kd.R_slice ho; have F45 : Aside0 (Kd.R (Kd.int .i64) 3 w12 w.heap.size (fun k => w11.heap.size ≤ k ∧ k < w12.heap.size) (.slice A12 al.length c12) al) := ⟨Kd.R_mono (Kd.R_lower (Kd.R_bound ho) BSZ) (fun k hq => ⟨hq.2.1, hq.2.2.1⟩)⟩; clear ho; clear hb BSZ)
  have kx0 : w12.cell? ⟨gx, 0, none⟩ = some (.int .i64 n) := (blk_cell F43.out 0).trans rfl
  have kx1 : w12.cell? ⟨gx, 1, none⟩ = some ((.slice A8 lc.length c8)) := (blk_cell F43.out 1).trans rfl
  go_upto_region 15 with (go_at_call 75; refine (ipassing_is n _ _ lc _ _ pc _ _ al fr tt _ (Kd.R_reads' F42.out).2.2 (Kd.R_reads' F42.out).2.1 (Kd.R_reads' F44.out).2.2 (Kd.R_reads' F44.out).2.1 (Kd.R_reads' F45.out).2.2 (Kd.R_reads' F45.out).2.1 HPL.out HAL.out).mono ?_; rintro e w13 ⟨v, rfl, ho, hb⟩; have BSZ := (F39.out).size; have Z11 : Aside0 (w12.heap.size ≤ w13.heap.size) := ⟨hb.size⟩; have F46 : Aside0 (Below w.heap.size w w13) := ⟨below_step F39.out hb⟩; clear F39; have F47 : Aside0 (w13.heap[gl]? = some (.cells #[.int .i64 n, .slice A l.length c] 25 (0, 0))) := ⟨blk_below F40.out hb⟩; clear F40; have F48 : Aside0 (Kd.R k56 56 w13 w.heap.size (fun k => w6.heap.size ≤ k ∧ k < w7.heap.size) (.slice A7 (passing n lc pc al fr tt).length c7) (passing n lc pc al fr tt)) := ⟨Kd.R_below F41.out hb⟩; clear F41; have F49 : Aside0 (Kd.R k88 88 w13 w.heap.size (fun k => w7.heap.size ≤ k ∧ k < w8.heap.size) (.slice A8 lc.length c8) lc) := ⟨Kd.R_below F42.out hb⟩; clear F42; have F50 : Aside0 (w13.heap[gx]? = some (.cells #[.int .i64 n, (.slice A8 lc.length c8)] 30 (0, 0))) := ⟨blk_below F43.out hb⟩; clear F43; have F51 : Aside0 (Kd.R k143 143 w13 w.heap.size (fun k => w10.heap.size ≤ k ∧ k < w11.heap.size) (.slice A11 pc.length c11) pc) := ⟨Kd.R_below F44.out hb⟩; clear F44; have F52 : Aside0 (Kd.R (Kd.int .i64) 3 w13 w.heap.size (fun k => w11.heap.size ≤ k ∧ k < w12.heap.size) (.slice A12 al.length c12) al) := ⟨Kd.R_below F45.out hb⟩; clear F45; obtain ⟨A13, c13, rfl⟩ := Kd.R_slice ho; have F53 : Aside0 (Kd.R k56 56 w13 w.heap.size (fun k => w12.heap.size ≤ k ∧ k < w13.heap.size) (.slice A13 (passing n lc pc al fr tt).length c13) (passing n lc pc al fr tt)) := ⟨Kd.R_mono (Kd.R_lower (Kd.R_bound ho) BSZ) (fun k hq => ⟨hq.2.1, hq.2.2.1⟩)⟩; clear ho; clear hb BSZ)
  clear kx0 kx1
  go_upto_region 17 with (go_at_call 52; refine (eqE_any F53.out F48.out HRL.out).mono ?_; rintro e w14 ⟨rfl, hb⟩; have Z12 : Aside0 (w13.heap.size ≤ w14.heap.size) := ⟨hb.size⟩; have F54 : Aside0 (Below w.heap.size w w14) := ⟨below_step F46.out hb⟩; clear F46; have F55 : Aside0 (w14.heap[gl]? = some (.cells #[.int .i64 n, .slice A l.length c] 25 (0, 0))) := ⟨blk_below F47.out hb⟩; clear F47; have F56 : Aside0 (Kd.R k56 56 w14 w.heap.size (fun k => w6.heap.size ≤ k ∧ k < w7.heap.size) (.slice A7 (passing n lc pc al fr tt).length c7) (passing n lc pc al fr tt)) := ⟨Kd.R_below F48.out hb⟩; clear F48; have F57 : Aside0 (Kd.R k88 88 w14 w.heap.size (fun k => w7.heap.size ≤ k ∧ k < w8.heap.size) (.slice A8 lc.length c8) lc) := ⟨Kd.R_below F49.out hb⟩; clear F49; have F58 : Aside0 (w14.heap[gx]? = some (.cells #[.int .i64 n, (.slice A8 lc.length c8)] 30 (0, 0))) := ⟨blk_below F50.out hb⟩; clear F50; have F59 : Aside0 (Kd.R k143 143 w14 w.heap.size (fun k => w10.heap.size ≤ k ∧ k < w11.heap.size) (.slice A11 pc.length c11) pc) := ⟨Kd.R_below F51.out hb⟩; clear F51; have F60 : Aside0 (Kd.R (Kd.int .i64) 3 w14 w.heap.size (fun k => w11.heap.size ≤ k ∧ k < w12.heap.size) (.slice A12 al.length c12) al) := ⟨Kd.R_below F52.out hb⟩; clear F52; have F61 : Aside0 (Kd.R k56 56 w14 w.heap.size (fun k => w12.heap.size ≤ k ∧ k < w13.heap.size) (.slice A13 (passing n lc pc al fr tt).length c13) (passing n lc pc al fr tt)) := ⟨Kd.R_below F53.out hb⟩; clear F53; clear hb)
  have kl0 : w14.cell? ⟨gl, 0, none⟩ = some (.int .i64 n) := (blk_cell F55.out 0).trans rfl
  have kl1 : w14.cell? ⟨gl, 1, none⟩ = some (.slice A l.length c) := (blk_cell F55.out 1).trans rfl
  have kx0 : w14.cell? ⟨gx, 0, none⟩ = some (.int .i64 n) := (blk_cell F58.out 0).trans rfl
  have kx1 : w14.cell? ⟨gx, 1, none⟩ = some ((.slice A8 lc.length c8)) := (blk_cell F58.out 1).trans rfl
  have Z13 : Aside0 (w14.heap.size ≤ w14.drew.heap.size) := ⟨(below_drew1 (Below.refl w14.heap.size w14)).size⟩
  have F62 : Aside0 (Below w.heap.size w w14.drew) := ⟨below_step F54.out (below_drew1 (Below.refl w14.heap.size w14))⟩
  clear F54
  have F63 : Aside0 (w14.drew.heap[gl]? = some (.cells #[.int .i64 n, .slice A l.length c] 25 (0, 0))) := ⟨blk_below F55.out (below_drew1 (Below.refl w14.heap.size w14))⟩
  clear F55
  have F64 : Aside0 (Kd.R k56 56 w14.drew w.heap.size (fun k => w6.heap.size ≤ k ∧ k < w7.heap.size) (.slice A7 (passing n lc pc al fr tt).length c7) (passing n lc pc al fr tt)) := ⟨Kd.R_below F56.out (below_drew1 (Below.refl w14.heap.size w14))⟩
  clear F56
  have F65 : Aside0 (Kd.R k88 88 w14.drew w.heap.size (fun k => w7.heap.size ≤ k ∧ k < w8.heap.size) (.slice A8 lc.length c8) lc) := ⟨Kd.R_below F57.out (below_drew1 (Below.refl w14.heap.size w14))⟩
  clear F57
  have F66 : Aside0 (w14.drew.heap[gx]? = some (.cells #[.int .i64 n, (.slice A8 lc.length c8)] 30 (0, 0))) := ⟨blk_below F58.out (below_drew1 (Below.refl w14.heap.size w14))⟩
  clear F58
  have F67 : Aside0 (Kd.R k143 143 w14.drew w.heap.size (fun k => w10.heap.size ≤ k ∧ k < w11.heap.size) (.slice A11 pc.length c11) pc) := ⟨Kd.R_below F59.out (below_drew1 (Below.refl w14.heap.size w14))⟩
  clear F59
  have F68 : Aside0 (Kd.R (Kd.int .i64) 3 w14.drew w.heap.size (fun k => w11.heap.size ≤ k ∧ k < w12.heap.size) (.slice A12 al.length c12) al) := ⟨Kd.R_below F60.out (below_drew1 (Below.refl w14.heap.size w14))⟩
  clear F60
  have F69 : Aside0 (Kd.R k56 56 w14.drew w.heap.size (fun k => w12.heap.size ≤ k ∧ k < w13.heap.size) (.slice A13 (passing n lc pc al fr tt).length c13) (passing n lc pc al fr tt)) := ⟨Kd.R_below F61.out (below_drew1 (Below.refl w14.heap.size w14))⟩
  clear F61
  go_region_held3 (fun w' => w'.cell? ⟨gl, 0, none⟩ = some (.int .i64 n) ∧ w'.cell? ⟨gl, 1, none⟩ = some (.slice A l.length c) ∧ w'.cell? ⟨gx, 0, none⟩ = some (.int .i64 n) ∧ w'.cell? ⟨gx, 1, none⟩ = some (.slice A8 lc.length c8))
    (first | go_keep | (go_split_ands; (repeat' apply And.intro) <;> (refine pw_cell_below hbk.out ?_; assumption)))
    (first | (go_at_call 24; refine (laws_toLayout.calls kTL n A c l n lc _ (Kd.C_below HR.out F62.out) HC.out ETL.out).mono ?_; rintro e w15 ⟨v, rfl, ho, hb⟩; have BSZ := (F62.out).size; have Z14 : Aside0 (w14.drew.heap.size ≤ w15.heap.size) := ⟨hb.size⟩; have F70 : Aside0 (Below w.heap.size w w15) := ⟨below_step F62.out hb⟩; clear F62; have F71 : Aside0 (w15.heap[gl]? = some (.cells #[.int .i64 n, .slice A l.length c] 25 (0, 0))) := ⟨blk_below F63.out hb⟩; clear F63; have F72 : Aside0 (Kd.R k56 56 w15 w.heap.size (fun k => w6.heap.size ≤ k ∧ k < w7.heap.size) (.slice A7 (passing n lc pc al fr tt).length c7) (passing n lc pc al fr tt)) := ⟨Kd.R_below F64.out hb⟩; clear F64; have F73 : Aside0 (Kd.R k88 88 w15 w.heap.size (fun k => w7.heap.size ≤ k ∧ k < w8.heap.size) (.slice A8 lc.length c8) lc) := ⟨Kd.R_below F65.out hb⟩; clear F65; have F74 : Aside0 (w15.heap[gx]? = some (.cells #[.int .i64 n, (.slice A8 lc.length c8)] 30 (0, 0))) := ⟨blk_below F66.out hb⟩; clear F66; have F75 : Aside0 (Kd.R k143 143 w15 w.heap.size (fun k => w10.heap.size ≤ k ∧ k < w11.heap.size) (.slice A11 pc.length c11) pc) := ⟨Kd.R_below F67.out hb⟩; clear F67; have F76 : Aside0 (Kd.R (Kd.int .i64) 3 w15 w.heap.size (fun k => w11.heap.size ≤ k ∧ k < w12.heap.size) (.slice A12 al.length c12) al) := ⟨Kd.R_below F68.out hb⟩; clear F68; have F77 : Aside0 (Kd.R k56 56 w15 w.heap.size (fun k => w12.heap.size ≤ k ∧ k < w13.heap.size) (.slice A13 (passing n lc pc al fr tt).length c13) (passing n lc pc al fr tt)) := ⟨Kd.R_below F69.out hb⟩; clear F69; obtain ⟨A15, c15, rfl⟩ := Kd.R_slice ho; have F78 : Aside0 (Kd.R k88 88 w15 w.heap.size (fun k => w14.drew.heap.size ≤ k ∧ k < w15.heap.size) (.slice A15 lc.length c15) lc) := ⟨Kd.R_mono (Kd.R_lower (Kd.R_bound ho) BSZ) (fun k hq => ⟨hq.2.1, hq.2.2.1⟩)⟩; clear ho; have hbk := Aside0.mk hb; clear hb BSZ) | (go_at_call 26; refine (laws_eqLayout.calls kEL n _ _ lc n _ _ lc true _ (Kd.R_reads' F73.out).2.2 (Kd.R_reads' F73.out).2.1 (Kd.R_reads' F78.out).2.2 (Kd.R_reads' F78.out).2.1 EEL.out).mono ?_; rintro e w16 ⟨rfl, hb⟩; have Z15 : Aside0 (w15.heap.size ≤ w16.heap.size) := ⟨hb.size⟩; have F79 : Aside0 (Below w.heap.size w w16) := ⟨below_step F70.out hb⟩; clear F70; have F80 : Aside0 (w16.heap[gl]? = some (.cells #[.int .i64 n, .slice A l.length c] 25 (0, 0))) := ⟨blk_below F71.out hb⟩; clear F71; have F81 : Aside0 (Kd.R k56 56 w16 w.heap.size (fun k => w6.heap.size ≤ k ∧ k < w7.heap.size) (.slice A7 (passing n lc pc al fr tt).length c7) (passing n lc pc al fr tt)) := ⟨Kd.R_below F72.out hb⟩; clear F72; have F82 : Aside0 (Kd.R k88 88 w16 w.heap.size (fun k => w7.heap.size ≤ k ∧ k < w8.heap.size) (.slice A8 lc.length c8) lc) := ⟨Kd.R_below F73.out hb⟩; clear F73; have F83 : Aside0 (w16.heap[gx]? = some (.cells #[.int .i64 n, (.slice A8 lc.length c8)] 30 (0, 0))) := ⟨blk_below F74.out hb⟩; clear F74; have F84 : Aside0 (Kd.R k143 143 w16 w.heap.size (fun k => w10.heap.size ≤ k ∧ k < w11.heap.size) (.slice A11 pc.length c11) pc) := ⟨Kd.R_below F75.out hb⟩; clear F75; have F85 : Aside0 (Kd.R (Kd.int .i64) 3 w16 w.heap.size (fun k => w11.heap.size ≤ k ∧ k < w12.heap.size) (.slice A12 al.length c12) al) := ⟨Kd.R_below F76.out hb⟩; clear F76; have F86 : Aside0 (Kd.R k56 56 w16 w.heap.size (fun k => w12.heap.size ≤ k ∧ k < w13.heap.size) (.slice A13 (passing n lc pc al fr tt).length c13) (passing n lc pc al fr tt)) := ⟨Kd.R_below F77.out hb⟩; clear F77; have F87 : Aside0 (Kd.R k88 88 w16 w.heap.size (fun k => w14.drew.heap.size ≤ k ∧ k < w15.heap.size) (.slice A15 lc.length c15) lc) := ⟨Kd.R_below F78.out hb⟩; clear F78; have hbk := Aside0.mk hb; clear hb))
  clear kl0 kl1 kx0 kx1
  clear F87
  go_upto_region 19 with fail
  go_upto_region 21 with (first | (go_at_call 81; refine (laws_toPostS.calls kTP A1 c1 ps pc _ (Kd.C_below HE.out F79.out) HEC.out ETP.out).mono ?_; rintro e w17 ⟨v, rfl, ho, hb⟩; have BSZ := (F79.out).size; have Z16 : Aside0 (w16.heap.size ≤ w17.heap.size) := ⟨hb.size⟩; have F88 : Aside0 (Below w.heap.size w w17) := ⟨below_step F79.out hb⟩; clear F79; have F89 : Aside0 (w17.heap[gl]? = some (.cells #[.int .i64 n, .slice A l.length c] 25 (0, 0))) := ⟨blk_below F80.out hb⟩; clear F80; have F90 : Aside0 (Kd.R k56 56 w17 w.heap.size (fun k => w6.heap.size ≤ k ∧ k < w7.heap.size) (.slice A7 (passing n lc pc al fr tt).length c7) (passing n lc pc al fr tt)) := ⟨Kd.R_below F81.out hb⟩; clear F81; have F91 : Aside0 (Kd.R k88 88 w17 w.heap.size (fun k => w7.heap.size ≤ k ∧ k < w8.heap.size) (.slice A8 lc.length c8) lc) := ⟨Kd.R_below F82.out hb⟩; clear F82; have F92 : Aside0 (w17.heap[gx]? = some (.cells #[.int .i64 n, (.slice A8 lc.length c8)] 30 (0, 0))) := ⟨blk_below F83.out hb⟩; clear F83; have F93 : Aside0 (Kd.R k143 143 w17 w.heap.size (fun k => w10.heap.size ≤ k ∧ k < w11.heap.size) (.slice A11 pc.length c11) pc) := ⟨Kd.R_below F84.out hb⟩; clear F84; have F94 : Aside0 (Kd.R (Kd.int .i64) 3 w17 w.heap.size (fun k => w11.heap.size ≤ k ∧ k < w12.heap.size) (.slice A12 al.length c12) al) := ⟨Kd.R_below F85.out hb⟩; clear F85; have F95 : Aside0 (Kd.R k56 56 w17 w.heap.size (fun k => w12.heap.size ≤ k ∧ k < w13.heap.size) (.slice A13 (passing n lc pc al fr tt).length c13) (passing n lc pc al fr tt)) := ⟨Kd.R_below F86.out hb⟩; clear F86; obtain ⟨A17, c17, rfl⟩ := Kd.R_slice ho; have F96 : Aside0 (Kd.R k143 143 w17 w.heap.size (fun k => w16.heap.size ≤ k ∧ k < w17.heap.size) (.slice A17 pc.length c17) pc) := ⟨Kd.R_mono (Kd.R_lower (Kd.R_bound ho) BSZ) (fun k hq => ⟨hq.2.1, hq.2.2.1⟩)⟩; clear ho; clear hb BSZ) | (go_at_call 83; refine (laws_eqPostS.calls kEP _ _ pc _ _ pc true _ (Kd.R_reads' F93.out).2.2 (Kd.R_reads' F93.out).2.1 (Kd.R_reads' F96.out).2.2 (Kd.R_reads' F96.out).2.1 EEP.out).mono ?_; rintro e w18 ⟨rfl, hb⟩; have Z17 : Aside0 (w17.heap.size ≤ w18.heap.size) := ⟨hb.size⟩; have F97 : Aside0 (Below w.heap.size w w18) := ⟨below_step F88.out hb⟩; clear F88; have F98 : Aside0 (w18.heap[gl]? = some (.cells #[.int .i64 n, .slice A l.length c] 25 (0, 0))) := ⟨blk_below F89.out hb⟩; clear F89; have F99 : Aside0 (Kd.R k56 56 w18 w.heap.size (fun k => w6.heap.size ≤ k ∧ k < w7.heap.size) (.slice A7 (passing n lc pc al fr tt).length c7) (passing n lc pc al fr tt)) := ⟨Kd.R_below F90.out hb⟩; clear F90; have F100 : Aside0 (Kd.R k88 88 w18 w.heap.size (fun k => w7.heap.size ≤ k ∧ k < w8.heap.size) (.slice A8 lc.length c8) lc) := ⟨Kd.R_below F91.out hb⟩; clear F91; have F101 : Aside0 (w18.heap[gx]? = some (.cells #[.int .i64 n, (.slice A8 lc.length c8)] 30 (0, 0))) := ⟨blk_below F92.out hb⟩; clear F92; have F102 : Aside0 (Kd.R k143 143 w18 w.heap.size (fun k => w10.heap.size ≤ k ∧ k < w11.heap.size) (.slice A11 pc.length c11) pc) := ⟨Kd.R_below F93.out hb⟩; clear F93; have F103 : Aside0 (Kd.R (Kd.int .i64) 3 w18 w.heap.size (fun k => w11.heap.size ≤ k ∧ k < w12.heap.size) (.slice A12 al.length c12) al) := ⟨Kd.R_below F94.out hb⟩; clear F94; have F104 : Aside0 (Kd.R k56 56 w18 w.heap.size (fun k => w12.heap.size ≤ k ∧ k < w13.heap.size) (.slice A13 (passing n lc pc al fr tt).length c13) (passing n lc pc al fr tt)) := ⟨Kd.R_below F95.out hb⟩; clear F95; have F105 : Aside0 (Kd.R k143 143 w18 w.heap.size (fun k => w16.heap.size ≤ k ∧ k < w17.heap.size) (.slice A17 pc.length c17) pc) := ⟨Kd.R_below F96.out hb⟩; clear F96; clear hb))
  clear F105
  go_upto_region 23 with (first | (go_at_call 82; refine (laws_toIntS.calls kTI A2 c2 al al _ (Kd.C_below HI.out F97.out) HIC.out ETI.out).mono ?_; rintro e w19 ⟨v, rfl, ho, hb⟩; have BSZ := (F97.out).size; have Z18 : Aside0 (w18.heap.size ≤ w19.heap.size) := ⟨hb.size⟩; have F106 : Aside0 (Below w.heap.size w w19) := ⟨below_step F97.out hb⟩; clear F97; have F107 : Aside0 (w19.heap[gl]? = some (.cells #[.int .i64 n, .slice A l.length c] 25 (0, 0))) := ⟨blk_below F98.out hb⟩; clear F98; have F108 : Aside0 (Kd.R k56 56 w19 w.heap.size (fun k => w6.heap.size ≤ k ∧ k < w7.heap.size) (.slice A7 (passing n lc pc al fr tt).length c7) (passing n lc pc al fr tt)) := ⟨Kd.R_below F99.out hb⟩; clear F99; have F109 : Aside0 (Kd.R k88 88 w19 w.heap.size (fun k => w7.heap.size ≤ k ∧ k < w8.heap.size) (.slice A8 lc.length c8) lc) := ⟨Kd.R_below F100.out hb⟩; clear F100; have F110 : Aside0 (w19.heap[gx]? = some (.cells #[.int .i64 n, (.slice A8 lc.length c8)] 30 (0, 0))) := ⟨blk_below F101.out hb⟩; clear F101; have F111 : Aside0 (Kd.R k143 143 w19 w.heap.size (fun k => w10.heap.size ≤ k ∧ k < w11.heap.size) (.slice A11 pc.length c11) pc) := ⟨Kd.R_below F102.out hb⟩; clear F102; have F112 : Aside0 (Kd.R (Kd.int .i64) 3 w19 w.heap.size (fun k => w11.heap.size ≤ k ∧ k < w12.heap.size) (.slice A12 al.length c12) al) := ⟨Kd.R_below F103.out hb⟩; clear F103; have F113 : Aside0 (Kd.R k56 56 w19 w.heap.size (fun k => w12.heap.size ≤ k ∧ k < w13.heap.size) (.slice A13 (passing n lc pc al fr tt).length c13) (passing n lc pc al fr tt)) := ⟨Kd.R_below F104.out hb⟩; clear F104; obtain ⟨A19, c19, rfl⟩ := Kd.R_slice ho; have F114 : Aside0 (Kd.R (Kd.int .i64) 3 w19 w.heap.size (fun k => w18.heap.size ≤ k ∧ k < w19.heap.size) (.slice A19 al.length c19) al) := ⟨Kd.R_mono (Kd.R_lower (Kd.R_bound ho) BSZ) (fun k hq => ⟨hq.2.1, hq.2.2.1⟩)⟩; clear ho; clear hb BSZ) | (go_at_call 39; refine (laws_eqIntS.calls kEI _ _ al _ _ al true _ (Kd.R_reads' F112.out).2.2 (Kd.R_reads' F112.out).2.1 (Kd.R_reads' F114.out).2.2 (Kd.R_reads' F114.out).2.1 EEI.out).mono ?_; rintro e w20 ⟨rfl, hb0⟩; have hb := hb0.below; have Z19 : Aside0 (w19.heap.size ≤ w20.heap.size) := ⟨hb.size⟩; have F115 : Aside0 (Below w.heap.size w w20) := ⟨below_step F106.out hb⟩; clear F106; have F116 : Aside0 (w20.heap[gl]? = some (.cells #[.int .i64 n, .slice A l.length c] 25 (0, 0))) := ⟨blk_below F107.out hb⟩; clear F107; have F117 : Aside0 (Kd.R k56 56 w20 w.heap.size (fun k => w6.heap.size ≤ k ∧ k < w7.heap.size) (.slice A7 (passing n lc pc al fr tt).length c7) (passing n lc pc al fr tt)) := ⟨Kd.R_below F108.out hb⟩; clear F108; have F118 : Aside0 (Kd.R k88 88 w20 w.heap.size (fun k => w7.heap.size ≤ k ∧ k < w8.heap.size) (.slice A8 lc.length c8) lc) := ⟨Kd.R_below F109.out hb⟩; clear F109; have F119 : Aside0 (w20.heap[gx]? = some (.cells #[.int .i64 n, (.slice A8 lc.length c8)] 30 (0, 0))) := ⟨blk_below F110.out hb⟩; clear F110; have F120 : Aside0 (Kd.R k143 143 w20 w.heap.size (fun k => w10.heap.size ≤ k ∧ k < w11.heap.size) (.slice A11 pc.length c11) pc) := ⟨Kd.R_below F111.out hb⟩; clear F111; have F121 : Aside0 (Kd.R (Kd.int .i64) 3 w20 w.heap.size (fun k => w11.heap.size ≤ k ∧ k < w12.heap.size) (.slice A12 al.length c12) al) := ⟨Kd.R_below F112.out hb⟩; clear F112; have F122 : Aside0 (Kd.R k56 56 w20 w.heap.size (fun k => w12.heap.size ≤ k ∧ k < w13.heap.size) (.slice A13 (passing n lc pc al fr tt).length c13) (passing n lc pc al fr tt)) := ⟨Kd.R_below F113.out hb⟩; clear F113; have F123 : Aside0 (Kd.R (Kd.int .i64) 3 w20 w.heap.size (fun k => w18.heap.size ≤ k ∧ k < w19.heap.size) (.slice A19 al.length c19) al) := ⟨Kd.R_below F114.out hb⟩; clear F114; clear hb; clear hb0))
  clear F123
  have kx0 : w20.cell? ⟨gx, 0, none⟩ = some (.int .i64 n) := (blk_cell F119.out 0).trans rfl
  have kx1 : w20.cell? ⟨gx, 1, none⟩ = some ((.slice A8 lc.length c8)) := (blk_cell F119.out 1).trans rfl
  go_upto_region 25 with (go_at_call 40; refine (laws_markLayout.calls kML n (fun k => w7.heap.size ≤ k ∧ k < w8.heap.size) _ lc 1 k1 _ w _ F115.out F118.out EML.out).mono ?_; rintro e w21 ⟨rfl, hm, hB, hk⟩; have hBB := hB; have Z20 : Aside0 (w20.heap.size ≤ w21.heap.size) := ⟨hk.1⟩; have F124 : Aside0 (Below w.heap.size w w21) := ⟨hB⟩; clear F115; have F125 : Aside0 (w21.heap[gl]? = some (.cells #[.int .i64 n, .slice A l.length c] 25 (0, 0))) := ⟨blk_kept F116.out hk (fun hq => by obtain ⟨hq1, hq2⟩ := hq; have := EG0.out; have := EG2.out; have := Z1.out; have := Z2.out; have := Z3.out; have := Z4.out; have := Z5.out; have := Z6.out; omega)⟩; clear F116; have F126 : Aside0 (Kd.R k56 56 w21 w.heap.size (fun k => w6.heap.size ≤ k ∧ k < w7.heap.size) (.slice A7 (passing n lc pc al fr tt).length c7) (passing n lc pc al fr tt)) := ⟨Kd.R_kept F117.out hk (fun k hq hr => by obtain ⟨hq1, hq2⟩ := hq; obtain ⟨hr1, hr2⟩ := hr; omega)⟩; clear F117; have F127 : Aside0 (w21.heap[gx]? = some (.cells #[.int .i64 n, (.slice A8 lc.length c8)] 30 (0, 0))) := ⟨blk_kept F119.out hk (fun hq => by obtain ⟨hq1, hq2⟩ := hq; have := EX.out; have := EX2.out; omega)⟩; clear F119; have F128 : Aside0 (Kd.R k143 143 w21 w.heap.size (fun k => w10.heap.size ≤ k ∧ k < w11.heap.size) (.slice A11 pc.length c11) pc) := ⟨Kd.R_kept F120.out hk (fun k hq hr => by obtain ⟨hq1, hq2⟩ := hq; obtain ⟨hr1, hr2⟩ := hr; have := Z8.out; omega)⟩; clear F120; have F129 : Aside0 (Kd.R (Kd.int .i64) 3 w21 w.heap.size (fun k => w11.heap.size ≤ k ∧ k < w12.heap.size) (.slice A12 al.length c12) al) := ⟨Kd.R_kept F121.out hk (fun k hq hr => by obtain ⟨hq1, hq2⟩ := hq; obtain ⟨hr1, hr2⟩ := hr; have := Z8.out; have := Z9.out; omega)⟩; clear F121; have F130 : Aside0 (Kd.R k56 56 w21 w.heap.size (fun k => w12.heap.size ≤ k ∧ k < w13.heap.size) (.slice A13 (passing n lc pc al fr tt).length c13) (passing n lc pc al fr tt)) := ⟨Kd.R_kept F122.out hk (fun k hq hr => by obtain ⟨hq1, hq2⟩ := hq; obtain ⟨hr1, hr2⟩ := hr; have := Z8.out; have := Z9.out; have := Z10.out; omega)⟩; clear F122; clear hk hB hBB; clear hm)
  clear kx0 kx1
  clear F118
  clear F127
  go_upto_region 26 with (go_at_call 84; refine (laws_markPostS.calls kMP (fun k => w10.heap.size ≤ k ∧ k < w11.heap.size) _ pc k1 k2 _ w _ F124.out F128.out EMP.out).mono ?_; rintro e w22 ⟨rfl, hm, hB, hk⟩; have hBB := hB; have Z21 : Aside0 (w21.heap.size ≤ w22.heap.size) := ⟨hk.1⟩; have F131 : Aside0 (Below w.heap.size w w22) := ⟨hB⟩; clear F124; have F132 : Aside0 (w22.heap[gl]? = some (.cells #[.int .i64 n, .slice A l.length c] 25 (0, 0))) := ⟨blk_kept F125.out hk (fun hq => by obtain ⟨hq1, hq2⟩ := hq; have := EG0.out; have := EG2.out; have := Z1.out; have := Z2.out; have := Z3.out; have := Z4.out; have := Z5.out; have := Z6.out; have := Z7.out; have := Z8.out; omega)⟩; clear F125; have F133 : Aside0 (Kd.R k56 56 w22 w.heap.size (fun k => w6.heap.size ≤ k ∧ k < w7.heap.size) (.slice A7 (passing n lc pc al fr tt).length c7) (passing n lc pc al fr tt)) := ⟨Kd.R_kept F126.out hk (fun k hq hr => by obtain ⟨hq1, hq2⟩ := hq; obtain ⟨hr1, hr2⟩ := hr; have := Z7.out; have := Z8.out; omega)⟩; clear F126; have F134 : Aside0 (Kd.R (Kd.int .i64) 3 w22 w.heap.size (fun k => w11.heap.size ≤ k ∧ k < w12.heap.size) (.slice A12 al.length c12) al) := ⟨Kd.R_kept F129.out hk (fun k hq hr => by obtain ⟨hq1, hq2⟩ := hq; obtain ⟨hr1, hr2⟩ := hr; omega)⟩; clear F129; have F135 : Aside0 (Kd.R k56 56 w22 w.heap.size (fun k => w12.heap.size ≤ k ∧ k < w13.heap.size) (.slice A13 (passing n lc pc al fr tt).length c13) (passing n lc pc al fr tt)) := ⟨Kd.R_kept F130.out hk (fun k hq hr => by obtain ⟨hq1, hq2⟩ := hq; obtain ⟨hr1, hr2⟩ := hr; have := Z10.out; omega)⟩; clear F130; clear hk hB hBB; clear hm)
  clear F128
  go_upto_region 27 with (go_at_call 41; refine (laws_markIntS.calls kMI (fun k => w11.heap.size ≤ k ∧ k < w12.heap.size) _ al k2 k3 _ w _ F131.out F134.out EMI.out).mono ?_; rintro e w23 ⟨rfl, hm, hB, hk⟩; have hBB := hB; have Z22 : Aside0 (w22.heap.size ≤ w23.heap.size) := ⟨hk.1⟩; have F136 : Aside0 (Below w.heap.size w w23) := ⟨hB⟩; clear F131; have F137 : Aside0 (w23.heap[gl]? = some (.cells #[.int .i64 n, .slice A l.length c] 25 (0, 0))) := ⟨blk_kept F132.out hk (fun hq => by obtain ⟨hq1, hq2⟩ := hq; have := EG0.out; have := EG2.out; have := Z1.out; have := Z2.out; have := Z3.out; have := Z4.out; have := Z5.out; have := Z6.out; have := Z7.out; have := Z8.out; have := Z9.out; omega)⟩; clear F132; have F138 : Aside0 (Kd.R k56 56 w23 w.heap.size (fun k => w6.heap.size ≤ k ∧ k < w7.heap.size) (.slice A7 (passing n lc pc al fr tt).length c7) (passing n lc pc al fr tt)) := ⟨Kd.R_kept F133.out hk (fun k hq hr => by obtain ⟨hq1, hq2⟩ := hq; obtain ⟨hr1, hr2⟩ := hr; have := Z7.out; have := Z8.out; have := Z9.out; omega)⟩; clear F133; have F139 : Aside0 (Kd.R k56 56 w23 w.heap.size (fun k => w12.heap.size ≤ k ∧ k < w13.heap.size) (.slice A13 (passing n lc pc al fr tt).length c13) (passing n lc pc al fr tt)) := ⟨Kd.R_kept F135.out hk (fun k hq hr => by obtain ⟨hq1, hq2⟩ := hq; obtain ⟨hr1, hr2⟩ := hr; omega)⟩; clear F135; clear hk hB hBB; clear hm)
  clear F134
  go_upto_region 29 with (go_at_call 52; refine (eqE_any F139.out F138.out HRL.out).mono ?_; rintro e w24 ⟨rfl, hb⟩; have Z23 : Aside0 (w23.heap.size ≤ w24.heap.size) := ⟨hb.size⟩; have F140 : Aside0 (Below w.heap.size w w24) := ⟨below_step F136.out hb⟩; clear F136; have F141 : Aside0 (w24.heap[gl]? = some (.cells #[.int .i64 n, .slice A l.length c] 25 (0, 0))) := ⟨blk_below F137.out hb⟩; clear F137; have F142 : Aside0 (Kd.R k56 56 w24 w.heap.size (fun k => w6.heap.size ≤ k ∧ k < w7.heap.size) (.slice A7 (passing n lc pc al fr tt).length c7) (passing n lc pc al fr tt)) := ⟨Kd.R_below F138.out hb⟩; clear F138; have F143 : Aside0 (Kd.R k56 56 w24 w.heap.size (fun k => w12.heap.size ≤ k ∧ k < w13.heap.size) (.slice A13 (passing n lc pc al fr tt).length c13) (passing n lc pc al fr tt)) := ⟨Kd.R_below F139.out hb⟩; clear F139; clear hb)
  have HS0 : Aside0 (w.heap.size ≤ w12.heap.size) := ⟨by have := Z0.out; have := Z1.out; have := Z2.out; have := Z3.out; have := Z4.out; have := Z5.out; have := Z6.out; have := Z7.out; have := Z8.out; have := Z9.out; have := Z10.out; omega⟩
  go_upto_region 31 with (go_at_call 60; refine (markE_any F140.out F143.out (fun k hq => Nat.le_trans HS0.out hq.1) HRL.out).mono ?_; rintro e w25 ⟨rfl, hm, hB, hk⟩; have hBB := hB; have Z24 : Aside0 (w24.heap.size ≤ w25.heap.size) := ⟨hk.1⟩; have F144 : Aside0 (Below w.heap.size w w25) := ⟨hB⟩; clear F140; have F145 : Aside0 (w25.heap[gl]? = some (.cells #[.int .i64 n, .slice A l.length c] 25 (0, 0))) := ⟨blk_kept F141.out hk (fun hq => by obtain ⟨hq1, hq2⟩ := hq; have := EG0.out; have := EG2.out; have := Z1.out; have := Z2.out; have := Z3.out; have := Z4.out; have := Z5.out; have := Z6.out; have := Z7.out; have := Z8.out; have := Z9.out; have := Z10.out; omega)⟩; clear F141; have F146 : Aside0 (Kd.R k56 56 w25 w.heap.size (fun k => w6.heap.size ≤ k ∧ k < w7.heap.size) (.slice A7 (passing n lc pc al fr tt).length c7) (passing n lc pc al fr tt)) := ⟨Kd.R_kept F142.out hk (fun k hq hr => by obtain ⟨hq1, hq2⟩ := hq; obtain ⟨hr1, hr2⟩ := hr; have := Z7.out; have := Z8.out; have := Z9.out; have := Z10.out; omega)⟩; clear F142; clear hk hB hBB; have F147 : Aside0 (Kd.R k56 56 w25 w.heap.size (fun k => w12.heap.size ≤ k ∧ k < w13.heap.size) (.slice A13 (passing n lc pc al fr tt).length c13) (marks mkEvent 3 1 (passing n lc pc al fr tt).length)) := ⟨hm⟩; clear hm F143)
  go_upto_region 37 with (go_at_call 85; refine (heldE_any F147.out HRL.out).mono ?_; rintro e w26 ⟨rfl, hb⟩; have Z25 : Aside0 (w25.heap.size ≤ w26.heap.size) := ⟨hb.size⟩; have F148 : Aside0 (Below w.heap.size w w26) := ⟨below_step F144.out hb⟩; clear F144; have F149 : Aside0 (w26.heap[gl]? = some (.cells #[.int .i64 n, .slice A l.length c] 25 (0, 0))) := ⟨blk_below F145.out hb⟩; clear F145; have F150 : Aside0 (Kd.R k56 56 w26 w.heap.size (fun k => w6.heap.size ≤ k ∧ k < w7.heap.size) (.slice A7 (passing n lc pc al fr tt).length c7) (passing n lc pc al fr tt)) := ⟨Kd.R_below F146.out hb⟩; clear F146; have F151 : Aside0 (Kd.R k56 56 w26 w.heap.size (fun k => w12.heap.size ≤ k ∧ k < w13.heap.size) (.slice A13 (passing n lc pc al fr tt).length c13) (marks mkEvent 3 1 (passing n lc pc al fr tt).length)) := ⟨Kd.R_below F147.out hb⟩; clear F147; clear hb)
  have kl0 : w26.cell? ⟨gl, 0, none⟩ = some (.int .i64 n) := (blk_cell F149.out 0).trans rfl
  have kl1 : w26.cell? ⟨gl, 1, none⟩ = some (.slice A l.length c) := (blk_cell F149.out 1).trans rfl
  go_upto_region 38 with (first | (go_at_call 24; refine (laws_toLayout.calls kTL n A c l n lc _ (Kd.C_below HR.out F148.out) HC.out ETL.out).mono ?_; rintro e w27 ⟨v, rfl, ho, hb⟩; have BSZ := (F148.out).size; have Z26 : Aside0 (w26.heap.size ≤ w27.heap.size) := ⟨hb.size⟩; have F152 : Aside0 (Below w.heap.size w w27) := ⟨below_step F148.out hb⟩; clear F148; have F153 : Aside0 (w27.heap[gl]? = some (.cells #[.int .i64 n, .slice A l.length c] 25 (0, 0))) := ⟨blk_below F149.out hb⟩; clear F149; have F154 : Aside0 (Kd.R k56 56 w27 w.heap.size (fun k => w6.heap.size ≤ k ∧ k < w7.heap.size) (.slice A7 (passing n lc pc al fr tt).length c7) (passing n lc pc al fr tt)) := ⟨Kd.R_below F150.out hb⟩; clear F150; have F155 : Aside0 (Kd.R k56 56 w27 w.heap.size (fun k => w12.heap.size ≤ k ∧ k < w13.heap.size) (.slice A13 (passing n lc pc al fr tt).length c13) (marks mkEvent 3 1 (passing n lc pc al fr tt).length)) := ⟨Kd.R_below F151.out hb⟩; clear F151; obtain ⟨A27, c27, rfl⟩ := Kd.R_slice ho; have F156 : Aside0 (Kd.R k88 88 w27 w.heap.size (fun k => w26.heap.size ≤ k ∧ k < w27.heap.size) (.slice A27 lc.length c27) lc) := ⟨Kd.R_mono (Kd.R_lower (Kd.R_bound ho) BSZ) (fun k hq => ⟨hq.2.1, hq.2.2.1⟩)⟩; clear ho; clear hb BSZ) | (go_at_call 81; refine (laws_toPostS.calls kTP A1 c1 ps pc _ (Kd.C_below HE.out F152.out) HEC.out ETP.out).mono ?_; rintro e w28 ⟨v, rfl, ho, hb⟩; have BSZ := (F152.out).size; have Z27 : Aside0 (w27.heap.size ≤ w28.heap.size) := ⟨hb.size⟩; have F157 : Aside0 (Below w.heap.size w w28) := ⟨below_step F152.out hb⟩; clear F152; have F158 : Aside0 (w28.heap[gl]? = some (.cells #[.int .i64 n, .slice A l.length c] 25 (0, 0))) := ⟨blk_below F153.out hb⟩; clear F153; have F159 : Aside0 (Kd.R k56 56 w28 w.heap.size (fun k => w6.heap.size ≤ k ∧ k < w7.heap.size) (.slice A7 (passing n lc pc al fr tt).length c7) (passing n lc pc al fr tt)) := ⟨Kd.R_below F154.out hb⟩; clear F154; have F160 : Aside0 (Kd.R k56 56 w28 w.heap.size (fun k => w12.heap.size ≤ k ∧ k < w13.heap.size) (.slice A13 (passing n lc pc al fr tt).length c13) (marks mkEvent 3 1 (passing n lc pc al fr tt).length)) := ⟨Kd.R_below F155.out hb⟩; clear F155; have F161 : Aside0 (Kd.R k88 88 w28 w.heap.size (fun k => w26.heap.size ≤ k ∧ k < w27.heap.size) (.slice A27 lc.length c27) lc) := ⟨Kd.R_below F156.out hb⟩; clear F156; obtain ⟨A28, c28, rfl⟩ := Kd.R_slice ho; have F162 : Aside0 (Kd.R k143 143 w28 w.heap.size (fun k => w27.heap.size ≤ k ∧ k < w28.heap.size) (.slice A28 pc.length c28) pc) := ⟨Kd.R_mono (Kd.R_lower (Kd.R_bound ho) BSZ) (fun k hq => ⟨hq.2.1, hq.2.2.1⟩)⟩; clear ho; clear hb BSZ) | (go_at_call 82; refine (laws_toIntS.calls kTI A2 c2 al al _ (Kd.C_below HI.out F157.out) HIC.out ETI.out).mono ?_; rintro e w29 ⟨v, rfl, ho, hb⟩; have BSZ := (F157.out).size; have Z28 : Aside0 (w28.heap.size ≤ w29.heap.size) := ⟨hb.size⟩; have F163 : Aside0 (Below w.heap.size w w29) := ⟨below_step F157.out hb⟩; clear F157; have F164 : Aside0 (w29.heap[gl]? = some (.cells #[.int .i64 n, .slice A l.length c] 25 (0, 0))) := ⟨blk_below F158.out hb⟩; clear F158; have F165 : Aside0 (Kd.R k56 56 w29 w.heap.size (fun k => w6.heap.size ≤ k ∧ k < w7.heap.size) (.slice A7 (passing n lc pc al fr tt).length c7) (passing n lc pc al fr tt)) := ⟨Kd.R_below F159.out hb⟩; clear F159; have F166 : Aside0 (Kd.R k56 56 w29 w.heap.size (fun k => w12.heap.size ≤ k ∧ k < w13.heap.size) (.slice A13 (passing n lc pc al fr tt).length c13) (marks mkEvent 3 1 (passing n lc pc al fr tt).length)) := ⟨Kd.R_below F160.out hb⟩; clear F160; have F167 : Aside0 (Kd.R k88 88 w29 w.heap.size (fun k => w26.heap.size ≤ k ∧ k < w27.heap.size) (.slice A27 lc.length c27) lc) := ⟨Kd.R_below F161.out hb⟩; clear F161; have F168 : Aside0 (Kd.R k143 143 w29 w.heap.size (fun k => w27.heap.size ≤ k ∧ k < w28.heap.size) (.slice A28 pc.length c28) pc) := ⟨Kd.R_below F162.out hb⟩; clear F162; obtain ⟨A29, c29, rfl⟩ := Kd.R_slice ho; have F169 : Aside0 (Kd.R (Kd.int .i64) 3 w29 w.heap.size (fun k => w28.heap.size ≤ k ∧ k < w29.heap.size) (.slice A29 al.length c29) al) := ⟨Kd.R_mono (Kd.R_lower (Kd.R_bound ho) BSZ) (fun k hq => ⟨hq.2.1, hq.2.2.1⟩)⟩; clear ho; clear hb BSZ) | (go_at_call 75; refine (ipassing_is n _ _ lc _ _ pc _ _ al fr tt _ (Kd.R_reads' F167.out).2.2 (Kd.R_reads' F167.out).2.1 (Kd.R_reads' F168.out).2.2 (Kd.R_reads' F168.out).2.1 (Kd.R_reads' F169.out).2.2 (Kd.R_reads' F169.out).2.1 HPL.out HAL.out).mono ?_; rintro e w30 ⟨v, rfl, ho, hb⟩; have BSZ := (F163.out).size; have Z29 : Aside0 (w29.heap.size ≤ w30.heap.size) := ⟨hb.size⟩; have F170 : Aside0 (Below w.heap.size w w30) := ⟨below_step F163.out hb⟩; clear F163; have F171 : Aside0 (w30.heap[gl]? = some (.cells #[.int .i64 n, .slice A l.length c] 25 (0, 0))) := ⟨blk_below F164.out hb⟩; clear F164; have F172 : Aside0 (Kd.R k56 56 w30 w.heap.size (fun k => w6.heap.size ≤ k ∧ k < w7.heap.size) (.slice A7 (passing n lc pc al fr tt).length c7) (passing n lc pc al fr tt)) := ⟨Kd.R_below F165.out hb⟩; clear F165; have F173 : Aside0 (Kd.R k56 56 w30 w.heap.size (fun k => w12.heap.size ≤ k ∧ k < w13.heap.size) (.slice A13 (passing n lc pc al fr tt).length c13) (marks mkEvent 3 1 (passing n lc pc al fr tt).length)) := ⟨Kd.R_below F166.out hb⟩; clear F166; have F174 : Aside0 (Kd.R k88 88 w30 w.heap.size (fun k => w26.heap.size ≤ k ∧ k < w27.heap.size) (.slice A27 lc.length c27) lc) := ⟨Kd.R_below F167.out hb⟩; clear F167; have F175 : Aside0 (Kd.R k143 143 w30 w.heap.size (fun k => w27.heap.size ≤ k ∧ k < w28.heap.size) (.slice A28 pc.length c28) pc) := ⟨Kd.R_below F168.out hb⟩; clear F168; have F176 : Aside0 (Kd.R (Kd.int .i64) 3 w30 w.heap.size (fun k => w28.heap.size ≤ k ∧ k < w29.heap.size) (.slice A29 al.length c29) al) := ⟨Kd.R_below F169.out hb⟩; clear F169; obtain ⟨A30, c30, rfl⟩ := Kd.R_slice ho; have F177 : Aside0 (Kd.R k56 56 w30 w.heap.size (fun k => w29.heap.size ≤ k ∧ k < w30.heap.size) (.slice A30 (passing n lc pc al fr tt).length c30) (passing n lc pc al fr tt)) := ⟨Kd.R_mono (Kd.R_lower (Kd.R_bound ho) BSZ) (fun k hq => ⟨hq.2.1, hq.2.2.1⟩)⟩; clear ho; clear hb BSZ))
  clear kl0 kl1
  clear F174
  clear F175
  clear F176
  go_upto_region 40 with (go_at_call 52; refine (eqE_any F177.out F172.out HRL.out).mono ?_; rintro e w31 ⟨rfl, hb⟩; have Z30 : Aside0 (w30.heap.size ≤ w31.heap.size) := ⟨hb.size⟩; have F178 : Aside0 (Below w.heap.size w w31) := ⟨below_step F170.out hb⟩; clear F170; have F179 : Aside0 (w31.heap[gl]? = some (.cells #[.int .i64 n, .slice A l.length c] 25 (0, 0))) := ⟨blk_below F171.out hb⟩; clear F171; have F180 : Aside0 (Kd.R k56 56 w31 w.heap.size (fun k => w6.heap.size ≤ k ∧ k < w7.heap.size) (.slice A7 (passing n lc pc al fr tt).length c7) (passing n lc pc al fr tt)) := ⟨Kd.R_below F172.out hb⟩; clear F172; have F181 : Aside0 (Kd.R k56 56 w31 w.heap.size (fun k => w12.heap.size ≤ k ∧ k < w13.heap.size) (.slice A13 (passing n lc pc al fr tt).length c13) (marks mkEvent 3 1 (passing n lc pc al fr tt).length)) := ⟨Kd.R_below F173.out hb⟩; clear F173; have F182 : Aside0 (Kd.R k56 56 w31 w.heap.size (fun k => w29.heap.size ≤ k ∧ k < w30.heap.size) (.slice A30 (passing n lc pc al fr tt).length c30) (passing n lc pc al fr tt)) := ⟨Kd.R_below F177.out hb⟩; clear F177; clear hb)
  go_wp2_with (go_at_call 85; refine (heldE_any F181.out HRL.out).mono ?_; rintro e w32 ⟨rfl, hb⟩; have Z31 : Aside0 (w31.heap.size ≤ w32.heap.size) := ⟨hb.size⟩; have F183 : Aside0 (Below w.heap.size w w32) := ⟨below_step F178.out hb⟩; clear F178; have F184 : Aside0 (w32.heap[gl]? = some (.cells #[.int .i64 n, .slice A l.length c] 25 (0, 0))) := ⟨blk_below F179.out hb⟩; clear F179; have F185 : Aside0 (Kd.R k56 56 w32 w.heap.size (fun k => w6.heap.size ≤ k ∧ k < w7.heap.size) (.slice A7 (passing n lc pc al fr tt).length c7) (passing n lc pc al fr tt)) := ⟨Kd.R_below F180.out hb⟩; clear F180; have F186 : Aside0 (Kd.R k56 56 w32 w.heap.size (fun k => w12.heap.size ≤ k ∧ k < w13.heap.size) (.slice A13 (passing n lc pc al fr tt).length c13) (marks mkEvent 3 1 (passing n lc pc al fr tt).length)) := ⟨Kd.R_below F181.out hb⟩; clear F181; have F187 : Aside0 (Kd.R k56 56 w32 w.heap.size (fun k => w29.heap.size ≤ k ∧ k < w30.heap.size) (.slice A30 (passing n lc pc al fr tt).length c30) (passing n lc pc al fr tt)) := ⟨Kd.R_below F182.out hb⟩; clear F182; clear hb)
  go_ret
  exact ⟨rfl, F183.out⟩
theorem walk (n : Int) (A : Option Addr) (c : Nat) (l : List S160) (A1 : Option Addr) (c1 : Nat) (ps : List S157) (A2 : Option Addr) (c2 : Nat) (al : List Int) (fr tt : Int) (w : World) (hr : Kd.C k160 w A l.length l) (hc : l.length ≤ c) (hr1 : Kd.C k157 w A1 ps.length ps) (hc1 : ps.length ≤ c1) (hr2 : Kd.C (Kd.int .i64) w A2 al.length al) (hc2 : al.length ≤ c2) (_ : (Lit.int .i64 fr).wf = true) (_ : (Lit.int .i64 tt).wf = true) :
    Calls Try.prog 20 #[.agg #[.int .i64 n, .slice A l.length c], .slice A1 ps.length c1, .slice A2 al.length c2, .int .i64 fr, .int .i64 tt] w fun e w' => e = .returned (.bool true) ∧ Below w.heap.size w w' := by
  by_cases h0 : al.length ≤ 1048576
  · have b1 := hr.2.1
    have b2 := hr1.2.1
    have s1 := szLayout_eq n l 1048576 (by omega) (by omega) b1
    by_cases h : (1048576 : Int) < l.length
    · rw [if_pos h] at s1
      exact too1 n A c l A1 c1 ps A2 c2 al fr tt w hr hc hr1 hc1 hr2 hc2 h0 _ s1 (by omega)
    · rw [if_neg h] at s1
      have s2 := szPostS_eq ps (1048576 - l.length) (by omega) (by omega) b2
      by_cases h2 : (1048576 : Int) - l.length < ps.length
      · rw [if_pos h2] at s2
        exact too2 n A c l A1 c1 ps A2 c2 al fr tt w hr hc hr1 hc1 hr2 hc2 h0 _ _ s1 (by omega) s2 (by omega)
      · rw [if_neg h2] at s2
        exact whole n A c l A1 c1 ps A2 c2 al fr tt w hr hc hr1 hc1 hr2 hc2 h0 _ _ s1 (by omega) s2 (by omega) (l.map cvC) (ps.map cvP) (by rw [List.length_map]; omega) (by rw [List.length_map]; omega) (toLayout_ev n l (by omega)) (toPostS_ev ps (by omega))
  · exact too0 n A c l A1 c1 ps A2 c2 al fr tt w hr hc hr1 hc1 hr2 hc2 (by omega)
end Go.Proofs.Ytpdnabhpkdchjaa.WalkFnExactPassing
namespace Go.Proofs.Ytpdnabhpkdchjaa.fnExactPassing
open Go.ChangeShapes Go.WideShapes Go.ChangeAt Go.RowKit Go.Proofs.Ytpdnabhpkdchjaa.Open Go.Proofs.Ytpdnabhpkdchjaa.P
set_option linter.unusedVariables false
set_option maxRecDepth 100000 in
theorem lifted (os : Os) (started : os.Started) (H : Type) (enc : TypeId × Value → H) :
    ReturnsInHanded {} Try.checked os 20 .any (Rows.fnExactPassingSpec.pre6 enc Try.prog Try.f20 Rows.fnExactPassingRow.domain false) (Rows.fnExactPassingSpec.post enc Try.prog Try.f20 false true false false) := by
  refine returnsInHanded_of_change_sized (C := Try.checked) Facts.own started (by kernel_rfl) Try.func20
    (ChangeSpec.witness6 (enc := enc) (C := Try.checked) false ⟨#[], #[.agg #[.int .i64 0, .slice none 0 0], .slice none 0 0, .slice none 0 0, .int .i64 0, .int .i64 0], []⟩ 8 (by kernel_rfl) (by kernel_rfl) (by kernel_rfl) (by kernel_rfl)) ?_
  intro W base args ds gs before hval0 hW hcnd hsz0 _
  have hval : ∀ (j : Nat) t v, Try.f20.params[j]? = some t → args[j]? = some v → Value.okWide Try.prog W .any base t v := hval0
  have hW' := hW
  obtain ⟨p, q, hA0, hV, rfl, hfz, hnd⟩ := hW
  have hA : DataW.TrodAll enc Try.prog W 0 (fun _ => true) true Try.f20.params.toList args.toList ds p := hA0
  rw [Try.params20] at hA hval
  obtain ⟨v0, vs0, d0, ds0, p0, q0, hargs, rfl, rfl, h0, r0⟩ := trodAll_cons hA
  obtain ⟨v1, vs1, d1, ds1, p1, q1, rfl, rfl, rfl, h1, r1⟩ := trodAll_cons r0
  obtain ⟨v2, vs2, d2, ds2, p2, q2, rfl, rfl, rfl, h2, r2⟩ := trodAll_cons r1
  obtain ⟨v3, vs3, d3, ds3, p3, q3, rfl, rfl, rfl, h3, r3⟩ := trodAll_cons r2
  obtain ⟨v4, vs4, d4, ds4, p4, q4, rfl, rfl, rfl, h4, r4⟩ := trodAll_cons r3
  obtain ⟨rfl, rfl, rfl⟩ := trodAll_nil r4
  obtain rfl : args = #[v0, v1, v2, v3, v4] := by cases args; simp_all
  obtain ⟨rfl, rfl⟩ := trodVars_none hV
  have k0 := h0
  have lt0 : ∀ x ∈ p0, x.block < W.heap.size := by obtain ⟨m, hm⟩ := k0; exact DataW.trod_lt m _ _ _ hm
  obtain ⟨n0, A0, c0, l0, rfl, hr0, hc0⟩ := arg_layout (hval 0 25 v0 rfl rfl) h0
  have k1 := h1
  have lt1 : ∀ x ∈ p1, x.block < W.heap.size := by obtain ⟨m, hm⟩ := k1; exact DataW.trod_lt m _ _ _ hm
  obtain ⟨A1, c1, l1, rfl, hr1, hc1⟩ := arg_slice Try.underlying101 oPosts (hval 1 101 v1 rfl rfl) h1
  have k2 := h2
  have lt2 : ∀ x ∈ p2, x.block < W.heap.size := by obtain ⟨m, hm⟩ := k2; exact DataW.trod_lt m _ _ _ hm
  obtain ⟨A2, c2, l2, rfl, hr2, hc2⟩ := arg_slice Try.underlying59 oInts (hval 2 59 v2 rfl rfl) h2
  have k3 := h3
  have lt3 : ∀ x ∈ p3, x.block < W.heap.size := by obtain ⟨m, hm⟩ := k3; exact DataW.trod_lt m _ _ _ hm
  obtain ⟨a3, rfl, w3⟩ := arg_int (hval 3 3 v3 rfl rfl) h3
  have k4 := h4
  have lt4 : ∀ x ∈ p4, x.block < W.heap.size := by obtain ⟨m, hm⟩ := k4; exact DataW.trod_lt m _ _ _ hm
  obtain ⟨a4, rfl, w4⟩ := arg_int (hval 4 3 v4 rfl rfl) h4
  clear hA0 hval0 hsz0
  refine (WalkFnExactPassing.walk n0 A0 c0 l0 A1 c1 l1 A2 c2 l2 a3 a4 W hr0 hc0 hr1 hc1 hr2 hc2 w3 w4).mono fun e W' ⟨he, bel⟩ => ?_
  subst he
  exact ⟨_, rfl, _, _, _, [], _, [], hW', trodAll_mk1 (shut_bool Try.underlying4 _), (trodAll_cons_mk (Below.trod Facts.laidOut (by kernel_rfl) (of_decide_eq_true (by kernel_rfl)) k0 bel lt0) (trodAll_cons_mk (Below.trod Facts.laidOut (by kernel_rfl) (of_decide_eq_true (by kernel_rfl)) k1 bel lt1) (trodAll_cons_mk (Below.trod Facts.laidOut (by kernel_rfl) (of_decide_eq_true (by kernel_rfl)) k2 bel lt2) (trodAll_cons_mk (Below.trod Facts.laidOut (by kernel_rfl) (of_decide_eq_true (by kernel_rfl)) k3 bel lt3) (trodAll_cons_mk (Below.trod Facts.laidOut (by kernel_rfl) (of_decide_eq_true (by kernel_rfl)) k4 bel lt4) trodAll_mk0))))), rfl, bel.frame _, fun h => by cases h⟩
theorem k10 : (Rows.fnExactPassingRow.inPlace == Try.prog.inPlace 20) = true := by kernel_rfl
theorem k11 : (Rows.fnExactPassingRow.unfollowed == Try.prog.unfollowed 20) = true := by kernel_rfl
theorem k12 : (Rows.fnExactPassingRow.recurses == Try.prog.recurses 20) = true := by kernel_rfl
theorem k13 : (Rows.fnExactPassingRow.named == Try.prog.varsNamed 20) = true := by kernel_rfl
theorem over : Rows.fnExactPassingRow.holds Try.pinned (OpenSpec.ofChange Rows.fnExactPassingSpec) :=
  OpenClaim.holds_of_wide 20 Try.f20 rfl rfl rfl rfl rfl rfl rfl ⟨rfl, rfl, rfl, rfl, rfl⟩ rfl rfl rfl rfl rfl (by kernel_rfl) Try.func20
    (joined_of 20 Try.f20 Rows.fnExactPassingSpec Rows.fnExactPassingRow (by kernel_rfl) (by kernel_rfl) (by kernel_rfl) rfl rfl Facts.stopKnobs k10 k11 k12 k13 (by kernel_rfl) (by kernel_rfl) (by kernel_rfl) (by kernel_rfl) (by kernel_rfl) (by kernel_rfl) (by kernel_rfl) (by kernel_rfl) (by kernel_rfl) rfl rfl rfl rfl rfl rfl (by kernel_rfl) (by kernel_rfl) (by kernel_rfl))
    (of_decide_eq_true (by kernel_rfl)) (by unfold Func.isWrapper; rw [if_neg (by decide +kernel)]; exact ⟨rfl, rfl⟩)
    (fun os started H enc _ => lifted os started H enc)
theorem proved : Rows.FnExactPassingSaid := over
end Go.Proofs.Ytpdnabhpkdchjaa.fnExactPassing
namespace Go.Proofs.Ytpdnabhpkdchjaa
theorem fnExactPassing_holds : Rows.FnExactPassingSaid := fnExactPassing.proved
#print axioms fnExactPassing_holds
end Go.Proofs.Ytpdnabhpkdchjaa
