/- The statement FnExactDo holds of the given program, for every argument; there are no conditions. (Part 4 of 6.) -/
import Derived.Test.YtpdnabhpkdchjaaBFnExactDo3
import Derived.Deep.RegionWith
import Derived.Deep.DrawnRows
namespace Go.Proofs.Ytpdnabhpkdchjaa.P
open Go.RowKit Go.Proofs.YtpdnabhpkdchjaaW.PrintWords Go.Proofs.YtpdnabhpkdchjaaW.PrintLast Go.Proofs.YtpdnabhpkdchjaaW.PrintMore
attribute [local go_sem] max2_int min2_int max_two min_two max_three min_three max_four min_four
set_option linter.unusedVariables false
set_option linter.unusedSimpArgs false
def laws_markSectionS.l0:Nat→List (S50)→Int→Int→Option (Int × (List (S50)))
 | 0,_,_,_=>none
 | k+1,x0,x1,x5=>if x5<(x0.length:Int) then (if 0≤x5 then ((some (x0.set (x5:Int).toNat (⟨x1,(rd_T50 x0 x5).f1,(rd_T50 x0 x5).f2,(rd_T50 x0 x5).f3,(rd_T50 x0 x5).f4⟩:S50):List (S50))).bind fun y494=>((some (y494.set (x5:Int).toNat (⟨(rd_T50 y494 x5).f0,wrap64 (x1+1),(rd_T50 y494 x5).f2,(rd_T50 y494 x5).f3,(rd_T50 y494 x5).f4⟩:S50):List (S50))).bind fun y495=>((some (y495.set (x5:Int).toNat (⟨(rd_T50 y495 x5).f0,(rd_T50 y495 x5).f1,((Int.tmod (wrap64 ((wrap64 (x1+1))+1)) 3)==0),(rd_T50 y495 x5).f3,(rd_T50 y495 x5).f4⟩:S50):List (S50))).bind fun y496=>((some (y496.set (x5:Int).toNat (⟨(rd_T50 y496 x5).f0,(rd_T50 y496 x5).f1,(rd_T50 y496 x5).f2,((Int.tmod (wrap64 ((wrap64 ((wrap64 (x1+1))+1))+1)) 3)==0),(rd_T50 y496 x5).f4⟩:S50):List (S50))).bind fun y497=>(laws_markSectionS.l0 k (y497.set (x5:Int).toNat (⟨(rd_T50 y497 x5).f0,(rd_T50 y497 x5).f1,(rd_T50 y497 x5).f2,(rd_T50 y497 x5).f3,wrap64 ((wrap64 ((wrap64 ((wrap64 (x1+1))+1))+1))+1)⟩:S50)) (wrap64 ((wrap64 ((wrap64 ((wrap64 ((wrap64 (x1+1))+1))+1))+1))+1)) (wrap64 (x5+1))))))) else (none)) else (some (x1,x0))
def laws_markSectionS.f (k:Nat) (l0:List (S50)) (a1:Int):Option (Int × (List (S50))):=laws_markSectionS.l0 k l0 a1 0
set_option maxHeartbeats 8000000 in
set_option maxRecDepth 100000 in
theorem laws_markSectionS.calls (k:Nat) (P0_:Nat→Prop) (u9000_:Value) (l0:List (S50)) (a1:Int) (r1:Int) (r2:List (S50)) (w0 w:World) (hB:Below w0.heap.size w0 w) (ho0:Kd.R k50 50 w w0.heap.size P0_ u9000_ l0) (h:laws_markSectionS.f k l0 a1=some (r1,r2)) :
  Calls Try.prog 102 #[u9000_,.int .i64 a1] w fun e w'=>e=.returned (.int .i64 r1)∧Kd.R k50 50 w' w0.heap.size (fun k_=>(P0_ k_ ∨ w.heap.size≤k_)) u9000_ r2∧Below w0.heap.size w0 w'∧Kept w w' (fun k_=>P0_ k_):=by
 have HO0:=Aside0.mk (show Kd.R k50 50 w w0.heap.size (fun k_=>(P0_ k_ ∨ w.heap.size≤k_)) u9000_ l0 from Kd.R_mono ho0 (fun k_ hk=>(.inl hk)))
 have HK:=Aside0.mk (Kept.refl w (fun k_=>P0_ k_))
 have HW0:=Aside0.mk hB.size
 have HB:=Aside0.mk hB
 clear hB
 have H:(laws_markSectionS.l0 k l0 a1 0)=some (r1,r2):=h
 clear h
 have H':=Aside0.mk H
 clear H
 go_enter Try.func102,Try.ntmps102
 go_wp2
 go_loopg [1,5] k (fun kq v1 v5 w'=>∃ (x0_1:List (S50)) (x1_1:Int) (x5_1:Int),v1=.int .i64 x1_1∧v5=.int .i64 x5_1∧Aside0 (laws_markSectionS.l0 kq x0_1 x1_1 x5_1=some (r1,r2))∧Aside0 (kq≤k)∧Aside0 (Kd.R k50 50 w' w0.heap.size (fun k_=>(P0_ k_ ∨ w.heap.size≤k_)) u9000_ x0_1)∧Aside0 (Kept w w' (fun k_=>P0_ k_))∧Aside0 (Below w0.heap.size w0 w'))
 case atStart=>exact ⟨(l0),(a1),(0),(by first|rfl|(simp;done)|(simp [*];done)),(by first|rfl|(simp;done)|(simp [*];done)),H',⟨Nat.le_refl _⟩,⟨by (with_reducible repeat (first|apply Kd.R_alloc|apply Kd.R_drewN|apply Kd.R_drew));exact HO0.out⟩,⟨by repeat (first|(with_reducible first|exact HK.out|apply Kept.alloc|apply Kept.drewN|apply Kept.drew)|exact HK.out)⟩,⟨by repeat (first|(with_reducible first|exact HB.out|apply below_alloc|apply pw_below_drewN|apply below_drew1)|exact HB.out)⟩⟩
 case round =>
  clear H'
  try clear c1
  try clear p2
  obtain ⟨x0_1,x1_1,x5_1,rfl,rfl,HA,HK1,HO_0,HK,HB⟩:=hrel
  cases gk with
  | zero=>exact absurd HA.out (by simp [laws_markSectionS.l0])
  | succ k1 =>
   have H:=HA.out
   clear HA
   simp only [laws_markSectionS.l0] at H
   by_cases c3:x5_1<(x0_1.length:Int)
   ·rw [if_pos c3] at H
    have c3b0:decide (x5_1<(x0_1.length:Int))=true:=decide_eq_true c3
    clear c3
    by_cases c4:0≤x5_1
    ·rw [if_pos c4] at H
     have c4b0:decide (0≤x5_1)=true:=decide_eq_true c4
     clear c4
     obtain ⟨y494,hy494⟩:∃ y_:List (S50),y_=(x0_1.set (x5_1:Int).toNat (⟨x1_1,(rd_T50 x0_1 x5_1).f1,(rd_T50 x0_1 x5_1).f2,(rd_T50 x0_1 x5_1).f3,(rd_T50 x0_1 x5_1).f4⟩:S50)):=⟨_,rfl⟩
     replace H:((some (y494.set (x5_1:Int).toNat (⟨(rd_T50 y494 x5_1).f0,wrap64 (x1_1+1),(rd_T50 y494 x5_1).f2,(rd_T50 y494 x5_1).f3,(rd_T50 y494 x5_1).f4⟩:S50):List (S50))).bind fun y495=>((some (y495.set (x5_1:Int).toNat (⟨(rd_T50 y495 x5_1).f0,(rd_T50 y495 x5_1).f1,((Int.tmod (wrap64 ((wrap64 (x1_1+1))+1)) 3)==0),(rd_T50 y495 x5_1).f3,(rd_T50 y495 x5_1).f4⟩:S50):List (S50))).bind fun y496=>((some (y496.set (x5_1:Int).toNat (⟨(rd_T50 y496 x5_1).f0,(rd_T50 y496 x5_1).f1,(rd_T50 y496 x5_1).f2,((Int.tmod (wrap64 ((wrap64 ((wrap64 (x1_1+1))+1))+1)) 3)==0),(rd_T50 y496 x5_1).f4⟩:S50):List (S50))).bind fun y497=>(laws_markSectionS.l0 k1 (y497.set (x5_1:Int).toNat (⟨(rd_T50 y497 x5_1).f0,(rd_T50 y497 x5_1).f1,(rd_T50 y497 x5_1).f2,(rd_T50 y497 x5_1).f3,wrap64 ((wrap64 ((wrap64 ((wrap64 (x1_1+1))+1))+1))+1)⟩:S50)) (wrap64 ((wrap64 ((wrap64 ((wrap64 ((wrap64 (x1_1+1))+1))+1))+1))+1)) (wrap64 (x5_1+1))))))=some (r1,r2):=by first|(rw [hy494];with_reducible exact H)|(have H2_:=(Option.bind_some _ _).symm.trans H;rw [hy494];with_reducible exact H2_)|(have H2_:=(Option.bind_some _ _).symm.trans H;with_reducible exact H2_)|with_reducible exact H|(rw [hy494];exact H)|exact H
     have Ny494:=Aside0.mk hy494
     clear hy494
     obtain ⟨y495,hy495⟩:∃ y_:List (S50),y_=(y494.set (x5_1:Int).toNat (⟨(rd_T50 y494 x5_1).f0,wrap64 (x1_1+1),(rd_T50 y494 x5_1).f2,(rd_T50 y494 x5_1).f3,(rd_T50 y494 x5_1).f4⟩:S50)):=⟨_,rfl⟩
     replace H:((some (y495.set (x5_1:Int).toNat (⟨(rd_T50 y495 x5_1).f0,(rd_T50 y495 x5_1).f1,((Int.tmod (wrap64 ((wrap64 (x1_1+1))+1)) 3)==0),(rd_T50 y495 x5_1).f3,(rd_T50 y495 x5_1).f4⟩:S50):List (S50))).bind fun y496=>((some (y496.set (x5_1:Int).toNat (⟨(rd_T50 y496 x5_1).f0,(rd_T50 y496 x5_1).f1,(rd_T50 y496 x5_1).f2,((Int.tmod (wrap64 ((wrap64 ((wrap64 (x1_1+1))+1))+1)) 3)==0),(rd_T50 y496 x5_1).f4⟩:S50):List (S50))).bind fun y497=>(laws_markSectionS.l0 k1 (y497.set (x5_1:Int).toNat (⟨(rd_T50 y497 x5_1).f0,(rd_T50 y497 x5_1).f1,(rd_T50 y497 x5_1).f2,(rd_T50 y497 x5_1).f3,wrap64 ((wrap64 ((wrap64 ((wrap64 (x1_1+1))+1))+1))+1)⟩:S50)) (wrap64 ((wrap64 ((wrap64 ((wrap64 ((wrap64 (x1_1+1))+1))+1))+1))+1)) (wrap64 (x5_1+1)))))=some (r1,r2):=by first|(rw [hy495];with_reducible exact H)|(have H2_:=(Option.bind_some _ _).symm.trans H;rw [hy495];with_reducible exact H2_)|(have H2_:=(Option.bind_some _ _).symm.trans H;with_reducible exact H2_)|with_reducible exact H|(rw [hy495];exact H)|exact H
     have Ny495:=Aside0.mk hy495
     clear hy495
     obtain ⟨y496,hy496⟩:∃ y_:List (S50),y_=(y495.set (x5_1:Int).toNat (⟨(rd_T50 y495 x5_1).f0,(rd_T50 y495 x5_1).f1,((Int.tmod (wrap64 ((wrap64 (x1_1+1))+1)) 3)==0),(rd_T50 y495 x5_1).f3,(rd_T50 y495 x5_1).f4⟩:S50)):=⟨_,rfl⟩
     replace H:((some (y496.set (x5_1:Int).toNat (⟨(rd_T50 y496 x5_1).f0,(rd_T50 y496 x5_1).f1,(rd_T50 y496 x5_1).f2,((Int.tmod (wrap64 ((wrap64 ((wrap64 (x1_1+1))+1))+1)) 3)==0),(rd_T50 y496 x5_1).f4⟩:S50):List (S50))).bind fun y497=>(laws_markSectionS.l0 k1 (y497.set (x5_1:Int).toNat (⟨(rd_T50 y497 x5_1).f0,(rd_T50 y497 x5_1).f1,(rd_T50 y497 x5_1).f2,(rd_T50 y497 x5_1).f3,wrap64 ((wrap64 ((wrap64 ((wrap64 (x1_1+1))+1))+1))+1)⟩:S50)) (wrap64 ((wrap64 ((wrap64 ((wrap64 ((wrap64 (x1_1+1))+1))+1))+1))+1)) (wrap64 (x5_1+1))))=some (r1,r2):=by first|(rw [hy496];with_reducible exact H)|(have H2_:=(Option.bind_some _ _).symm.trans H;rw [hy496];with_reducible exact H2_)|(have H2_:=(Option.bind_some _ _).symm.trans H;with_reducible exact H2_)|with_reducible exact H|(rw [hy496];exact H)|exact H
     have Ny496:=Aside0.mk hy496
     clear hy496
     obtain ⟨y497,hy497⟩:∃ y_:List (S50),y_=(y496.set (x5_1:Int).toNat (⟨(rd_T50 y496 x5_1).f0,(rd_T50 y496 x5_1).f1,(rd_T50 y496 x5_1).f2,((Int.tmod (wrap64 ((wrap64 ((wrap64 (x1_1+1))+1))+1)) 3)==0),(rd_T50 y496 x5_1).f4⟩:S50)):=⟨_,rfl⟩
     replace H:(laws_markSectionS.l0 k1 (y497.set (x5_1:Int).toNat (⟨(rd_T50 y497 x5_1).f0,(rd_T50 y497 x5_1).f1,(rd_T50 y497 x5_1).f2,(rd_T50 y497 x5_1).f3,wrap64 ((wrap64 ((wrap64 ((wrap64 (x1_1+1))+1))+1))+1)⟩:S50)) (wrap64 ((wrap64 ((wrap64 ((wrap64 ((wrap64 (x1_1+1))+1))+1))+1))+1)) (wrap64 (x5_1+1)))=some (r1,r2):=by first|(rw [hy497];with_reducible exact H)|(have H2_:=(Option.bind_some _ _).symm.trans H;rw [hy497];with_reducible exact H2_)|(have H2_:=(Option.bind_some _ _).symm.trans H;with_reducible exact H2_)|with_reducible exact H|(rw [hy497];exact H)|exact H
     have Ny497:=Aside0.mk hy497
     clear hy497
     obtain ⟨y498,hy498⟩:∃ y_:List (S50),y_=(y497.set (x5_1:Int).toNat (⟨(rd_T50 y497 x5_1).f0,(rd_T50 y497 x5_1).f1,(rd_T50 y497 x5_1).f2,(rd_T50 y497 x5_1).f3,wrap64 ((wrap64 ((wrap64 ((wrap64 (x1_1+1))+1))+1))+1)⟩:S50)):=⟨_,rfl⟩
     replace H:(laws_markSectionS.l0 k1 y498 (wrap64 ((wrap64 ((wrap64 ((wrap64 ((wrap64 (x1_1+1))+1))+1))+1))+1)) (wrap64 (x5_1+1)))=some (r1,r2):=by first|(rw [hy498];with_reducible exact H)|(have H2_:=(Option.bind_some _ _).symm.trans H;rw [hy498];with_reducible exact H2_)|(have H2_:=(Option.bind_some _ _).symm.trans H;with_reducible exact H2_)|with_reducible exact H|(rw [hy498];exact H)|exact H
     have Ny498:=Aside0.mk hy498
     clear hy498
     have H':=Aside0.mk H
     clear H
     obtain ⟨Ao10,co10,eo10⟩:=Kd.R_slice HO_0.out
     subst eo10
     have p5:0≤(x5_1:Int):=of_decide_eq_true (by first|(with_reducible assumption)|assumption)
     have q5:(x5_1:Int)<((x0_1.length:Int):Int):=of_decide_eq_true (by first|(with_reducible assumption)|assumption)
     obtain ⟨go5,co5,eo5,gb5,gl5,cl5,HG5⟩:=Kd.R_form HO_0.out (by omega)
     (first|cases eo5|(injection eo5 with ea_ en_ ec_;(first|subst ea_|(injection ea_ with ea_;subst ea_));subst ec_;clear en_))
     have GB5:=Aside0.mk gb5
     have GG5:=Aside0.mk HG5
     clear gb5 gl5 HG5
     have HMgo5:=Aside0.mk (show (P0_ go5 ∨ w.heap.size≤go5) from (HO_0.out.1 _ rfl))
     obtain ⟨ce5,hcl5,hM5,hcc5,hfr5⟩:=Kd.R_elem HO_0.out z50 (x5_1:Int) p5 q5
     obtain rfl:=k50_openM hM5
     have hx5_0:wr.cell? ⟨go5,(x5_1:Int).toNat * 5,none⟩=some (.int .i64 ((rd_T50 x0_1 x5_1).f0)):=hcc5 0 _ rfl
     have hx5_1:wr.cell? ⟨go5,(x5_1:Int).toNat * 5+1,none⟩=some (.int .i64 ((rd_T50 x0_1 x5_1).f1)):=hcc5 1 _ rfl
     have hx5_2:wr.cell? ⟨go5,(x5_1:Int).toNat * 5+2,none⟩=some (.bool ((rd_T50 x0_1 x5_1).f2)):=hcc5 2 _ rfl
     have hx5_3:wr.cell? ⟨go5,(x5_1:Int).toNat * 5+3,none⟩=some (.bool ((rd_T50 x0_1 x5_1).f3)):=hcc5 3 _ rfl
     have hx5_4:wr.cell? ⟨go5,(x5_1:Int).toNat * 5+4,none⟩=some (.int .i64 ((rd_T50 x0_1 x5_1).f4)):=hcc5 4 _ rfl
     have hf5_0:wr.frozen? ⟨go5,(x5_1:Int).toNat * 5,none⟩=false:=hfr5 0
     have hf5_1:wr.frozen? ⟨go5,(x5_1:Int).toNat * 5+1,none⟩=false:=hfr5 1
     have hf5_2:wr.frozen? ⟨go5,(x5_1:Int).toNat * 5+2,none⟩=false:=hfr5 2
     have hf5_3:wr.frozen? ⟨go5,(x5_1:Int).toNat * 5+3,none⟩=false:=hfr5 3
     have hf5_4:wr.frozen? ⟨go5,(x5_1:Int).toNat * 5+4,none⟩=false:=hfr5 4
     clear hcl5 hcc5 hfr5 hM5
     replace p5:=eq_true p5
     replace q5:=eq_true q5
     have HX11:=Aside0.mk (show Kd.R k50 50 wr w0.heap.size (fun k_=>(P0_ k_ ∨ w.heap.size≤k_)) (.slice (some ⟨go5,0,none⟩) x0_1.length co10) x0_1 from (by (with_reducible repeat (first|apply Kd.R_alloc|apply Kd.R_drewN|apply Kd.R_drew));exact HO_0.out))
     obtain ⟨ce11,hcl11,hM11,hcc11,hfr11⟩:=Kd.R_elem HX11.out z50 (x5_1:Int) (of_decide_eq_true (by first|(with_reducible assumption)|assumption)) (by have h_:(x5_1:Int)<((x0_1.length:Int):Int):=of_decide_eq_true (by first|(with_reducible assumption)|assumption);first|exact h_|(have e_:=(Kd.R_reads' HO_0.out).1;omega)|simpa using h_)
     obtain rfl:=k50_openM hM11
     have HP11:=Kd.R_seg HX11.out (x5_1:Int) (of_decide_eq_true (by first|(with_reducible assumption)|assumption)) (by have h_:(x5_1:Int)<((x0_1.length:Int):Int):=of_decide_eq_true (by first|(with_reducible assumption)|assumption);first|exact h_|(have e_:=(Kd.R_reads' HO_0.out).1;omega)|simpa using h_) (seg:=[.int .i64 x1_1]) (j:=0) hcl11 hcc11 (show 1≤5 from by decide) (x':=(⟨x1_1,(rd_T50 x0_1 x5_1).f1,(rd_T50 x0_1 x5_1).f2,(rd_T50 x0_1 x5_1).f3,(rd_T50 x0_1 x5_1).f4⟩:S50)) (k50_mkM _ _ _ (⟨x1_1,(rd_T50 x0_1 x5_1).f1,(rd_T50 x0_1 x5_1).f2,(rd_T50 x0_1 x5_1).f3,(rd_T50 x0_1 x5_1).f4⟩:S50) ) (fun _ hk=>hk)
     have hx11_0:=hcc11 0 _ rfl
     (try simp only [show (k50).sz=5 from rfl,Nat.mul_one,Nat.add_zero] at hx11_0)
     have hf11_0:=hfr11 0
     (try simp only [show (k50).sz=5 from rfl,Nat.mul_one,Nat.add_zero] at hf11_0)
     clear hcl11 hcc11 hfr11 hM11
     go_wp2_with (first|((with_reducible refine gate_store (t:=3) (p:=16) rfl ?_);refine store_event (t:=3) (p:=16) (v:=?vo_w12) (w1:=(wr.setCell ⟨go5,(x5_1:Int).toNat * 5,none⟩ (.int .i64 x1_1))) ?hg ?ho ?hn ?hr ?_;(case ho=>rfl);(case hg=>rfl);(case hn=>rfl);(case hr=>first|(go_simp;done)|(go_simp;rfl));intro w12 hw;have hg:wr.grownBy w12 (some go5):=(by rw [hw];exact HP11.2);have hp_:Kd.R k50 50 w12 w0.heap.size (fun k_=>(P0_ k_ ∨ w.heap.size≤k_)) (.slice (some ⟨go5,0,none⟩) x0_1.length co10) y494:=(by rw [hw,Ny494.out];exact HP11.1);clear HP11;have n0_:=Aside0.mk (hp_);have n1_:=Aside0.mk ((by rw [hw];exact below_set (HB.out) GB5.out:Below w0.heap.size w0 w12));have n2_:=Aside0.mk (Kept.of_grown (S:=(fun k_=>P0_ k_)) hg (by repeat (first|(with_reducible first|exact HK.out|apply Kept.alloc|apply Kept.drewN|apply Kept.drew)|exact HK.out)) (fun k_ e_=>(HO_0.out.1 k_ e_)));clear HO_0;clear HB;clear HK;have HO_0:=n0_;have HB:=n1_;have HK:=n2_;clear n0_ n1_ n2_;clear hg hw hp_;have p6:0≤(x5_1:Int):=of_decide_eq_true (by first|(with_reducible assumption)|assumption);have q6:(x5_1:Int)<((x0_1.length:Int):Int):=of_decide_eq_true (by first|(with_reducible assumption)|assumption);obtain ⟨ce6,hcl6,hM6,hcc6,hfr6⟩:=Kd.R_elem HO_0.out z50 (x5_1:Int) p6 q6;obtain rfl:=k50_openM hM6;have hx6_0:w12.cell? ⟨go5,(x5_1:Int).toNat * 5,none⟩=some (.int .i64 ((rd_T50 y494 x5_1).f0)):=hcc6 0 _ rfl;have hx6_1:w12.cell? ⟨go5,(x5_1:Int).toNat * 5+1,none⟩=some (.int .i64 ((rd_T50 y494 x5_1).f1)):=hcc6 1 _ rfl;have hx6_2:w12.cell? ⟨go5,(x5_1:Int).toNat * 5+2,none⟩=some (.bool ((rd_T50 y494 x5_1).f2)):=hcc6 2 _ rfl;have hx6_3:w12.cell? ⟨go5,(x5_1:Int).toNat * 5+3,none⟩=some (.bool ((rd_T50 y494 x5_1).f3)):=hcc6 3 _ rfl;have hx6_4:w12.cell? ⟨go5,(x5_1:Int).toNat * 5+4,none⟩=some (.int .i64 ((rd_T50 y494 x5_1).f4)):=hcc6 4 _ rfl;have hf6_0:w12.frozen? ⟨go5,(x5_1:Int).toNat * 5,none⟩=false:=hfr6 0;have hf6_1:w12.frozen? ⟨go5,(x5_1:Int).toNat * 5+1,none⟩=false:=hfr6 1;have hf6_2:w12.frozen? ⟨go5,(x5_1:Int).toNat * 5+2,none⟩=false:=hfr6 2;have hf6_3:w12.frozen? ⟨go5,(x5_1:Int).toNat * 5+3,none⟩=false:=hfr6 3;have hf6_4:w12.frozen? ⟨go5,(x5_1:Int).toNat * 5+4,none⟩=false:=hfr6 4;clear hcl6 hcc6 hfr6 hM6;replace p6:=eq_true p6;replace q6:=eq_true q6;have HX13:=Aside0.mk (show Kd.R k50 50 w12 w0.heap.size (fun k_=>(P0_ k_ ∨ w.heap.size≤k_)) (.slice (some ⟨go5,0,none⟩) x0_1.length co10) y494 from (by (with_reducible repeat (first|apply Kd.R_alloc|apply Kd.R_drewN|apply Kd.R_drew));exact HO_0.out));obtain ⟨ce13,hcl13,hM13,hcc13,hfr13⟩:=Kd.R_elem HX13.out z50 (x5_1:Int) (of_decide_eq_true (by first|(with_reducible assumption)|assumption)) (by have h_:(x5_1:Int)<((x0_1.length:Int):Int):=of_decide_eq_true (by first|(with_reducible assumption)|assumption);first|exact h_|(have e_:=(Kd.R_reads' HO_0.out).1;omega)|simpa using h_);obtain rfl:=k50_openM hM13;have HP13:=Kd.R_seg HX13.out (x5_1:Int) (of_decide_eq_true (by first|(with_reducible assumption)|assumption)) (by have h_:(x5_1:Int)<((x0_1.length:Int):Int):=of_decide_eq_true (by first|(with_reducible assumption)|assumption);first|exact h_|(have e_:=(Kd.R_reads' HO_0.out).1;omega)|simpa using h_) (seg:=[.int .i64 (wrap64 (x1_1+1))]) (j:=1) hcl13 hcc13 (show 2≤5 from by decide) (x':=(⟨(rd_T50 y494 x5_1).f0,wrap64 (x1_1+1),(rd_T50 y494 x5_1).f2,(rd_T50 y494 x5_1).f3,(rd_T50 y494 x5_1).f4⟩:S50)) (k50_mkM _ _ _ (⟨(rd_T50 y494 x5_1).f0,wrap64 (x1_1+1),(rd_T50 y494 x5_1).f2,(rd_T50 y494 x5_1).f3,(rd_T50 y494 x5_1).f4⟩:S50) ) (fun _ hk=>hk);have hx13_1:=hcc13 1 _ rfl;(try simp only [show (k50).sz=5 from rfl,Nat.mul_one,Nat.add_zero] at hx13_1);have hf13_1:=hfr13 1;(try simp only [show (k50).sz=5 from rfl,Nat.mul_one,Nat.add_zero] at hf13_1);clear hcl13 hcc13 hfr13 hM13)|((with_reducible refine gate_store (t:=3) (p:=23) rfl ?_);refine store_event (t:=3) (p:=23) (v:=?vo_w14) (w1:=(w12.setCell ⟨go5,(x5_1:Int).toNat * 5+1,none⟩ (.int .i64 (wrap64 (x1_1+1))))) ?hg ?ho ?hn ?hr ?_;(case ho=>rfl);(case hg=>rfl);(case hn=>rfl);(case hr=>first|(go_simp;done)|(go_simp;rfl));intro w14 hw;have hg:w12.grownBy w14 (some go5):=(by rw [hw];exact HP13.2);have hp_:Kd.R k50 50 w14 w0.heap.size (fun k_=>(P0_ k_ ∨ w.heap.size≤k_)) (.slice (some ⟨go5,0,none⟩) x0_1.length co10) y495:=(by rw [hw,Ny495.out];exact HP13.1);clear HP13;have n0_:=Aside0.mk (hp_);have n1_:=Aside0.mk ((by rw [hw];exact below_set (HB.out) GB5.out:Below w0.heap.size w0 w14));have n2_:=Aside0.mk (Kept.of_grown (S:=(fun k_=>P0_ k_)) hg (by repeat (first|(with_reducible first|exact HK.out|apply Kept.alloc|apply Kept.drewN|apply Kept.drew)|exact HK.out)) (fun k_ e_=>(HO_0.out.1 k_ e_)));clear HO_0;clear HB;clear HK;have HO_0:=n0_;have HB:=n1_;have HK:=n2_;clear n0_ n1_ n2_;clear hg hw hp_;have p7:0≤(x5_1:Int):=of_decide_eq_true (by first|(with_reducible assumption)|assumption);have q7:(x5_1:Int)<((x0_1.length:Int):Int):=of_decide_eq_true (by first|(with_reducible assumption)|assumption);obtain ⟨ce7,hcl7,hM7,hcc7,hfr7⟩:=Kd.R_elem HO_0.out z50 (x5_1:Int) p7 q7;obtain rfl:=k50_openM hM7;have hx7_0:w14.cell? ⟨go5,(x5_1:Int).toNat * 5,none⟩=some (.int .i64 ((rd_T50 y495 x5_1).f0)):=hcc7 0 _ rfl;have hx7_1:w14.cell? ⟨go5,(x5_1:Int).toNat * 5+1,none⟩=some (.int .i64 ((rd_T50 y495 x5_1).f1)):=hcc7 1 _ rfl;have hx7_2:w14.cell? ⟨go5,(x5_1:Int).toNat * 5+2,none⟩=some (.bool ((rd_T50 y495 x5_1).f2)):=hcc7 2 _ rfl;have hx7_3:w14.cell? ⟨go5,(x5_1:Int).toNat * 5+3,none⟩=some (.bool ((rd_T50 y495 x5_1).f3)):=hcc7 3 _ rfl;have hx7_4:w14.cell? ⟨go5,(x5_1:Int).toNat * 5+4,none⟩=some (.int .i64 ((rd_T50 y495 x5_1).f4)):=hcc7 4 _ rfl;have hf7_0:w14.frozen? ⟨go5,(x5_1:Int).toNat * 5,none⟩=false:=hfr7 0;have hf7_1:w14.frozen? ⟨go5,(x5_1:Int).toNat * 5+1,none⟩=false:=hfr7 1;have hf7_2:w14.frozen? ⟨go5,(x5_1:Int).toNat * 5+2,none⟩=false:=hfr7 2;have hf7_3:w14.frozen? ⟨go5,(x5_1:Int).toNat * 5+3,none⟩=false:=hfr7 3;have hf7_4:w14.frozen? ⟨go5,(x5_1:Int).toNat * 5+4,none⟩=false:=hfr7 4;clear hcl7 hcc7 hfr7 hM7;replace p7:=eq_true p7;replace q7:=eq_true q7;have HX15:=Aside0.mk (show Kd.R k50 50 w14 w0.heap.size (fun k_=>(P0_ k_ ∨ w.heap.size≤k_)) (.slice (some ⟨go5,0,none⟩) x0_1.length co10) y495 from (by (with_reducible repeat (first|apply Kd.R_alloc|apply Kd.R_drewN|apply Kd.R_drew));exact HO_0.out));obtain ⟨ce15,hcl15,hM15,hcc15,hfr15⟩:=Kd.R_elem HX15.out z50 (x5_1:Int) (of_decide_eq_true (by first|(with_reducible assumption)|assumption)) (by have h_:(x5_1:Int)<((x0_1.length:Int):Int):=of_decide_eq_true (by first|(with_reducible assumption)|assumption);first|exact h_|(have e_:=(Kd.R_reads' HO_0.out).1;omega)|simpa using h_);obtain rfl:=k50_openM hM15;have HP15:=Kd.R_seg HX15.out (x5_1:Int) (of_decide_eq_true (by first|(with_reducible assumption)|assumption)) (by have h_:(x5_1:Int)<((x0_1.length:Int):Int):=of_decide_eq_true (by first|(with_reducible assumption)|assumption);first|exact h_|(have e_:=(Kd.R_reads' HO_0.out).1;omega)|simpa using h_) (seg:=[.bool ((Int.tmod (wrap64 ((wrap64 (x1_1+1))+1)) 3)==0)]) (j:=2) hcl15 hcc15 (show 3≤5 from by decide) (x':=(⟨(rd_T50 y495 x5_1).f0,(rd_T50 y495 x5_1).f1,((Int.tmod (wrap64 ((wrap64 (x1_1+1))+1)) 3)==0),(rd_T50 y495 x5_1).f3,(rd_T50 y495 x5_1).f4⟩:S50)) (k50_mkM _ _ _ (⟨(rd_T50 y495 x5_1).f0,(rd_T50 y495 x5_1).f1,((Int.tmod (wrap64 ((wrap64 (x1_1+1))+1)) 3)==0),(rd_T50 y495 x5_1).f3,(rd_T50 y495 x5_1).f4⟩:S50) ) (fun _ hk=>hk);have hx15_2:=hcc15 2 _ rfl;(try simp only [show (k50).sz=5 from rfl,Nat.mul_one,Nat.add_zero] at hx15_2);have hf15_2:=hfr15 2;(try simp only [show (k50).sz=5 from rfl,Nat.mul_one,Nat.add_zero] at hf15_2);clear hcl15 hcc15 hfr15 hM15)|((with_reducible refine gate_store (t:=4) (p:=32) rfl ?_);refine store_event (t:=4) (p:=32) (v:=?vo_w16) (w1:=(w14.setCell ⟨go5,(x5_1:Int).toNat * 5+2,none⟩ (.bool ((Int.tmod (wrap64 ((wrap64 (x1_1+1))+1)) 3)==0)))) ?hg ?ho ?hn ?hr ?_;(case ho=>rfl);(case hg=>rfl);(case hn=>rfl);(case hr=>first|(go_simp;done)|(go_simp;rfl));intro w16 hw;have hg:w14.grownBy w16 (some go5):=(by rw [hw];exact HP15.2);have hp_:Kd.R k50 50 w16 w0.heap.size (fun k_=>(P0_ k_ ∨ w.heap.size≤k_)) (.slice (some ⟨go5,0,none⟩) x0_1.length co10) y496:=(by rw [hw,Ny496.out];exact HP15.1);clear HP15;have n0_:=Aside0.mk (hp_);have n1_:=Aside0.mk ((by rw [hw];exact below_set (HB.out) GB5.out:Below w0.heap.size w0 w16));have n2_:=Aside0.mk (Kept.of_grown (S:=(fun k_=>P0_ k_)) hg (by repeat (first|(with_reducible first|exact HK.out|apply Kept.alloc|apply Kept.drewN|apply Kept.drew)|exact HK.out)) (fun k_ e_=>(HO_0.out.1 k_ e_)));clear HO_0;clear HB;clear HK;have HO_0:=n0_;have HB:=n1_;have HK:=n2_;clear n0_ n1_ n2_;clear hg hw hp_;have p8:0≤(x5_1:Int):=of_decide_eq_true (by first|(with_reducible assumption)|assumption);have q8:(x5_1:Int)<((x0_1.length:Int):Int):=of_decide_eq_true (by first|(with_reducible assumption)|assumption);obtain ⟨ce8,hcl8,hM8,hcc8,hfr8⟩:=Kd.R_elem HO_0.out z50 (x5_1:Int) p8 q8;obtain rfl:=k50_openM hM8;have hx8_0:w16.cell? ⟨go5,(x5_1:Int).toNat * 5,none⟩=some (.int .i64 ((rd_T50 y496 x5_1).f0)):=hcc8 0 _ rfl;have hx8_1:w16.cell? ⟨go5,(x5_1:Int).toNat * 5+1,none⟩=some (.int .i64 ((rd_T50 y496 x5_1).f1)):=hcc8 1 _ rfl;have hx8_2:w16.cell? ⟨go5,(x5_1:Int).toNat * 5+2,none⟩=some (.bool ((rd_T50 y496 x5_1).f2)):=hcc8 2 _ rfl;have hx8_3:w16.cell? ⟨go5,(x5_1:Int).toNat * 5+3,none⟩=some (.bool ((rd_T50 y496 x5_1).f3)):=hcc8 3 _ rfl;have hx8_4:w16.cell? ⟨go5,(x5_1:Int).toNat * 5+4,none⟩=some (.int .i64 ((rd_T50 y496 x5_1).f4)):=hcc8 4 _ rfl;have hf8_0:w16.frozen? ⟨go5,(x5_1:Int).toNat * 5,none⟩=false:=hfr8 0;have hf8_1:w16.frozen? ⟨go5,(x5_1:Int).toNat * 5+1,none⟩=false:=hfr8 1;have hf8_2:w16.frozen? ⟨go5,(x5_1:Int).toNat * 5+2,none⟩=false:=hfr8 2;have hf8_3:w16.frozen? ⟨go5,(x5_1:Int).toNat * 5+3,none⟩=false:=hfr8 3;have hf8_4:w16.frozen? ⟨go5,(x5_1:Int).toNat * 5+4,none⟩=false:=hfr8 4;clear hcl8 hcc8 hfr8 hM8;replace p8:=eq_true p8;replace q8:=eq_true q8;have HX17:=Aside0.mk (show Kd.R k50 50 w16 w0.heap.size (fun k_=>(P0_ k_ ∨ w.heap.size≤k_)) (.slice (some ⟨go5,0,none⟩) x0_1.length co10) y496 from (by (with_reducible repeat (first|apply Kd.R_alloc|apply Kd.R_drewN|apply Kd.R_drew));exact HO_0.out));obtain ⟨ce17,hcl17,hM17,hcc17,hfr17⟩:=Kd.R_elem HX17.out z50 (x5_1:Int) (of_decide_eq_true (by first|(with_reducible assumption)|assumption)) (by have h_:(x5_1:Int)<((x0_1.length:Int):Int):=of_decide_eq_true (by first|(with_reducible assumption)|assumption);first|exact h_|(have e_:=(Kd.R_reads' HO_0.out).1;omega)|simpa using h_);obtain rfl:=k50_openM hM17;have HP17:=Kd.R_seg HX17.out (x5_1:Int) (of_decide_eq_true (by first|(with_reducible assumption)|assumption)) (by have h_:(x5_1:Int)<((x0_1.length:Int):Int):=of_decide_eq_true (by first|(with_reducible assumption)|assumption);first|exact h_|(have e_:=(Kd.R_reads' HO_0.out).1;omega)|simpa using h_) (seg:=[.bool ((Int.tmod (wrap64 ((wrap64 ((wrap64 (x1_1+1))+1))+1)) 3)==0)]) (j:=3) hcl17 hcc17 (show 4≤5 from by decide) (x':=(⟨(rd_T50 y496 x5_1).f0,(rd_T50 y496 x5_1).f1,(rd_T50 y496 x5_1).f2,((Int.tmod (wrap64 ((wrap64 ((wrap64 (x1_1+1))+1))+1)) 3)==0),(rd_T50 y496 x5_1).f4⟩:S50)) (k50_mkM _ _ _ (⟨(rd_T50 y496 x5_1).f0,(rd_T50 y496 x5_1).f1,(rd_T50 y496 x5_1).f2,((Int.tmod (wrap64 ((wrap64 ((wrap64 (x1_1+1))+1))+1)) 3)==0),(rd_T50 y496 x5_1).f4⟩:S50) ) (fun _ hk=>hk);have hx17_3:=hcc17 3 _ rfl;(try simp only [show (k50).sz=5 from rfl,Nat.mul_one,Nat.add_zero] at hx17_3);have hf17_3:=hfr17 3;(try simp only [show (k50).sz=5 from rfl,Nat.mul_one,Nat.add_zero] at hf17_3);clear hcl17 hcc17 hfr17 hM17)|((with_reducible refine gate_store (t:=4) (p:=41) rfl ?_);refine store_event (t:=4) (p:=41) (v:=?vo_w18) (w1:=(w16.setCell ⟨go5,(x5_1:Int).toNat * 5+3,none⟩ (.bool ((Int.tmod (wrap64 ((wrap64 ((wrap64 (x1_1+1))+1))+1)) 3)==0)))) ?hg ?ho ?hn ?hr ?_;(case ho=>rfl);(case hg=>rfl);(case hn=>rfl);(case hr=>first|(go_simp;done)|(go_simp;rfl));intro w18 hw;have hg:w16.grownBy w18 (some go5):=(by rw [hw];exact HP17.2);have hp_:Kd.R k50 50 w18 w0.heap.size (fun k_=>(P0_ k_ ∨ w.heap.size≤k_)) (.slice (some ⟨go5,0,none⟩) x0_1.length co10) y497:=(by rw [hw,Ny497.out];exact HP17.1);clear HP17;have n0_:=Aside0.mk (hp_);have n1_:=Aside0.mk ((by rw [hw];exact below_set (HB.out) GB5.out:Below w0.heap.size w0 w18));have n2_:=Aside0.mk (Kept.of_grown (S:=(fun k_=>P0_ k_)) hg (by repeat (first|(with_reducible first|exact HK.out|apply Kept.alloc|apply Kept.drewN|apply Kept.drew)|exact HK.out)) (fun k_ e_=>(HO_0.out.1 k_ e_)));clear HO_0;clear HB;clear HK;have HO_0:=n0_;have HB:=n1_;have HK:=n2_;clear n0_ n1_ n2_;clear hg hw hp_;have p9:0≤(x5_1:Int):=of_decide_eq_true (by first|(with_reducible assumption)|assumption);have q9:(x5_1:Int)<((x0_1.length:Int):Int):=of_decide_eq_true (by first|(with_reducible assumption)|assumption);obtain ⟨ce9,hcl9,hM9,hcc9,hfr9⟩:=Kd.R_elem HO_0.out z50 (x5_1:Int) p9 q9;obtain rfl:=k50_openM hM9;have hx9_0:w18.cell? ⟨go5,(x5_1:Int).toNat * 5,none⟩=some (.int .i64 ((rd_T50 y497 x5_1).f0)):=hcc9 0 _ rfl;have hx9_1:w18.cell? ⟨go5,(x5_1:Int).toNat * 5+1,none⟩=some (.int .i64 ((rd_T50 y497 x5_1).f1)):=hcc9 1 _ rfl;have hx9_2:w18.cell? ⟨go5,(x5_1:Int).toNat * 5+2,none⟩=some (.bool ((rd_T50 y497 x5_1).f2)):=hcc9 2 _ rfl;have hx9_3:w18.cell? ⟨go5,(x5_1:Int).toNat * 5+3,none⟩=some (.bool ((rd_T50 y497 x5_1).f3)):=hcc9 3 _ rfl;have hx9_4:w18.cell? ⟨go5,(x5_1:Int).toNat * 5+4,none⟩=some (.int .i64 ((rd_T50 y497 x5_1).f4)):=hcc9 4 _ rfl;have hf9_0:w18.frozen? ⟨go5,(x5_1:Int).toNat * 5,none⟩=false:=hfr9 0;have hf9_1:w18.frozen? ⟨go5,(x5_1:Int).toNat * 5+1,none⟩=false:=hfr9 1;have hf9_2:w18.frozen? ⟨go5,(x5_1:Int).toNat * 5+2,none⟩=false:=hfr9 2;have hf9_3:w18.frozen? ⟨go5,(x5_1:Int).toNat * 5+3,none⟩=false:=hfr9 3;have hf9_4:w18.frozen? ⟨go5,(x5_1:Int).toNat * 5+4,none⟩=false:=hfr9 4;clear hcl9 hcc9 hfr9 hM9;replace p9:=eq_true p9;replace q9:=eq_true q9;have HX19:=Aside0.mk (show Kd.R k50 50 w18 w0.heap.size (fun k_=>(P0_ k_ ∨ w.heap.size≤k_)) (.slice (some ⟨go5,0,none⟩) x0_1.length co10) y497 from (by (with_reducible repeat (first|apply Kd.R_alloc|apply Kd.R_drewN|apply Kd.R_drew));exact HO_0.out));obtain ⟨ce19,hcl19,hM19,hcc19,hfr19⟩:=Kd.R_elem HX19.out z50 (x5_1:Int) (of_decide_eq_true (by first|(with_reducible assumption)|assumption)) (by have h_:(x5_1:Int)<((x0_1.length:Int):Int):=of_decide_eq_true (by first|(with_reducible assumption)|assumption);first|exact h_|(have e_:=(Kd.R_reads' HO_0.out).1;omega)|simpa using h_);obtain rfl:=k50_openM hM19;have HP19:=Kd.R_seg HX19.out (x5_1:Int) (of_decide_eq_true (by first|(with_reducible assumption)|assumption)) (by have h_:(x5_1:Int)<((x0_1.length:Int):Int):=of_decide_eq_true (by first|(with_reducible assumption)|assumption);first|exact h_|(have e_:=(Kd.R_reads' HO_0.out).1;omega)|simpa using h_) (seg:=[.int .i64 (wrap64 ((wrap64 ((wrap64 ((wrap64 (x1_1+1))+1))+1))+1))]) (j:=4) hcl19 hcc19 (show 5≤5 from by decide) (x':=(⟨(rd_T50 y497 x5_1).f0,(rd_T50 y497 x5_1).f1,(rd_T50 y497 x5_1).f2,(rd_T50 y497 x5_1).f3,wrap64 ((wrap64 ((wrap64 ((wrap64 (x1_1+1))+1))+1))+1)⟩:S50)) (k50_mkM _ _ _ (⟨(rd_T50 y497 x5_1).f0,(rd_T50 y497 x5_1).f1,(rd_T50 y497 x5_1).f2,(rd_T50 y497 x5_1).f3,wrap64 ((wrap64 ((wrap64 ((wrap64 (x1_1+1))+1))+1))+1)⟩:S50) ) (fun _ hk=>hk);have hx19_4:=hcc19 4 _ rfl;(try simp only [show (k50).sz=5 from rfl,Nat.mul_one,Nat.add_zero] at hx19_4);have hf19_4:=hfr19 4;(try simp only [show (k50).sz=5 from rfl,Nat.mul_one,Nat.add_zero] at hf19_4);clear hcl19 hcc19 hfr19 hM19)|((with_reducible refine gate_store (t:=3) (p:=48) rfl ?_);refine store_event (t:=3) (p:=48) (v:=?vo_w20) (w1:=(w18.setCell ⟨go5,(x5_1:Int).toNat * 5+4,none⟩ (.int .i64 (wrap64 ((wrap64 ((wrap64 ((wrap64 (x1_1+1))+1))+1))+1))))) ?hg ?ho ?hn ?hr ?_;(case ho=>rfl);(case hg=>rfl);(case hn=>rfl);(case hr=>first|(go_simp;done)|(go_simp;rfl));intro w20 hw;have hg:w18.grownBy w20 (some go5):=(by rw [hw];exact HP19.2);have hp_:Kd.R k50 50 w20 w0.heap.size (fun k_=>(P0_ k_ ∨ w.heap.size≤k_)) (.slice (some ⟨go5,0,none⟩) x0_1.length co10) y498:=(by rw [hw,Ny498.out];exact HP19.1);clear HP19;have n0_:=Aside0.mk (hp_);have n1_:=Aside0.mk ((by rw [hw];exact below_set (HB.out) GB5.out:Below w0.heap.size w0 w20));have n2_:=Aside0.mk (Kept.of_grown (S:=(fun k_=>P0_ k_)) hg (by repeat (first|(with_reducible first|exact HK.out|apply Kept.alloc|apply Kept.drewN|apply Kept.drew)|exact HK.out)) (fun k_ e_=>(HO_0.out.1 k_ e_)));clear HO_0;clear HB;clear HK;have HO_0:=n0_;have HB:=n1_;have HK:=n2_;clear n0_ n1_ n2_;clear hg hw hp_))
     go_roundg k1
     case measure=>have:=HK1.out;omega
     case rel=>exact ⟨(y498),(wrap64 ((wrap64 ((wrap64 ((wrap64 ((wrap64 (x1_1+1))+1))+1))+1))+1)),(wrap64 (x5_1+1)),(by first|rfl|(simp;done)|(simp [*];done)),(by first|rfl|(simp;done)|(simp [*];done)),H',⟨by have:=HK1.out;omega⟩,⟨by (with_reducible repeat (first|apply Kd.R_alloc|apply Kd.R_drewN|apply Kd.R_drew));exact HO_0.out⟩,⟨by repeat (first|(with_reducible first|exact HK.out|apply Kept.alloc|apply Kept.drewN|apply Kept.drew)|exact HK.out)⟩,⟨by repeat (first|(with_reducible first|exact HB.out|apply below_alloc|apply pw_below_drewN|apply below_drew1)|exact HB.out)⟩⟩
    rw [if_neg c4] at H
    exact absurd H (by simp)
   rw [if_neg c3] at H
   have c3b0:decide (x5_1<(x0_1.length:Int))=false:=decide_eq_false c3
   clear c3
   simp only [Option.some.injEq,Prod.mk.injEq] at H
   obtain ⟨rfl,rfl⟩:=H
   obtain ⟨Ao21,co21,eo21⟩:=Kd.R_slice HO_0.out
   subst eo21
   go_wp2
   go_ret
   exact ⟨by first|rfl|(simp [errW_none,errW_some] <;> rfl)|(simp [*,errW_none,errW_some] <;> rfl),by (with_reducible repeat (first|apply Kd.R_alloc|apply Kd.R_drewN|apply Kd.R_drew));exact HO_0.out,by repeat (first|(with_reducible first|exact HB.out|apply below_alloc|apply pw_below_drewN|apply below_drew1)|exact HB.out),by repeat (first|(with_reducible first|exact HK.out|apply Kept.alloc|apply Kept.drewN|apply Kept.drew)|exact HK.out)⟩
end Go.Proofs.Ytpdnabhpkdchjaa.P
namespace Go.Proofs.Ytpdnabhpkdchjaa.P
open Go.RowKit Go.Proofs.YtpdnabhpkdchjaaW.PrintWords Go.Proofs.YtpdnabhpkdchjaaW.PrintLast Go.Proofs.YtpdnabhpkdchjaaW.PrintMore
attribute [local go_sem] max2_int min2_int max_two min_two max_three min_three max_four min_four
set_option linter.unusedVariables false
set_option linter.unusedSimpArgs false
def laws_markBoolS.l0:Nat→List Bool→Int→Int→Option (Int × List Bool)
 | 0,_,_,_=>none
 | k+1,x0,x1,x5=>if x5<(x0.length:Int) then (if 0≤x5 then (laws_markBoolS.l0 k (x0.set (x5:Int).toNat ((Int.tmod x1 3)==0)) (wrap64 (x1+1)) (wrap64 (x5+1))) else (none)) else (some (x1,x0))
def laws_markBoolS.f (k:Nat) (l0:List Bool) (a1:Int):Option (Int × List Bool):=laws_markBoolS.l0 k l0 a1 0
set_option maxHeartbeats 8000000 in
set_option maxRecDepth 100000 in
theorem laws_markBoolS.calls (k:Nat) (P0_:Nat→Prop) (u9000_:Value) (l0:List Bool) (a1:Int) (r1:Int) (r2:List Bool) (w0 w:World) (hB:Below w0.heap.size w0 w) (ho0:Kd.R Kd.bool 4 w w0.heap.size P0_ u9000_ l0) (h:laws_markBoolS.f k l0 a1=some (r1,r2)) :
  Calls Try.prog 103 #[u9000_,.int .i64 a1] w fun e w'=>e=.returned (.int .i64 r1)∧Kd.R Kd.bool 4 w' w0.heap.size (fun k_=>(P0_ k_ ∨ w.heap.size≤k_)) u9000_ r2∧Below w0.heap.size w0 w'∧Kept w w' (fun k_=>P0_ k_):=by
 have HO0:=Aside0.mk (show Kd.R Kd.bool 4 w w0.heap.size (fun k_=>(P0_ k_ ∨ w.heap.size≤k_)) u9000_ l0 from Kd.R_mono ho0 (fun k_ hk=>(.inl hk)))
 have HK:=Aside0.mk (Kept.refl w (fun k_=>P0_ k_))
 have HW0:=Aside0.mk hB.size
 have HB:=Aside0.mk hB
 clear hB
 have H:(laws_markBoolS.l0 k l0 a1 0)=some (r1,r2):=h
 clear h
 have H':=Aside0.mk H
 clear H
 go_enter Try.func103,Try.ntmps103
 go_wp2
 go_loopg [1,5] k (fun kq v1 v5 w'=>∃ (x0_1:List Bool) (x1_1:Int) (x5_1:Int),v1=.int .i64 x1_1∧v5=.int .i64 x5_1∧Aside0 (laws_markBoolS.l0 kq x0_1 x1_1 x5_1=some (r1,r2))∧Aside0 (kq≤k)∧Aside0 (Kd.R Kd.bool 4 w' w0.heap.size (fun k_=>(P0_ k_ ∨ w.heap.size≤k_)) u9000_ x0_1)∧Aside0 (Kept w w' (fun k_=>P0_ k_))∧Aside0 (Below w0.heap.size w0 w'))
 case atStart=>exact ⟨(l0),(a1),(0),(by first|rfl|(simp;done)|(simp [*];done)),(by first|rfl|(simp;done)|(simp [*];done)),H',⟨Nat.le_refl _⟩,⟨by (with_reducible repeat (first|apply Kd.R_alloc|apply Kd.R_drewN|apply Kd.R_drew));exact HO0.out⟩,⟨by repeat (first|(with_reducible first|exact HK.out|apply Kept.alloc|apply Kept.drewN|apply Kept.drew)|exact HK.out)⟩,⟨by repeat (first|(with_reducible first|exact HB.out|apply below_alloc|apply pw_below_drewN|apply below_drew1)|exact HB.out)⟩⟩
 case round =>
  clear H'
  try clear c1
  try clear p2
  obtain ⟨x0_1,x1_1,x5_1,rfl,rfl,HA,HK1,HO_0,HK,HB⟩:=hrel
  cases gk with
  | zero=>exact absurd HA.out (by simp [laws_markBoolS.l0])
  | succ k1 =>
   have H:=HA.out
   clear HA
   simp only [laws_markBoolS.l0] at H
   by_cases c3:x5_1<(x0_1.length:Int)
   ·rw [if_pos c3] at H
    have c3b0:decide (x5_1<(x0_1.length:Int))=true:=decide_eq_true c3
    clear c3
    by_cases c4:0≤x5_1
    ·rw [if_pos c4] at H
     have c4b0:decide (0≤x5_1)=true:=decide_eq_true c4
     clear c4
     obtain ⟨y499,hy499⟩:∃ y_:List Bool,y_=(x0_1.set (x5_1:Int).toNat ((Int.tmod x1_1 3)==0)):=⟨_,rfl⟩
     replace H:(laws_markBoolS.l0 k1 y499 (wrap64 (x1_1+1)) (wrap64 (x5_1+1)))=some (r1,r2):=by first|(rw [hy499];with_reducible exact H)|(have H2_:=(Option.bind_some _ _).symm.trans H;rw [hy499];with_reducible exact H2_)|(have H2_:=(Option.bind_some _ _).symm.trans H;with_reducible exact H2_)|with_reducible exact H|(rw [hy499];exact H)|exact H
     have Ny499:=Aside0.mk hy499
     clear hy499
     have H':=Aside0.mk H
     clear H
     obtain ⟨Ao6,co6,eo6⟩:=Kd.R_slice HO_0.out
     subst eo6
     have p5:0≤(x5_1:Int):=of_decide_eq_true (by first|(with_reducible assumption)|assumption)
     have q5:(x5_1:Int)<((x0_1.length:Int):Int):=of_decide_eq_true (by first|(with_reducible assumption)|assumption)
     obtain ⟨go5,co5,eo5,gb5,gl5,cl5,HG5⟩:=Kd.R_form HO_0.out (by omega)
     (first|cases eo5|(injection eo5 with ea_ en_ ec_;(first|subst ea_|(injection ea_ with ea_;subst ea_));subst ec_;clear en_))
     have GB5:=Aside0.mk gb5
     have GG5:=Aside0.mk HG5
     clear gb5 gl5 HG5
     have HMgo5:=Aside0.mk (show (P0_ go5 ∨ w.heap.size≤go5) from (HO_0.out.1 _ rfl))
     obtain ⟨hx5_0,hf5_0⟩:=Kd.R_celln false HO_0.out (x5_1:Int) p5 q5
     replace p5:=eq_true p5
     replace q5:=eq_true q5
     have HP7:=Kd.R_putg HO_0.out (x5_1:Int) ((Int.tmod x1_1 3)==0)
     go_wp2_with (first|((with_reducible refine gate_store (t:=4) (p:=17) rfl ?_);refine store_event (t:=4) (p:=17) (v:=?vo_w8) (w1:=(wr.setCell ⟨go5,(x5_1:Int).toNat,none⟩ (.bool ((Int.tmod x1_1 3)==0)))) ?hg ?ho ?hn ?hr ?_;(case ho=>rfl);(case hg=>rfl);(case hn=>rfl);(case hr=>first|(go_simp;done)|(go_simp;rfl));intro w8 hw;have hg:wr.grownBy w8 (some go5):=(by rw [hw];exact HP7.2);have hp_:Kd.R Kd.bool 4 w8 w0.heap.size (fun k_=>(P0_ k_ ∨ w.heap.size≤k_)) (.slice (some ⟨go5,0,none⟩) x0_1.length co6) y499:=(by rw [hw,Ny499.out];exact HP7.1);clear HP7;have n0_:=Aside0.mk (hp_);have n1_:=Aside0.mk ((by rw [hw];exact below_set (HB.out) GB5.out:Below w0.heap.size w0 w8));have n2_:=Aside0.mk (Kept.of_grown (S:=(fun k_=>P0_ k_)) hg (by repeat (first|(with_reducible first|exact HK.out|apply Kept.alloc|apply Kept.drewN|apply Kept.drew)|exact HK.out)) (fun k_ e_=>(HO_0.out.1 k_ e_)));clear HO_0;clear HB;clear HK;have HO_0:=n0_;have HB:=n1_;have HK:=n2_;clear n0_ n1_ n2_;clear hg hw hp_))
     go_roundg k1
     case measure=>have:=HK1.out;omega
     case rel=>exact ⟨(y499),(wrap64 (x1_1+1)),(wrap64 (x5_1+1)),(by first|rfl|(simp;done)|(simp [*];done)),(by first|rfl|(simp;done)|(simp [*];done)),H',⟨by have:=HK1.out;omega⟩,⟨by (with_reducible repeat (first|apply Kd.R_alloc|apply Kd.R_drewN|apply Kd.R_drew));exact HO_0.out⟩,⟨by repeat (first|(with_reducible first|exact HK.out|apply Kept.alloc|apply Kept.drewN|apply Kept.drew)|exact HK.out)⟩,⟨by repeat (first|(with_reducible first|exact HB.out|apply below_alloc|apply pw_below_drewN|apply below_drew1)|exact HB.out)⟩⟩
    rw [if_neg c4] at H
    exact absurd H (by simp)
   rw [if_neg c3] at H
   have c3b0:decide (x5_1<(x0_1.length:Int))=false:=decide_eq_false c3
   clear c3
   simp only [Option.some.injEq,Prod.mk.injEq] at H
   obtain ⟨rfl,rfl⟩:=H
   obtain ⟨Ao9,co9,eo9⟩:=Kd.R_slice HO_0.out
   subst eo9
   go_wp2
   go_ret
   exact ⟨by first|rfl|(simp [errW_none,errW_some] <;> rfl)|(simp [*,errW_none,errW_some] <;> rfl),by (with_reducible repeat (first|apply Kd.R_alloc|apply Kd.R_drewN|apply Kd.R_drew));exact HO_0.out,by repeat (first|(with_reducible first|exact HB.out|apply below_alloc|apply pw_below_drewN|apply below_drew1)|exact HB.out),by repeat (first|(with_reducible first|exact HK.out|apply Kept.alloc|apply Kept.drewN|apply Kept.drew)|exact HK.out)⟩
end Go.Proofs.Ytpdnabhpkdchjaa.P
namespace Go.Proofs.Ytpdnabhpkdchjaa.P
open Go.RowKit Go.Proofs.YtpdnabhpkdchjaaW.PrintWords Go.Proofs.YtpdnabhpkdchjaaW.PrintLast Go.Proofs.YtpdnabhpkdchjaaW.PrintMore
attribute [local go_sem] max2_int min2_int max_two min_two max_three min_three max_four min_four
set_option linter.unusedVariables false
set_option linter.unusedSimpArgs false
def laws_markState.f (k:Nat) (a0_0:Bool) (l0_1:List (S50)) (l0_2:List Bool) (a1:Int):Option (Int × (List (S50)) × List Bool):=(laws_markSectionS.f k l0_1 a1).bind fun bt501=>((laws_markBoolS.f k l0_2 bt501.1).bind fun bt503=>(some (bt503.1,bt501.2,bt503.2)))
set_option maxHeartbeats 8000000 in
set_option maxRecDepth 100000 in
theorem laws_markState.calls (k:Nat) (a0_0:Bool) (P0_1_:Nat→Prop) (u9000_:Value) (l0_1:List (S50)) (P0_2_:Nat→Prop) (u9001_:Value) (l0_2:List Bool) (a1:Int) (r1:Int) (r2:List (S50)) (r3:List Bool) (w0 w:World) (hB:Below w0.heap.size w0 w) (ho0_1:Kd.R k50 50 w w0.heap.size P0_1_ u9000_ l0_1) (ho0_2:Kd.R Kd.bool 4 w w0.heap.size P0_2_ u9001_ l0_2) (h:laws_markState.f k a0_0 l0_1 l0_2 a1=some (r1,r2,r3)) :
  Calls Try.prog 46 #[.agg #[.bool a0_0,u9000_,u9001_],.int .i64 a1] w fun e w'=>e=.returned (.int .i64 r1)∧Kd.R k50 50 w' w0.heap.size (fun k_=>((P0_1_ k_ ∨ P0_2_ k_) ∨ w.heap.size≤k_)) u9000_ r2∧Kd.R Kd.bool 4 w' w0.heap.size (fun k_=>((P0_1_ k_ ∨ P0_2_ k_) ∨ w.heap.size≤k_)) u9001_ r3∧Below w0.heap.size w0 w'∧Kept w w' (fun k_=>P0_1_ k_ ∨ P0_2_ k_):=by
 have hu46:=Try.underlying46
 have HO0_1:=Aside0.mk (show Kd.R k50 50 w w0.heap.size (fun k_=>((P0_1_ k_ ∨ P0_2_ k_) ∨ w.heap.size≤k_)) u9000_ l0_1 from Kd.R_mono ho0_1 (fun k_ hk=>(.inl (.inl hk))))
 have HO0_2:=Aside0.mk (show Kd.R Kd.bool 4 w w0.heap.size (fun k_=>((P0_1_ k_ ∨ P0_2_ k_) ∨ w.heap.size≤k_)) u9001_ l0_2 from Kd.R_mono ho0_2 (fun k_ hk=>(.inl (.inr hk))))
 have HK:=Aside0.mk (Kept.refl w (fun k_=>P0_1_ k_ ∨ P0_2_ k_))
 have HW0:=Aside0.mk hB.size
 have HB:=Aside0.mk hB
 clear hB
 have H:((laws_markSectionS.f k l0_1 a1).bind fun bt501=>((laws_markBoolS.f k l0_2 bt501.1).bind fun bt503=>(some (bt503.1,bt501.2,bt503.2))))=some (r1,r2,r3):=h
 clear h
 replace H:=Option.bind_eq_some_iff.mp H
 obtain ⟨⟨t501,t502⟩,A30,H⟩:=H
 replace H:((laws_markBoolS.f k l0_2 t501).bind fun bt503=>(some (bt503.1,t502,bt503.2)))=some (r1,r2,r3):=H
 have A3:=Aside0.mk A30
 clear A30
 replace H:=Option.bind_eq_some_iff.mp H
 obtain ⟨⟨t503,t504⟩,A40,H⟩:=H
 replace H:(some (t503,t502,t504))=some (r1,r2,r3):=H
 have A4:=Aside0.mk A40
 clear A40
 simp only [Option.some.injEq,Prod.mk.injEq] at H
 obtain ⟨rfl,rfl,rfl⟩:=H
 obtain ⟨Ao5,co5,eo5⟩:=Kd.R_slice HO0_1.out
 subst eo5
 obtain ⟨Ao6,co6,eo6⟩:=Kd.R_slice HO0_2.out
 subst eo6
 go_enter Try.func46,Try.ntmps46
 go_wp2_with (first|((with_reducible refine gate_dst (N:=2) rfl ?_);refine box_event ?hg (N:=2) ?hd (cs:=#[.bool a0_0,.slice Ao5 l0_1.length co5,.slice Ao6 l0_2.length co6]) (t:=46) ?hr ?_;(case hd=>rfl);(case hg=>rfl);(case hr=>first|(go_simp;done)|(go_simp;rfl));intro gb500 hg w7 hbox hb;have n0_:=Aside0.mk (Kd.R_below (by (with_reducible repeat (first|apply Kd.R_alloc|apply Kd.R_drewN|apply Kd.R_drew));exact HO0_1.out) hb);have n1_:=Aside0.mk (Kd.R_below (by (with_reducible repeat (first|apply Kd.R_alloc|apply Kd.R_drewN|apply Kd.R_drew));exact HO0_2.out) hb);have n2_:=Aside0.mk (Kept.below (S:=(fun k_=>P0_1_ k_ ∨ P0_2_ k_)) (by repeat (first|(with_reducible first|exact HK.out|apply Kept.alloc|apply Kept.drewN|apply Kept.drew)|exact HK.out)) hb);have n3_:=Aside0.mk (below_step (by repeat (first|(with_reducible first|exact HB.out|apply below_alloc|apply pw_below_drewN|apply below_drew1)|exact HB.out)) hb);have n4_:=Aside0.mk (hbox);have n5_:=Aside0.mk ((by rw [hg];exact (by first|exact HK.out.1|exact (show Kept w _ (fun k_=>P0_1_ k_ ∨ P0_2_ k_) from by repeat (first|(with_reducible first|exact HK.out|apply Kept.alloc|apply Kept.drewN|apply Kept.drew)|exact HK.out)).1):w.heap.size≤gb500));have n6_:=Aside0.mk ((by rw [hg];exact (below_size (by repeat (first|(with_reducible first|exact HB.out|apply below_alloc|apply pw_below_drewN|apply below_drew1)|exact HB.out))):w0.heap.size≤gb500));clear HO0_1;clear HO0_2;clear HK;clear HB;have HO0_1:=n0_;have HO0_2:=n1_;have HK:=n2_;have HB:=n3_;have BK500:=n4_;have GW500:=n5_;have GE500:=n6_;clear n0_ n1_ n2_ n3_ n4_ n5_ n6_;clear hb hbox hg;have hcz8_0:w7.cell? ⟨gb500,0,none⟩=some (.bool a0_0):=(blk_cell BK500.out 0).trans rfl;have hcz8_1:w7.cell? ⟨gb500,1,none⟩=some (.slice Ao5 l0_1.length co5):=(blk_cell BK500.out 1).trans rfl;have hcz8_2:w7.cell? ⟨gb500,2,none⟩=some (.slice Ao6 l0_2.length co6):=(blk_cell BK500.out 2).trans rfl;have hfz8_0:=blk_frozen BK500.out 0;have hfz8_1:=blk_frozen BK500.out 1;have hfz8_2:=blk_frozen BK500.out 2)|((with_reducible refine gate_callee (f:=102) rfl ?_);refine goesL_ (some 8) rfl rfl Try.func102 (by kernel_rfl) rfl #[.slice Ao5 l0_1.length co5,.int .i64 a1] rfl (by (try simp only [List.map_toArray,List.map_cons,List.map_nil]);first|done|rfl|(simp only [List.length_drop,List.length_take];rfl)) ?_;(with_reducible refine (laws_markSectionS.calls k (fun k_=>some k_=(.slice Ao5 l0_1.length co5:Value).ownBlock) (.slice Ao5 l0_1.length co5) l0_1 a1 t501 t502 w0 _ ?side1 ?side2 A3.out).mono ?_);(case side1=>repeat (first|(with_reducible first|exact HB.out|apply below_alloc|apply pw_below_drewN|apply below_drew1|refine below_set ?_ GE500.out)|exact HB.out));(case side2=>exact Kd.R_tight rfl HO0_1.out);rintro e w9 ⟨rfl,hy0,hb,hkp⟩;refine ⟨_,rfl,?_⟩;have n0_:=Aside0.mk (Kd.R_reok rfl hy0 (fun k_ e_=>HO0_1.out.1 k_ e_));have n1_:=Aside0.mk (Kd.R_mono (ok':=fun k_=>((P0_1_ k_ ∨ P0_2_ k_) ∨ w.heap.size≤k_)) (Kd.R_keptB ((Kd.R_apart' HO0_2.out (Kd.R_typed HO0_1.out) (by decide))) hkp (fun k_ hk_ hs_=>(hk_.2) hs_)) (fun k_ hk_=>hk_.1.1));have n2_:=Aside0.mk (blk_kept (by (with_reducible repeat (first|refine blk_drewN ?_ _|refine blk_drew ?_|refine blk_alloc ?_ _));exact BK500.out) hkp (fun hs_=>(fun e_=>(Kd.R_ne HO0_1.out BK500.out (by decide)) e_) hs_));have n3_:=Aside0.mk (Kept.then_ (S:=(fun k_=>P0_1_ k_ ∨ P0_2_ k_)) (by repeat (first|(with_reducible first|exact HK.out|apply Kept.alloc|apply Kept.drewN|apply Kept.drew|refine Kept.setCell ?_ (.inr GW500.out) _)|exact HK.out)) hkp (fun k_ hs_=>(fun e_=>(HO0_1.out.1 k_ e_.symm)) hs_));have n4_:=Aside0.mk (hb);clear HO0_1;clear HO0_2;clear BK500;clear HK;clear HB;have HO0_1:=n0_;have HO0_2:=n1_;have BK500:=n2_;have HK:=n3_;have HB:=n4_;clear n0_ n1_ n2_ n3_ n4_;(try clear hb);(try clear hkp);(try clear hy0);have hcz10_0:w9.cell? ⟨gb500,0,none⟩=some (.bool a0_0):=(blk_cell BK500.out 0).trans rfl;have hcz10_1:w9.cell? ⟨gb500,1,none⟩=some (.slice Ao5 l0_1.length co5):=(blk_cell BK500.out 1).trans rfl;have hcz10_2:w9.cell? ⟨gb500,2,none⟩=some (.slice Ao6 l0_2.length co6):=(blk_cell BK500.out 2).trans rfl;have hfz10_0:=blk_frozen BK500.out 0;have hfz10_1:=blk_frozen BK500.out 1;have hfz10_2:=blk_frozen BK500.out 2)|((with_reducible refine gate_callee (f:=103) rfl ?_);refine goesL_ (some 12) rfl rfl Try.func103 (by kernel_rfl) rfl #[.slice Ao6 l0_2.length co6,.int .i64 t501] rfl (by (try simp only [List.map_toArray,List.map_cons,List.map_nil]);first|done|rfl|(simp only [List.length_drop,List.length_take];rfl)) ?_;(with_reducible refine (laws_markBoolS.calls k (fun k_=>some k_=(.slice Ao6 l0_2.length co6:Value).ownBlock) (.slice Ao6 l0_2.length co6) l0_2 t501 t503 t504 w0 _ ?side1 ?side2 A4.out).mono ?_);(case side1=>repeat (first|(with_reducible first|exact HB.out|apply below_alloc|apply pw_below_drewN|apply below_drew1|refine below_set ?_ GE500.out)|exact HB.out));(case side2=>exact Kd.R_tight rfl HO0_2.out);rintro e w11 ⟨rfl,hy0,hb,hkp⟩;refine ⟨_,rfl,?_⟩;have n0_:=Aside0.mk (Kd.R_mono (ok':=fun k_=>((P0_1_ k_ ∨ P0_2_ k_) ∨ w.heap.size≤k_)) (Kd.R_keptB ((Kd.R_apart' HO0_1.out (Kd.R_typed HO0_2.out) (by decide))) hkp (fun k_ hk_ hs_=>(hk_.2) hs_)) (fun k_ hk_=>hk_.1.1));have n1_:=Aside0.mk (Kd.R_reok rfl hy0 (fun k_ e_=>HO0_2.out.1 k_ e_));have n2_:=Aside0.mk (blk_kept (by (with_reducible repeat (first|refine blk_drewN ?_ _|refine blk_drew ?_|refine blk_alloc ?_ _));exact BK500.out) hkp (fun hs_=>(fun e_=>(Kd.R_ne HO0_2.out BK500.out (by decide)) e_) hs_));have n3_:=Aside0.mk (Kept.then_ (S:=(fun k_=>P0_1_ k_ ∨ P0_2_ k_)) (by repeat (first|(with_reducible first|exact HK.out|apply Kept.alloc|apply Kept.drewN|apply Kept.drew|refine Kept.setCell ?_ (.inr GW500.out) _)|exact HK.out)) hkp (fun k_ hs_=>(fun e_=>(HO0_2.out.1 k_ e_.symm)) hs_));have n4_:=Aside0.mk (hb);clear HO0_1;clear HO0_2;clear BK500;clear HK;clear HB;have HO0_1:=n0_;have HO0_2:=n1_;have BK500:=n2_;have HK:=n3_;have HB:=n4_;clear n0_ n1_ n2_ n3_ n4_;(try clear hb);(try clear hkp);(try clear hy0)))
 go_ret
 exact ⟨by first|rfl|(simp [errW_none,errW_some] <;> rfl)|(simp [*,errW_none,errW_some] <;> rfl),by (with_reducible repeat (first|apply Kd.R_alloc|apply Kd.R_drewN|apply Kd.R_drew));exact HO0_1.out,by (with_reducible repeat (first|apply Kd.R_alloc|apply Kd.R_drewN|apply Kd.R_drew));exact HO0_2.out,by repeat (first|(with_reducible first|exact HB.out|apply below_alloc|apply pw_below_drewN|apply below_drew1|refine below_set ?_ GE500.out)|exact HB.out),by repeat (first|(with_reducible first|exact HK.out|apply Kept.alloc|apply Kept.drewN|apply Kept.drew|refine Kept.setCell ?_ (.inr GW500.out) _)|exact HK.out)⟩
end Go.Proofs.Ytpdnabhpkdchjaa.P
namespace Go.Proofs.Ytpdnabhpkdchjaa.P
open Go.RowKit Go.Proofs.YtpdnabhpkdchjaaW.PrintWords Go.Proofs.YtpdnabhpkdchjaaW.PrintLast Go.Proofs.YtpdnabhpkdchjaaW.PrintMore
attribute [local go_sem] max2_int min2_int max_two min_two max_three min_three max_four min_four
set_option linter.unusedVariables false
set_option linter.unusedSimpArgs false
def laws_heldSectionS.l0:Nat→List (S50)→Int→Int→Option (Int)
 | 0,_,_,_=>none
 | k+1,x0,x1,x5=>if x5<(x0.length:Int) then (if 0≤x5 then (if ((rd_T50 x0 x5).f0)=x1 then (if ((rd_T50 x0 x5).f1)=(wrap64 (x1+1)) then (if (((rd_T50 x0 x5).f2) != ((Int.tmod (wrap64 ((wrap64 (x1+1))+1)) 3)==0))=true then (some (-1)) else (if (((rd_T50 x0 x5).f3) != ((Int.tmod (wrap64 ((wrap64 ((wrap64 (x1+1))+1))+1)) 3)==0))=true then (some (-1)) else (if ((rd_T50 x0 x5).f4)=(wrap64 ((wrap64 ((wrap64 ((wrap64 (x1+1))+1))+1))+1)) then (laws_heldSectionS.l0 k x0 (wrap64 ((wrap64 ((wrap64 ((wrap64 ((wrap64 (x1+1))+1))+1))+1))+1)) (wrap64 (x5+1))) else (some (-1))))) else (some (-1))) else (some (-1))) else (none)) else (some x1)
def laws_heldSectionS.f (k:Nat) (l0:List (S50)) (a1:Int):Option (Int):=laws_heldSectionS.l0 k l0 a1 0
set_option maxHeartbeats 8000000 in
set_option maxRecDepth 100000 in
theorem laws_heldSectionS.calls (k:Nat) (A0:Option Addr) (c0:Nat) (l0:List (S50)) (a1:Int) (r:Int) (w:World) (hr0:Kd.C k50 w A0 l0.length l0) (hc0:l0.length≤c0) (h:laws_heldSectionS.f k l0 a1=some r) :
  Calls Try.prog 104 #[.slice A0 l0.length c0,.int .i64 a1] w fun e w'=>e=.returned (.int .i64 r)∧Drawn0 w w':=by
 have HR0:=Aside0.mk hr0
 have HC0:=Aside0.mk hc0
 clear hr0 hc0
 have H:(laws_heldSectionS.l0 k l0 a1 0)=some r:=h
 clear h
 have H':=Aside0.mk H
 clear H
 go_enter Try.func104,Try.ntmps104
 go_wp2
 go_loopg [1,5] k (fun kq v1 v5 w'=>∃ (x1_1:Int) (x5_1:Int),v1=.int .i64 x1_1∧v5=.int .i64 x5_1∧Aside0 (laws_heldSectionS.l0 kq l0 x1_1 x5_1=some r)∧Aside0 (kq≤k)∧Drawn0 w w')
 case atStart=>exact ⟨(a1),(0),(by first|rfl|(simp;done)|(simp [*];done)),(by first|rfl|(simp;done)|(simp [*];done)),H',⟨Nat.le_refl _⟩,by repeat (first|exact Drawn0.refl _|apply Drawn0.step)⟩
 case round =>
  clear H'
  try clear c1
  try clear p2
  obtain ⟨x1_1,x5_1,rfl,rfl,HA,HK1,⟨m1,rfl⟩⟩:=hrel
  cases gk with
  | zero=>exact absurd HA.out (by simp [laws_heldSectionS.l0])
  | succ k1 =>
   have H:=HA.out
   clear HA
   simp only [laws_heldSectionS.l0] at H
   by_cases c3:x5_1<(l0.length:Int)
   ·rw [if_pos c3] at H
    have c3b0:decide (x5_1<(l0.length:Int))=true:=decide_eq_true c3
    clear c3
    by_cases c4:0≤x5_1
    ·rw [if_pos c4] at H
     have c4b0:decide (0≤x5_1)=true:=decide_eq_true c4
     clear c4
     by_cases c5:((rd_T50 l0 x5_1).f0)=x1_1
     ·rw [if_pos c5] at H
      have c5b0:(((rd_T50 l0 x5_1).f0)==x1_1)=true:=beq_iff_eq.mpr c5
      have c5b1:(((rd_T50 l0 x5_1).f0) != x1_1)=false:=bne_eq_false_iff_eq.mpr c5
      clear c5
      by_cases c6:((rd_T50 l0 x5_1).f1)=(wrap64 (x1_1+1))
      ·rw [if_pos c6] at H
       have c6b0:(((rd_T50 l0 x5_1).f1)==(wrap64 (x1_1+1)))=true:=beq_iff_eq.mpr c6
       have c6b1:(((rd_T50 l0 x5_1).f1) != (wrap64 (x1_1+1)))=false:=bne_eq_false_iff_eq.mpr c6
       clear c6
       by_cases c7:(((rd_T50 l0 x5_1).f2) != ((Int.tmod (wrap64 ((wrap64 (x1_1+1))+1)) 3)==0))=true
       ·rw [if_pos c7] at H
        have c7b0:(((rd_T50 l0 x5_1).f2) != ((Int.tmod (wrap64 ((wrap64 (x1_1+1))+1)) 3)==0))=true:=c7
        (try (have c7b1:decide (((rd_T50 l0 x5_1).f2)=((Int.tmod (wrap64 ((wrap64 (x1_1+1))+1)) 3)==0))=false:=by simpa using c7))
        (try (have c7b2:(((rd_T50 l0 x5_1).f2)==((Int.tmod (wrap64 ((wrap64 (x1_1+1))+1)) 3)==0))=false:=by simpa using c7))
        (try (have c7b3:¬ (((rd_T50 l0 x5_1).f2)=((Int.tmod (wrap64 ((wrap64 (x1_1+1))+1)) 3)==0)):=by simpa using c7))
        clear c7
        obtain rfl:=Option.some.inj H
        have p505:0≤(x5_1:Int):=of_decide_eq_true (by first|(with_reducible assumption)|assumption)
        have q505:x5_1<(l0.length:Int):=of_decide_eq_true (by first|(with_reducible assumption)|assumption)
        obtain ⟨ad505,e505,hx505_0,hx505_1,hx505_2,hx505_3,hx505_4⟩:=at_T50 HR0.out x5_1 p505 q505
        cases e505
        replace p505:=eq_true p505
        replace q505:=eq_true q505
        have p506:0≤(x5_1:Int):=of_decide_eq_true (by first|(with_reducible assumption)|assumption)
        have q506:x5_1<(l0.length:Int):=of_decide_eq_true (by first|(with_reducible assumption)|assumption)
        obtain ⟨ad506,e506,hx506_0,hx506_1,hx506_2,hx506_3,hx506_4⟩:=at_T50 HR0.out x5_1 p506 q506
        obtain rfl:ad505=ad506:=(by injection e506)
        replace p506:=eq_true p506
        replace q506:=eq_true q506
        have p507:0≤(x5_1:Int):=of_decide_eq_true (by first|(with_reducible assumption)|assumption)
        have q507:x5_1<(l0.length:Int):=of_decide_eq_true (by first|(with_reducible assumption)|assumption)
        obtain ⟨ad507,e507,hx507_0,hx507_1,hx507_2,hx507_3,hx507_4⟩:=at_T50 HR0.out x5_1 p507 q507
        obtain rfl:ad505=ad507:=(by injection e507)
        replace p507:=eq_true p507
        replace q507:=eq_true q507
        go_wp2
        go_ret
        exact ⟨by first|rfl|(simp;done)|(simp [*];done),by repeat (first|exact Drawn0.refl _|apply Drawn0.step)⟩
       rw [if_neg c7] at H
       have c7b0:(((rd_T50 l0 x5_1).f2) != ((Int.tmod (wrap64 ((wrap64 (x1_1+1))+1)) 3)==0))=false:=by simpa using c7
       (try (have c7b1:decide (((rd_T50 l0 x5_1).f2)=((Int.tmod (wrap64 ((wrap64 (x1_1+1))+1)) 3)==0))=true:=by simpa using c7))
       (try (have c7b2:(((rd_T50 l0 x5_1).f2)==((Int.tmod (wrap64 ((wrap64 (x1_1+1))+1)) 3)==0))=true:=by simpa using c7))
       clear c7
       by_cases c8:(((rd_T50 l0 x5_1).f3) != ((Int.tmod (wrap64 ((wrap64 ((wrap64 (x1_1+1))+1))+1)) 3)==0))=true
       ·rw [if_pos c8] at H
        have c8b0:(((rd_T50 l0 x5_1).f3) != ((Int.tmod (wrap64 ((wrap64 ((wrap64 (x1_1+1))+1))+1)) 3)==0))=true:=c8
        (try (have c8b1:decide (((rd_T50 l0 x5_1).f3)=((Int.tmod (wrap64 ((wrap64 ((wrap64 (x1_1+1))+1))+1)) 3)==0))=false:=by simpa using c8))
        (try (have c8b2:(((rd_T50 l0 x5_1).f3)==((Int.tmod (wrap64 ((wrap64 ((wrap64 (x1_1+1))+1))+1)) 3)==0))=false:=by simpa using c8))
        (try (have c8b3:¬ (((rd_T50 l0 x5_1).f3)=((Int.tmod (wrap64 ((wrap64 ((wrap64 (x1_1+1))+1))+1)) 3)==0)):=by simpa using c8))
        clear c8
        obtain rfl:=Option.some.inj H
        have p505:0≤(x5_1:Int):=of_decide_eq_true (by first|(with_reducible assumption)|assumption)
        have q505:x5_1<(l0.length:Int):=of_decide_eq_true (by first|(with_reducible assumption)|assumption)
        obtain ⟨ad505,e505,hx505_0,hx505_1,hx505_2,hx505_3,hx505_4⟩:=at_T50 HR0.out x5_1 p505 q505
        cases e505
        replace p505:=eq_true p505
        replace q505:=eq_true q505
        have p506:0≤(x5_1:Int):=of_decide_eq_true (by first|(with_reducible assumption)|assumption)
        have q506:x5_1<(l0.length:Int):=of_decide_eq_true (by first|(with_reducible assumption)|assumption)
        obtain ⟨ad506,e506,hx506_0,hx506_1,hx506_2,hx506_3,hx506_4⟩:=at_T50 HR0.out x5_1 p506 q506
        obtain rfl:ad505=ad506:=(by injection e506)
        replace p506:=eq_true p506
        replace q506:=eq_true q506
        have p507:0≤(x5_1:Int):=of_decide_eq_true (by first|(with_reducible assumption)|assumption)
        have q507:x5_1<(l0.length:Int):=of_decide_eq_true (by first|(with_reducible assumption)|assumption)
        obtain ⟨ad507,e507,hx507_0,hx507_1,hx507_2,hx507_3,hx507_4⟩:=at_T50 HR0.out x5_1 p507 q507
        obtain rfl:ad505=ad507:=(by injection e507)
        replace p507:=eq_true p507
        replace q507:=eq_true q507
        have p508:0≤(x5_1:Int):=of_decide_eq_true (by first|(with_reducible assumption)|assumption)
        have q508:x5_1<(l0.length:Int):=of_decide_eq_true (by first|(with_reducible assumption)|assumption)
        obtain ⟨ad508,e508,hx508_0,hx508_1,hx508_2,hx508_3,hx508_4⟩:=at_T50 HR0.out x5_1 p508 q508
        obtain rfl:ad505=ad508:=(by injection e508)
        replace p508:=eq_true p508
        replace q508:=eq_true q508
        go_wp2
        go_ret
        exact ⟨by first|rfl|(simp;done)|(simp [*];done),by repeat (first|exact Drawn0.refl _|apply Drawn0.step)⟩
       rw [if_neg c8] at H
       have c8b0:(((rd_T50 l0 x5_1).f3) != ((Int.tmod (wrap64 ((wrap64 ((wrap64 (x1_1+1))+1))+1)) 3)==0))=false:=by simpa using c8
       (try (have c8b1:decide (((rd_T50 l0 x5_1).f3)=((Int.tmod (wrap64 ((wrap64 ((wrap64 (x1_1+1))+1))+1)) 3)==0))=true:=by simpa using c8))
       (try (have c8b2:(((rd_T50 l0 x5_1).f3)==((Int.tmod (wrap64 ((wrap64 ((wrap64 (x1_1+1))+1))+1)) 3)==0))=true:=by simpa using c8))
       clear c8
       by_cases c9:((rd_T50 l0 x5_1).f4)=(wrap64 ((wrap64 ((wrap64 ((wrap64 (x1_1+1))+1))+1))+1))
       ·rw [if_pos c9] at H
        have c9b0:(((rd_T50 l0 x5_1).f4)==(wrap64 ((wrap64 ((wrap64 ((wrap64 (x1_1+1))+1))+1))+1)))=true:=beq_iff_eq.mpr c9
        have c9b1:(((rd_T50 l0 x5_1).f4) != (wrap64 ((wrap64 ((wrap64 ((wrap64 (x1_1+1))+1))+1))+1)))=false:=bne_eq_false_iff_eq.mpr c9
        clear c9
        have H':=Aside0.mk H
        clear H
        have p505:0≤(x5_1:Int):=of_decide_eq_true (by first|(with_reducible assumption)|assumption)
        have q505:x5_1<(l0.length:Int):=of_decide_eq_true (by first|(with_reducible assumption)|assumption)
        obtain ⟨ad505,e505,hx505_0,hx505_1,hx505_2,hx505_3,hx505_4⟩:=at_T50 HR0.out x5_1 p505 q505
        cases e505
        replace p505:=eq_true p505
        replace q505:=eq_true q505
        have p506:0≤(x5_1:Int):=of_decide_eq_true (by first|(with_reducible assumption)|assumption)
        have q506:x5_1<(l0.length:Int):=of_decide_eq_true (by first|(with_reducible assumption)|assumption)
        obtain ⟨ad506,e506,hx506_0,hx506_1,hx506_2,hx506_3,hx506_4⟩:=at_T50 HR0.out x5_1 p506 q506
        obtain rfl:ad505=ad506:=(by injection e506)
        replace p506:=eq_true p506
        replace q506:=eq_true q506
        have p507:0≤(x5_1:Int):=of_decide_eq_true (by first|(with_reducible assumption)|assumption)
        have q507:x5_1<(l0.length:Int):=of_decide_eq_true (by first|(with_reducible assumption)|assumption)
        obtain ⟨ad507,e507,hx507_0,hx507_1,hx507_2,hx507_3,hx507_4⟩:=at_T50 HR0.out x5_1 p507 q507
        obtain rfl:ad505=ad507:=(by injection e507)
        replace p507:=eq_true p507
        replace q507:=eq_true q507
        have p508:0≤(x5_1:Int):=of_decide_eq_true (by first|(with_reducible assumption)|assumption)
        have q508:x5_1<(l0.length:Int):=of_decide_eq_true (by first|(with_reducible assumption)|assumption)
        obtain ⟨ad508,e508,hx508_0,hx508_1,hx508_2,hx508_3,hx508_4⟩:=at_T50 HR0.out x5_1 p508 q508
        obtain rfl:ad505=ad508:=(by injection e508)
        replace p508:=eq_true p508
        replace q508:=eq_true q508
        have p509:0≤(x5_1:Int):=of_decide_eq_true (by first|(with_reducible assumption)|assumption)
        have q509:x5_1<(l0.length:Int):=of_decide_eq_true (by first|(with_reducible assumption)|assumption)
        obtain ⟨ad509,e509,hx509_0,hx509_1,hx509_2,hx509_3,hx509_4⟩:=at_T50 HR0.out x5_1 p509 q509
        obtain rfl:ad505=ad509:=(by injection e509)
        replace p509:=eq_true p509
        replace q509:=eq_true q509
        go_wp2
        go_roundg k1
        case measure=>have:=HK1.out;omega
        case rel=>exact ⟨(wrap64 ((wrap64 ((wrap64 ((wrap64 ((wrap64 (x1_1+1))+1))+1))+1))+1)),(wrap64 (x5_1+1)),(by first|rfl|(simp;done)|(simp [*];done)),(by first|rfl|(simp;done)|(simp [*];done)),H',⟨by have:=HK1.out;omega⟩,by repeat (first|exact Drawn0.refl _|apply Drawn0.step)⟩
       rw [if_neg c9] at H
       have c9b0:(((rd_T50 l0 x5_1).f4)==(wrap64 ((wrap64 ((wrap64 ((wrap64 (x1_1+1))+1))+1))+1)))=false:=beq_eq_false_iff_ne.mpr c9
       have c9b1:(((rd_T50 l0 x5_1).f4) != (wrap64 ((wrap64 ((wrap64 ((wrap64 (x1_1+1))+1))+1))+1)))=true:=bne_iff_ne.mpr c9
       obtain rfl:=Option.some.inj H
       have p505:0≤(x5_1:Int):=of_decide_eq_true (by first|(with_reducible assumption)|assumption)
       have q505:x5_1<(l0.length:Int):=of_decide_eq_true (by first|(with_reducible assumption)|assumption)
       obtain ⟨ad505,e505,hx505_0,hx505_1,hx505_2,hx505_3,hx505_4⟩:=at_T50 HR0.out x5_1 p505 q505
       cases e505
       replace p505:=eq_true p505
       replace q505:=eq_true q505
       have p506:0≤(x5_1:Int):=of_decide_eq_true (by first|(with_reducible assumption)|assumption)
       have q506:x5_1<(l0.length:Int):=of_decide_eq_true (by first|(with_reducible assumption)|assumption)
       obtain ⟨ad506,e506,hx506_0,hx506_1,hx506_2,hx506_3,hx506_4⟩:=at_T50 HR0.out x5_1 p506 q506
       obtain rfl:ad505=ad506:=(by injection e506)
       replace p506:=eq_true p506
       replace q506:=eq_true q506
       have p507:0≤(x5_1:Int):=of_decide_eq_true (by first|(with_reducible assumption)|assumption)
       have q507:x5_1<(l0.length:Int):=of_decide_eq_true (by first|(with_reducible assumption)|assumption)
       obtain ⟨ad507,e507,hx507_0,hx507_1,hx507_2,hx507_3,hx507_4⟩:=at_T50 HR0.out x5_1 p507 q507
       obtain rfl:ad505=ad507:=(by injection e507)
       replace p507:=eq_true p507
       replace q507:=eq_true q507
       have p508:0≤(x5_1:Int):=of_decide_eq_true (by first|(with_reducible assumption)|assumption)
       have q508:x5_1<(l0.length:Int):=of_decide_eq_true (by first|(with_reducible assumption)|assumption)
       obtain ⟨ad508,e508,hx508_0,hx508_1,hx508_2,hx508_3,hx508_4⟩:=at_T50 HR0.out x5_1 p508 q508
       obtain rfl:ad505=ad508:=(by injection e508)
       replace p508:=eq_true p508
       replace q508:=eq_true q508
       have p509:0≤(x5_1:Int):=of_decide_eq_true (by first|(with_reducible assumption)|assumption)
       have q509:x5_1<(l0.length:Int):=of_decide_eq_true (by first|(with_reducible assumption)|assumption)
       obtain ⟨ad509,e509,hx509_0,hx509_1,hx509_2,hx509_3,hx509_4⟩:=at_T50 HR0.out x5_1 p509 q509
       obtain rfl:ad505=ad509:=(by injection e509)
       replace p509:=eq_true p509
       replace q509:=eq_true q509
       go_wp2
       go_ret
       exact ⟨by first|rfl|(simp;done)|(simp [*];done),by repeat (first|exact Drawn0.refl _|apply Drawn0.step)⟩
      rw [if_neg c6] at H
      have c6b0:(((rd_T50 l0 x5_1).f1)==(wrap64 (x1_1+1)))=false:=beq_eq_false_iff_ne.mpr c6
      have c6b1:(((rd_T50 l0 x5_1).f1) != (wrap64 (x1_1+1)))=true:=bne_iff_ne.mpr c6
      obtain rfl:=Option.some.inj H
      have p505:0≤(x5_1:Int):=of_decide_eq_true (by first|(with_reducible assumption)|assumption)
      have q505:x5_1<(l0.length:Int):=of_decide_eq_true (by first|(with_reducible assumption)|assumption)
      obtain ⟨ad505,e505,hx505_0,hx505_1,hx505_2,hx505_3,hx505_4⟩:=at_T50 HR0.out x5_1 p505 q505
      cases e505
      replace p505:=eq_true p505
      replace q505:=eq_true q505
      have p506:0≤(x5_1:Int):=of_decide_eq_true (by first|(with_reducible assumption)|assumption)
      have q506:x5_1<(l0.length:Int):=of_decide_eq_true (by first|(with_reducible assumption)|assumption)
      obtain ⟨ad506,e506,hx506_0,hx506_1,hx506_2,hx506_3,hx506_4⟩:=at_T50 HR0.out x5_1 p506 q506
      obtain rfl:ad505=ad506:=(by injection e506)
      replace p506:=eq_true p506
      replace q506:=eq_true q506
      go_wp2
      go_ret
      exact ⟨by first|rfl|(simp;done)|(simp [*];done),by repeat (first|exact Drawn0.refl _|apply Drawn0.step)⟩
     rw [if_neg c5] at H
     have c5b0:(((rd_T50 l0 x5_1).f0)==x1_1)=false:=beq_eq_false_iff_ne.mpr c5
     have c5b1:(((rd_T50 l0 x5_1).f0) != x1_1)=true:=bne_iff_ne.mpr c5
     obtain rfl:=Option.some.inj H
     have p505:0≤(x5_1:Int):=of_decide_eq_true (by first|(with_reducible assumption)|assumption)
     have q505:x5_1<(l0.length:Int):=of_decide_eq_true (by first|(with_reducible assumption)|assumption)
     obtain ⟨ad505,e505,hx505_0,hx505_1,hx505_2,hx505_3,hx505_4⟩:=at_T50 HR0.out x5_1 p505 q505
     cases e505
     replace p505:=eq_true p505
     replace q505:=eq_true q505
     go_wp2
     go_ret
     exact ⟨by first|rfl|(simp;done)|(simp [*];done),by repeat (first|exact Drawn0.refl _|apply Drawn0.step)⟩
    rw [if_neg c4] at H
    exact absurd H (by simp)
   rw [if_neg c3] at H
   have c3b0:decide (x5_1<(l0.length:Int))=false:=decide_eq_false c3
   clear c3
   obtain rfl:=Option.some.inj H
   go_wp2
   go_ret
   exact ⟨by first|rfl|(simp;done)|(simp [*];done),by repeat (first|exact Drawn0.refl _|apply Drawn0.step)⟩
end Go.Proofs.Ytpdnabhpkdchjaa.P
namespace Go.Proofs.Ytpdnabhpkdchjaa.P
open Go.RowKit Go.Proofs.YtpdnabhpkdchjaaW.PrintWords Go.Proofs.YtpdnabhpkdchjaaW.PrintLast Go.Proofs.YtpdnabhpkdchjaaW.PrintMore
attribute [local go_sem] max2_int min2_int max_two min_two max_three min_three max_four min_four
set_option linter.unusedVariables false
set_option linter.unusedSimpArgs false
def laws_heldBoolS.l0:Nat→List Bool→Int→Int→Option (Int)
 | 0,_,_,_=>none
 | k+1,x0,x1,x5=>if x5<(x0.length:Int) then (if 0≤x5 then (if ((rdOf false x0 x5) != ((Int.tmod x1 3)==0))=true then (some (-1)) else (laws_heldBoolS.l0 k x0 (wrap64 (x1+1)) (wrap64 (x5+1)))) else (none)) else (some x1)
def laws_heldBoolS.f (k:Nat) (l0:List Bool) (a1:Int):Option (Int):=laws_heldBoolS.l0 k l0 a1 0
set_option maxHeartbeats 8000000 in
set_option maxRecDepth 100000 in
theorem laws_heldBoolS.calls (k:Nat) (A0:Option Addr) (c0:Nat) (l0:List Bool) (a1:Int) (r:Int) (w:World) (hr0:Kd.C Kd.bool w A0 l0.length l0) (hc0:l0.length≤c0) (h:laws_heldBoolS.f k l0 a1=some r) :
  Calls Try.prog 105 #[.slice A0 l0.length c0,.int .i64 a1] w fun e w'=>e=.returned (.int .i64 r)∧Drawn0 w w':=by
 have HR0:=Aside0.mk hr0
 have HC0:=Aside0.mk hc0
 clear hr0 hc0
 have H:(laws_heldBoolS.l0 k l0 a1 0)=some r:=h
 clear h
 have H':=Aside0.mk H
 clear H
 go_enter Try.func105,Try.ntmps105
 go_wp2
 go_loopg [1,5] k (fun kq v1 v5 w'=>∃ (x1_1:Int) (x5_1:Int),v1=.int .i64 x1_1∧v5=.int .i64 x5_1∧Aside0 (laws_heldBoolS.l0 kq l0 x1_1 x5_1=some r)∧Aside0 (kq≤k)∧Drawn0 w w')
 case atStart=>exact ⟨(a1),(0),(by first|rfl|(simp;done)|(simp [*];done)),(by first|rfl|(simp;done)|(simp [*];done)),H',⟨Nat.le_refl _⟩,by repeat (first|exact Drawn0.refl _|apply Drawn0.step)⟩
 case round =>
  clear H'
  try clear c1
  try clear p2
  obtain ⟨x1_1,x5_1,rfl,rfl,HA,HK1,⟨m1,rfl⟩⟩:=hrel
  cases gk with
  | zero=>exact absurd HA.out (by simp [laws_heldBoolS.l0])
  | succ k1 =>
   have H:=HA.out
   clear HA
   simp only [laws_heldBoolS.l0] at H
   by_cases c3:x5_1<(l0.length:Int)
   ·rw [if_pos c3] at H
    have c3b0:decide (x5_1<(l0.length:Int))=true:=decide_eq_true c3
    clear c3
    by_cases c4:0≤x5_1
    ·rw [if_pos c4] at H
     have c4b0:decide (0≤x5_1)=true:=decide_eq_true c4
     clear c4
     by_cases c5:((rdOf false l0 x5_1) != ((Int.tmod x1_1 3)==0))=true
     ·rw [if_pos c5] at H
      have c5b0:((rdOf false l0 x5_1) != ((Int.tmod x1_1 3)==0))=true:=c5
      (try (have c5b1:decide ((rdOf false l0 x5_1)=((Int.tmod x1_1 3)==0))=false:=by simpa using c5))
      (try (have c5b2:((rdOf false l0 x5_1)==((Int.tmod x1_1 3)==0))=false:=by simpa using c5))
      (try (have c5b3:¬ ((rdOf false l0 x5_1)=((Int.tmod x1_1 3)==0)):=by simpa using c5))
      clear c5
      obtain rfl:=Option.some.inj H
      have p510:0≤(x5_1:Int):=of_decide_eq_true (by first|(with_reducible assumption)|assumption)
      have q510:x5_1<(l0.length:Int):=of_decide_eq_true (by first|(with_reducible assumption)|assumption)
      obtain ⟨ad510,e510,hx510_0⟩:=Kd.at_bool HR0.out x5_1 p510 q510
      cases e510
      replace p510:=eq_true p510
      replace q510:=eq_true q510
      go_wp2
      go_ret
      exact ⟨by first|rfl|(simp;done)|(simp [*];done),by repeat (first|exact Drawn0.refl _|apply Drawn0.step)⟩
     rw [if_neg c5] at H
     have c5b0:((rdOf false l0 x5_1) != ((Int.tmod x1_1 3)==0))=false:=by simpa using c5
     (try (have c5b1:decide ((rdOf false l0 x5_1)=((Int.tmod x1_1 3)==0))=true:=by simpa using c5))
     (try (have c5b2:((rdOf false l0 x5_1)==((Int.tmod x1_1 3)==0))=true:=by simpa using c5))
     clear c5
     have H':=Aside0.mk H
     clear H
     have p510:0≤(x5_1:Int):=of_decide_eq_true (by first|(with_reducible assumption)|assumption)
     have q510:x5_1<(l0.length:Int):=of_decide_eq_true (by first|(with_reducible assumption)|assumption)
     obtain ⟨ad510,e510,hx510_0⟩:=Kd.at_bool HR0.out x5_1 p510 q510
     cases e510
     replace p510:=eq_true p510
     replace q510:=eq_true q510
     go_wp2
     go_roundg k1
     case measure=>have:=HK1.out;omega
     case rel=>exact ⟨(wrap64 (x1_1+1)),(wrap64 (x5_1+1)),(by first|rfl|(simp;done)|(simp [*];done)),(by first|rfl|(simp;done)|(simp [*];done)),H',⟨by have:=HK1.out;omega⟩,by repeat (first|exact Drawn0.refl _|apply Drawn0.step)⟩
    rw [if_neg c4] at H
    exact absurd H (by simp)
   rw [if_neg c3] at H
   have c3b0:decide (x5_1<(l0.length:Int))=false:=decide_eq_false c3
   clear c3
   obtain rfl:=Option.some.inj H
   go_wp2
   go_ret
   exact ⟨by first|rfl|(simp;done)|(simp [*];done),by repeat (first|exact Drawn0.refl _|apply Drawn0.step)⟩
end Go.Proofs.Ytpdnabhpkdchjaa.P
namespace Go.Proofs.Ytpdnabhpkdchjaa.P
open Go.RowKit Go.Proofs.YtpdnabhpkdchjaaW.PrintWords Go.Proofs.YtpdnabhpkdchjaaW.PrintLast Go.Proofs.YtpdnabhpkdchjaaW.PrintMore
attribute [local go_sem] max2_int min2_int max_two min_two max_three min_three max_four min_four
set_option linter.unusedVariables false
set_option linter.unusedSimpArgs false
def laws_heldState.f (k:Nat) (a0_0:Bool) (l0_1:List (S50)) (l0_2:List Bool) (a1:Int):Option (Int):=(laws_heldSectionS.f k l0_1 a1).bind fun t512=>(if t512<0 then (some (-1)) else ((laws_heldBoolS.f k l0_2 t512).bind fun t513=>(if t513<0 then (some (-1)) else (some t513))))
set_option maxHeartbeats 8000000 in
set_option maxRecDepth 100000 in
theorem laws_heldState.calls (k:Nat) (a0_0:Bool) (A0_1:Option Addr) (c0_1:Nat) (l0_1:List (S50)) (A0_2:Option Addr) (c0_2:Nat) (l0_2:List Bool) (a1:Int) (r:Int) (w:World) (hr0_1:Kd.C k50 w A0_1 l0_1.length l0_1) (hc0_1:l0_1.length≤c0_1) (hr0_2:Kd.C Kd.bool w A0_2 l0_2.length l0_2) (hc0_2:l0_2.length≤c0_2) (h:laws_heldState.f k a0_0 l0_1 l0_2 a1=some r) :
  Calls Try.prog 47 #[.agg #[.bool a0_0,.slice A0_1 l0_1.length c0_1,.slice A0_2 l0_2.length c0_2],.int .i64 a1] w fun e w'=>e=.returned (.int .i64 r)∧Below w.heap.size w w':=by
 have hu46:=Try.underlying46
 have HR0_1:=Aside0.mk hr0_1
 have HC0_1:=Aside0.mk hc0_1
 clear hr0_1 hc0_1
 have HR0_2:=Aside0.mk hr0_2
 have HC0_2:=Aside0.mk hc0_2
 clear hr0_2 hc0_2
 have HB:=Aside0.mk (Below.refl w.heap.size w)
 have H:((laws_heldSectionS.f k l0_1 a1).bind fun t512=>(if t512<0 then (some (-1)) else ((laws_heldBoolS.f k l0_2 t512).bind fun t513=>(if t513<0 then (some (-1)) else (some t513)))))=some r:=h
 clear h
 replace H:=Option.bind_eq_some_iff.mp H
 obtain ⟨t512,A30,H⟩:=H
 replace H:(if t512<0 then (some (-1)) else ((laws_heldBoolS.f k l0_2 t512).bind fun t513=>(if t513<0 then (some (-1)) else (some t513))))=some r:=H
 have A3:=Aside0.mk A30
 clear A30
 by_cases c4:t512<0
 ·rw [if_pos c4] at H
  have c4b0:decide (t512<0)=true:=decide_eq_true c4
  clear c4
  obtain rfl:=Option.some.inj H
  go_enter Try.func47,Try.ntmps47
  go_wp2_with (first|((with_reducible refine gate_dst (N:=2) rfl ?_);refine box_event ?hg (N:=2) ?hd (cs:=#[.bool a0_0,.slice A0_1 l0_1.length c0_1,.slice A0_2 l0_2.length c0_2]) (t:=46) ?hr ?_;(case hd=>rfl);(case hg=>rfl);(case hr=>first|(go_simp;done)|(go_simp;rfl));intro gb511 hg w5 hbox hb;have n0_:=Aside0.mk (below_step (by repeat (first|(with_reducible first|exact HB.out|apply below_alloc|apply pw_below_drewN|apply below_drew1)|exact HB.out)) hb);have n1_:=Aside0.mk (hbox);have n2_:=Aside0.mk ((by rw [hg];exact (below_size (by repeat (first|(with_reducible first|exact HB.out|apply below_alloc|apply pw_below_drewN|apply below_drew1)|exact HB.out))):w.heap.size≤gb511));have n3_:=Aside0.mk ((by rw [hg];exact (below_size (by repeat (first|(with_reducible first|exact HB.out|apply below_alloc|apply pw_below_drewN|apply below_drew1)|exact HB.out))):w.heap.size≤gb511));clear HB;have HB:=n0_;have BK511:=n1_;have GW511:=n2_;have GE511:=n3_;clear n0_ n1_ n2_ n3_;clear hb hbox hg;have hcz6_0:w5.cell? ⟨gb511,0,none⟩=some (.bool a0_0):=(blk_cell BK511.out 0).trans rfl;have hcz6_1:w5.cell? ⟨gb511,1,none⟩=some (.slice A0_1 l0_1.length c0_1):=(blk_cell BK511.out 1).trans rfl;have hcz6_2:w5.cell? ⟨gb511,2,none⟩=some (.slice A0_2 l0_2.length c0_2):=(blk_cell BK511.out 2).trans rfl;have hfz6_0:=blk_frozen BK511.out 0;have hfz6_1:=blk_frozen BK511.out 1;have hfz6_2:=blk_frozen BK511.out 2)|((with_reducible refine gate_callee (f:=104) rfl ?_);refine goesL_ (some 8) rfl rfl Try.func104 (by kernel_rfl) rfl #[.slice A0_1 l0_1.length c0_1,.int .i64 a1] rfl (by (try simp only [List.map_toArray,List.map_cons,List.map_nil]);first|done|rfl|(simp only [List.length_drop,List.length_take];rfl)) ?_;(with_reducible refine (laws_heldSectionS.calls k _ _ l0_1 a1 t512 _ ?side1 ?side2 A3.out).mono ?_);(case side1=>repeat (first|exact (Kd.C_below HR0_1.out HB.out)|(with_reducible refine Kd.C_alloc ?_ _)|(with_reducible refine Kd.C_drewN ?_ _)|(with_reducible refine Kd.C_drew ?_)));(case side2=>exact HC0_1.out);rintro e w' ⟨rfl,⟨nd,rfl⟩⟩;refine ⟨_,rfl,?_⟩))
  go_ret
  exact ⟨by first|rfl|(simp [errW_none,errW_some] <;> rfl)|(simp [*,errW_none,errW_some] <;> rfl),by repeat (first|(with_reducible first|exact HB.out|apply below_alloc|apply pw_below_drewN|apply below_drew1|refine below_set ?_ GE511.out)|exact HB.out)⟩
 rw [if_neg c4] at H
 have c4b0:decide (t512<0)=false:=decide_eq_false c4
 clear c4
 replace H:=Option.bind_eq_some_iff.mp H
 obtain ⟨t513,A70,H⟩:=H
 replace H:(if t513<0 then (some (-1)) else (some t513))=some r:=H
 have A7:=Aside0.mk A70
 clear A70
 by_cases c8:t513<0
 ·rw [if_pos c8] at H
  have c8b0:decide (t513<0)=true:=decide_eq_true c8
  clear c8
  obtain rfl:=Option.some.inj H
  go_enter Try.func47,Try.ntmps47
  go_wp2_with (first|((with_reducible refine gate_dst (N:=2) rfl ?_);refine box_event ?hg (N:=2) ?hd (cs:=#[.bool a0_0,.slice A0_1 l0_1.length c0_1,.slice A0_2 l0_2.length c0_2]) (t:=46) ?hr ?_;(case hd=>rfl);(case hg=>rfl);(case hr=>first|(go_simp;done)|(go_simp;rfl));intro gb511 hg w9 hbox hb;have n0_:=Aside0.mk (below_step (by repeat (first|(with_reducible first|exact HB.out|apply below_alloc|apply pw_below_drewN|apply below_drew1)|exact HB.out)) hb);have n1_:=Aside0.mk (hbox);have n2_:=Aside0.mk ((by rw [hg];exact (below_size (by repeat (first|(with_reducible first|exact HB.out|apply below_alloc|apply pw_below_drewN|apply below_drew1)|exact HB.out))):w.heap.size≤gb511));have n3_:=Aside0.mk ((by rw [hg];exact (below_size (by repeat (first|(with_reducible first|exact HB.out|apply below_alloc|apply pw_below_drewN|apply below_drew1)|exact HB.out))):w.heap.size≤gb511));clear HB;have HB:=n0_;have BK511:=n1_;have GW511:=n2_;have GE511:=n3_;clear n0_ n1_ n2_ n3_;clear hb hbox hg;have hcz10_0:w9.cell? ⟨gb511,0,none⟩=some (.bool a0_0):=(blk_cell BK511.out 0).trans rfl;have hcz10_1:w9.cell? ⟨gb511,1,none⟩=some (.slice A0_1 l0_1.length c0_1):=(blk_cell BK511.out 1).trans rfl;have hcz10_2:w9.cell? ⟨gb511,2,none⟩=some (.slice A0_2 l0_2.length c0_2):=(blk_cell BK511.out 2).trans rfl;have hfz10_0:=blk_frozen BK511.out 0;have hfz10_1:=blk_frozen BK511.out 1;have hfz10_2:=blk_frozen BK511.out 2)|((with_reducible refine gate_callee (f:=104) rfl ?_);refine goesL_ (some 8) rfl rfl Try.func104 (by kernel_rfl) rfl #[.slice A0_1 l0_1.length c0_1,.int .i64 a1] rfl (by (try simp only [List.map_toArray,List.map_cons,List.map_nil]);first|done|rfl|(simp only [List.length_drop,List.length_take];rfl)) ?_;(with_reducible refine (laws_heldSectionS.calls k _ _ l0_1 a1 t512 _ ?side1 ?side2 A3.out).mono ?_);(case side1=>repeat (first|exact (Kd.C_below HR0_1.out HB.out)|(with_reducible refine Kd.C_alloc ?_ _)|(with_reducible refine Kd.C_drewN ?_ _)|(with_reducible refine Kd.C_drew ?_)));(case side2=>exact HC0_1.out);rintro e w' ⟨rfl,⟨nd,rfl⟩⟩;refine ⟨_,rfl,?_⟩)|((with_reducible refine gate_callee (f:=105) rfl ?_);refine goesL_ (some 14) rfl rfl Try.func105 (by kernel_rfl) rfl #[.slice A0_2 l0_2.length c0_2,.int .i64 t512] rfl (by (try simp only [List.map_toArray,List.map_cons,List.map_nil]);first|done|rfl|(simp only [List.length_drop,List.length_take];rfl)) ?_;(with_reducible refine (laws_heldBoolS.calls k _ _ l0_2 t512 t513 _ ?side1 ?side2 A7.out).mono ?_);(case side1=>repeat (first|exact (Kd.C_below HR0_2.out (by repeat (first|(with_reducible first|exact HB.out|apply below_alloc|apply pw_below_drewN|apply below_drew1|refine below_set ?_ GE511.out)|exact HB.out)))|(with_reducible refine Kd.C_alloc ?_ _)|(with_reducible refine Kd.C_drewN ?_ _)|(with_reducible refine Kd.C_drew ?_)));(case side2=>exact HC0_2.out);rintro e w' ⟨rfl,⟨nd,rfl⟩⟩;refine ⟨_,rfl,?_⟩))
  go_ret
  exact ⟨by first|rfl|(simp [errW_none,errW_some] <;> rfl)|(simp [*,errW_none,errW_some] <;> rfl),by repeat (first|(with_reducible first|exact HB.out|apply below_alloc|apply pw_below_drewN|apply below_drew1|refine below_set ?_ GE511.out)|exact HB.out)⟩
 rw [if_neg c8] at H
 have c8b0:decide (t513<0)=false:=decide_eq_false c8
 clear c8
 obtain rfl:=Option.some.inj H
 go_enter Try.func47,Try.ntmps47
 go_wp2_with (first|((with_reducible refine gate_dst (N:=2) rfl ?_);refine box_event ?hg (N:=2) ?hd (cs:=#[.bool a0_0,.slice A0_1 l0_1.length c0_1,.slice A0_2 l0_2.length c0_2]) (t:=46) ?hr ?_;(case hd=>rfl);(case hg=>rfl);(case hr=>first|(go_simp;done)|(go_simp;rfl));intro gb511 hg w11 hbox hb;have n0_:=Aside0.mk (below_step (by repeat (first|(with_reducible first|exact HB.out|apply below_alloc|apply pw_below_drewN|apply below_drew1)|exact HB.out)) hb);have n1_:=Aside0.mk (hbox);have n2_:=Aside0.mk ((by rw [hg];exact (below_size (by repeat (first|(with_reducible first|exact HB.out|apply below_alloc|apply pw_below_drewN|apply below_drew1)|exact HB.out))):w.heap.size≤gb511));have n3_:=Aside0.mk ((by rw [hg];exact (below_size (by repeat (first|(with_reducible first|exact HB.out|apply below_alloc|apply pw_below_drewN|apply below_drew1)|exact HB.out))):w.heap.size≤gb511));clear HB;have HB:=n0_;have BK511:=n1_;have GW511:=n2_;have GE511:=n3_;clear n0_ n1_ n2_ n3_;clear hb hbox hg;have hcz12_0:w11.cell? ⟨gb511,0,none⟩=some (.bool a0_0):=(blk_cell BK511.out 0).trans rfl;have hcz12_1:w11.cell? ⟨gb511,1,none⟩=some (.slice A0_1 l0_1.length c0_1):=(blk_cell BK511.out 1).trans rfl;have hcz12_2:w11.cell? ⟨gb511,2,none⟩=some (.slice A0_2 l0_2.length c0_2):=(blk_cell BK511.out 2).trans rfl;have hfz12_0:=blk_frozen BK511.out 0;have hfz12_1:=blk_frozen BK511.out 1;have hfz12_2:=blk_frozen BK511.out 2)|((with_reducible refine gate_callee (f:=104) rfl ?_);refine goesL_ (some 8) rfl rfl Try.func104 (by kernel_rfl) rfl #[.slice A0_1 l0_1.length c0_1,.int .i64 a1] rfl (by (try simp only [List.map_toArray,List.map_cons,List.map_nil]);first|done|rfl|(simp only [List.length_drop,List.length_take];rfl)) ?_;(with_reducible refine (laws_heldSectionS.calls k _ _ l0_1 a1 t512 _ ?side1 ?side2 A3.out).mono ?_);(case side1=>repeat (first|exact (Kd.C_below HR0_1.out HB.out)|(with_reducible refine Kd.C_alloc ?_ _)|(with_reducible refine Kd.C_drewN ?_ _)|(with_reducible refine Kd.C_drew ?_)));(case side2=>exact HC0_1.out);rintro e w' ⟨rfl,⟨nd,rfl⟩⟩;refine ⟨_,rfl,?_⟩)|((with_reducible refine gate_callee (f:=105) rfl ?_);refine goesL_ (some 14) rfl rfl Try.func105 (by kernel_rfl) rfl #[.slice A0_2 l0_2.length c0_2,.int .i64 t512] rfl (by (try simp only [List.map_toArray,List.map_cons,List.map_nil]);first|done|rfl|(simp only [List.length_drop,List.length_take];rfl)) ?_;(with_reducible refine (laws_heldBoolS.calls k _ _ l0_2 t512 t513 _ ?side1 ?side2 A7.out).mono ?_);(case side1=>repeat (first|exact (Kd.C_below HR0_2.out (by repeat (first|(with_reducible first|exact HB.out|apply below_alloc|apply pw_below_drewN|apply below_drew1|refine below_set ?_ GE511.out)|exact HB.out)))|(with_reducible refine Kd.C_alloc ?_ _)|(with_reducible refine Kd.C_drewN ?_ _)|(with_reducible refine Kd.C_drew ?_)));(case side2=>exact HC0_2.out);rintro e w' ⟨rfl,⟨nd,rfl⟩⟩;refine ⟨_,rfl,?_⟩))
 go_ret
 exact ⟨by first|rfl|(simp [errW_none,errW_some] <;> rfl)|(simp [*,errW_none,errW_some] <;> rfl),by repeat (first|(with_reducible first|exact HB.out|apply below_alloc|apply pw_below_drewN|apply below_drew1|refine below_set ?_ GE511.out)|exact HB.out)⟩
end Go.Proofs.Ytpdnabhpkdchjaa.P
namespace Go.Proofs.Ytpdnabhpkdchjaa.P
open Go.RowKit Go.Proofs.YtpdnabhpkdchjaaW.PrintWords Go.Proofs.YtpdnabhpkdchjaaW.PrintLast
set_option linter.unusedVariables false
set_option linter.unusedSimpArgs false
theorem eqSectionS_l0 (l : List S50) (hl : l.length ≤ 1048576) (d : Nat) : ∀ (i : Nat), i + d = l.length → Ev (fun k => laws_eqSectionS.l0 k l l i) true := by
  induction d with
  | zero => intro i hi; refine Ev.step1 fun k => ?_; simp only [laws_eqSectionS.l0]; rw [if_neg (by omega)]
  | succ d ih =>
    intro i hi
    refine Ev.step (fun k => ?_) (ih (i + 1) (by omega))
    simp only [laws_eqSectionS.l0, laws_eqSection.f, if_true, bne_self_eq_false, Option.bind_some, Bool.false_eq_true, if_false]
    rw [if_pos (by omega), if_pos (by omega), if_pos (by omega), wrap_succ (by omega)]
theorem eqBoolS_l0 (l : List Bool) (hl : l.length ≤ 1048576) (d : Nat) : ∀ (i : Nat), i + d = l.length → Ev (fun k => laws_eqBoolS.l0 k l l i) true := by
  induction d with
  | zero => intro i hi; refine Ev.step1 fun k => ?_; simp only [laws_eqBoolS.l0]; rw [if_neg (by omega)]
  | succ d ih =>
    intro i hi
    refine Ev.step (fun k => ?_) (ih (i + 1) (by omega))
    simp only [laws_eqBoolS.l0, if_true, bne_self_eq_false, Bool.false_eq_true, if_false]
    rw [if_pos (by omega), if_pos (by omega), if_pos (by omega), wrap_succ (by omega)]
theorem eqState_ev (b : Bool) (l : List S50) (m : List Bool) (hl : l.length ≤ 1048576) (hm : m.length ≤ 1048576) : Ev (fun k => laws_eqState.f k b l m b l m) true := by
  unfold laws_eqState.f
  refine Ev.ite_neg (by simp) ?_
  refine Ev.bind (a := true) ?_ (Ev.ite_pos rfl (Ev.bind (a := true) ?_ (Ev.ite_pos rfl (Ev.now _))))
  · unfold laws_eqSectionS.f
    exact Ev.ite_pos rfl (eqSectionS_l0 l hl l.length 0 (by omega))
  · unfold laws_eqBoolS.f
    exact Ev.ite_pos rfl (eqBoolS_l0 m hm m.length 0 (by omega))
def mkS (k : Int) : S50 := ⟨k, k + 1, (Int.tmod (k + 2) 3) == 0, (Int.tmod (k + 3) 3) == 0, k + 4⟩
def mkB (k : Int) : Bool := (Int.tmod k 3) == 0
theorem markSectionS_l0 (l : List S50) (a : Int) (ha : 0 ≤ a) (hl : a + 5 * l.length ≤ 4611686018427387903) (d : Nat) : ∀ (i : Nat), i + d = l.length →
    Ev (fun k => laws_markSectionS.l0 k ((marks mkS 5 a l.length).take i ++ l.drop i) (a + 5 * i) i) (a + 5 * l.length, marks mkS 5 a l.length) := by
  have hm : (marks mkS 5 a l.length).length = l.length := marks_length _ _ _ _
  induction d with
  | zero =>
    intro i hi
    refine Ev.step1 fun k => ?_
    simp only [laws_markSectionS.l0]
    rw [mid_length (by omega) hm, if_neg (by omega), List.take_of_length_le (by omega), List.drop_eq_nil_of_le (by omega), List.append_nil, show i = l.length by omega]
  | succ d ih =>
    intro i hi
    refine Ev.step (fun k => ?_) (ih (i + 1) (by omega))
    have hlen := mid_length (m := marks mkS 5 a l.length) (l := l) (i := i) (by omega) hm
    simp only [laws_markSectionS.l0, Option.bind_some]
    rw [hlen, if_pos (by omega), if_pos (by omega), wrap_succ (by omega), wrap_id (x := a + 5 * (i : Int) + 1) (by omega) (by omega), wrap_id (x := a + 5 * (i : Int) + 1 + 1) (by omega) (by omega), wrap_id (x := a + 5 * (i : Int) + 1 + 1 + 1) (by omega) (by omega),
      wrap_id (x := a + 5 * (i : Int) + 1 + 1 + 1 + 1) (by omega) (by omega), wrap_id (by omega) (by omega)]
    have rd_set : ∀ v : S50, rd_T50 (((marks mkS 5 a l.length).take i ++ l.drop i).set i v) (i : Int) = v := by
      intro v
      simp only [rd_T50, Int.toNat_natCast]
      rw [List.getD_eq_getElem?_getD, List.getElem?_set_self (by omega), Option.getD_some]
    simp only [Int.toNat_natCast, List.set_set, rd_set]
    have hv : (⟨a + 5 * (i : Int), a + 5 * (i : Int) + 1, (Int.tmod (a + 5 * (i : Int) + 1 + 1) 3) == 0, (Int.tmod (a + 5 * (i : Int) + 1 + 1 + 1) 3) == 0, a + 5 * (i : Int) + 1 + 1 + 1 + 1⟩ : S50) = mkS (a + 5 * i) := by
      simp only [mkS, Int.add_assoc, Int.reduceAdd]
    rw [hv, set_mid (by omega) hm (v := mkS (a + 5 * i)) (marks_get _ _ _ _ _ (by omega))]
    rw [show a + 5 * (i : Int) + 1 + 1 + 1 + 1 + 1 = a + 5 * ((i + 1 : Nat) : Int) by omega]
theorem markBoolS_l0 (l : List Bool) (a : Int) (ha : 0 ≤ a) (hl : a + l.length ≤ 4611686018427387903) (d : Nat) : ∀ (i : Nat), i + d = l.length →
    Ev (fun k => laws_markBoolS.l0 k ((marks mkB 1 a l.length).take i ++ l.drop i) (a + i) i) (a + l.length, marks mkB 1 a l.length) := by
  have hm : (marks mkB 1 a l.length).length = l.length := marks_length _ _ _ _
  induction d with
  | zero =>
    intro i hi
    refine Ev.step1 fun k => ?_
    simp only [laws_markBoolS.l0]
    rw [mid_length (by omega) hm, if_neg (by omega), List.take_of_length_le (by omega), List.drop_eq_nil_of_le (by omega), List.append_nil, show i = l.length by omega]
  | succ d ih =>
    intro i hi
    refine Ev.step (fun k => ?_) (ih (i + 1) (by omega))
    simp only [laws_markBoolS.l0]
    rw [mid_length (by omega) hm, if_pos (by omega), if_pos (by omega), wrap_succ (by omega), wrap_id (by omega) (by omega), Int.toNat_natCast,
      set_mid (by omega) hm (v := mkB (a + i)) (by rw [marks_get _ _ _ _ _ (by omega)]; simp) |> fun h => (show ((marks mkB 1 a l.length).take i ++ l.drop i).set i ((Int.tmod (a + i) 3) == 0) = _ from h), show a + (i : Int) + 1 = a + ((i + 1 : Nat) : Int) by omega]
theorem markState_ev (b : Bool) (l : List S50) (m : List Bool) (a : Int) (ha : 0 ≤ a) (hl : a + 5 * l.length + m.length ≤ 4611686018427387903) :
    Ev (fun k => laws_markState.f k b l m a) (a + 5 * l.length + m.length, marks mkS 5 a l.length, marks mkB 1 (a + 5 * l.length) m.length) := by
  unfold laws_markState.f
  refine Ev.bind (a := (a + 5 * (l.length : Int), marks mkS 5 a l.length)) ?_ (Ev.bind (a := (a + 5 * (l.length : Int) + m.length, marks mkB 1 (a + 5 * l.length) m.length)) ?_ (Ev.now _))
  · unfold laws_markSectionS.f
    simpa using markSectionS_l0 l a ha (by omega) l.length 0 (by omega)
  · unfold laws_markBoolS.f
    simpa using markBoolS_l0 m (a + 5 * l.length) (by omega) (by omega) m.length 0 (by omega)
theorem heldSectionS_l0 (n : Nat) (a : Int) (ha : 0 ≤ a) (hl : a + 5 * n ≤ 4611686018427387903) (d : Nat) : ∀ (i : Nat), i + d = n → Ev (fun k => laws_heldSectionS.l0 k (marks mkS 5 a n) (a + 5 * i) i) (a + 5 * n) := by
  have hm : (marks mkS 5 a n).length = n := marks_length _ _ _ _
  induction d with
  | zero =>
    intro i hi
    refine Ev.step1 fun k => ?_
    simp only [laws_heldSectionS.l0]
    rw [hm, if_neg (by omega), show i = n by omega]
  | succ d ih =>
    intro i hi
    have hr : rd_T50 (marks mkS 5 a n) (i : Int) = mkS (a + 5 * i) := by
      have := marks_get mkS 5 a n i (by omega)
      simp [rd_T50, List.getD_eq_getElem?_getD, List.getElem?_eq_getElem (show i < (marks mkS 5 a n).length by omega), this]
    refine Ev.step (fun k => ?_) (ih (i + 1) (by omega))
    simp only [laws_heldSectionS.l0, hr, mkS]
    rw [hm, if_pos (by omega), if_pos (by omega), wrap_succ (by omega), wrap_id (x := a + 5 * (i : Int) + 1) (by omega) (by omega), wrap_id (x := a + 5 * (i : Int) + 1 + 1) (by omega) (by omega), wrap_id (x := a + 5 * (i : Int) + 1 + 1 + 1) (by omega) (by omega),
      wrap_id (x := a + 5 * (i : Int) + 1 + 1 + 1 + 1) (by omega) (by omega), wrap_id (by omega) (by omega)]
    simp only [Int.add_assoc, Int.reduceAdd, if_true, bne_self_eq_false, Bool.false_eq_true, if_false]
    rw [show a + (5 * (i : Int) + 5) = a + 5 * ((i + 1 : Nat) : Int) by omega]
theorem heldBoolS_l0 (n : Nat) (a : Int) (ha : 0 ≤ a) (hl : a + n ≤ 4611686018427387903) (d : Nat) : ∀ (i : Nat), i + d = n → Ev (fun k => laws_heldBoolS.l0 k (marks mkB 1 a n) (a + i) i) (a + n) := by
  have hm : (marks mkB 1 a n).length = n := marks_length _ _ _ _
  induction d with
  | zero =>
    intro i hi
    refine Ev.step1 fun k => ?_
    simp only [laws_heldBoolS.l0]
    rw [hm, if_neg (by omega), show i = n by omega]
  | succ d ih =>
    intro i hi
    have hr : rdOf false (marks mkB 1 a n) (i : Int) = ((Int.tmod (a + i) 3) == 0) := by
      have := marks_get mkB 1 a n i (by omega)
      simp [rdOf, List.getD_eq_getElem?_getD, List.getElem?_eq_getElem (show i < (marks mkB 1 a n).length by omega), this, mkB]
    refine Ev.step (fun k => ?_) (ih (i + 1) (by omega))
    simp only [laws_heldBoolS.l0, hr, bne_self_eq_false, Bool.false_eq_true, if_false]
    rw [hm, if_pos (by omega), if_pos (by omega), wrap_succ (by omega), wrap_id (by omega) (by omega), show a + (i : Int) + 1 = a + ((i + 1 : Nat) : Int) by omega]
theorem heldState_ev (b : Bool) (n m : Nat) (a : Int) (ha : 0 ≤ a) (hl : a + 5 * n + m ≤ 4611686018427387903) :
    Ev (fun k => laws_heldState.f k b (marks mkS 5 a n) (marks mkB 1 (a + 5 * n) m) a) (a + 5 * n + m) := by
  unfold laws_heldState.f
  refine Ev.bind (a := a + 5 * (n : Int)) ?_ (Ev.ite_neg (by omega) (Ev.bind (a := a + 5 * (n : Int) + m) ?_ (Ev.ite_neg (by omega) (Ev.now _))))
  · unfold laws_heldSectionS.f
    simpa using heldSectionS_l0 n a ha (by omega) n 0 (by omega)
  · unfold laws_heldBoolS.f
    simpa using heldBoolS_l0 m (a + 5 * n) (by omega) (by omega) m 0 (by omega)
end Go.Proofs.Ytpdnabhpkdchjaa.P
namespace Go.Proofs.Ytpdnabhpkdchjaa.P
open Go.RowKit Go.Proofs.YtpdnabhpkdchjaaW.PrintWords Go.Proofs.YtpdnabhpkdchjaaW.PrintLast
set_option linter.unusedVariables false
set_option linter.unusedSimpArgs false
theorem lay_ctr {n : Int} {l : List S88} (h : layoutOk n l = 0) : ∀ x ∈ l, -1 ≤ x.f0 ∧ x.f0 < n ∧ -1 ≤ x.f1 ∧ x.f1 < n ∧ x.f0 ≠ x.f1 := by
  unfold layoutOk at h
  split at h
  · cases h
  · split at h
    · cases h
    · split at h
      · cases h
      · split at h
        · rename_i hall
          intro x hx
          have := List.all_eq_true.1 hall x hx
          simp only [ctrOk, inB, Bool.and_eq_true, decide_eq_true_eq, Bool.not_eq_true', beq_eq_false_iff_ne] at this
          exact ⟨this.1.1.1, this.1.1.2, this.1.2.1, this.1.2.2, this.2⟩
        · cases h
theorem lay_rd {n : Int} {l : List S88} (h : layoutOk n l = 0) (i : Int) (h0 : 0 ≤ i) (h1 : i < l.length) : -1 ≤ (rd_T88 l i).f0 ∧ (rd_T88 l i).f0 < n ∧ -1 ≤ (rd_T88 l i).f1 ∧ (rd_T88 l i).f1 < n ∧ (rd_T88 l i).f0 ≠ (rd_T88 l i).f1 := by
  refine lay_ctr h _ ?_
  have hlt : i.toNat < l.length := by omega
  have : rd_T88 l i = l[i.toNat] := by simp [rd_T88, hlt]
  rw [this]
  exact List.getElem_mem hlt
end Go.Proofs.Ytpdnabhpkdchjaa.P
namespace Go.Proofs.Ytpdnabhpkdchjaa.P
open Go.RowKit Go.Proofs.YtpdnabhpkdchjaaW.PrintWords Go.Proofs.YtpdnabhpkdchjaaW.PrintLast Go.Proofs.YtpdnabhpkdchjaaW.PrintMore
set_option linter.unusedVariables false
section
variable {n : Int} {A : Option Addr} {c : Nat} {l : List S88} {w : World}
theorem lay_is (hr : Kd.C k88 w A l.length l) (hc : l.length ≤ c) : Calls Try.prog 25 #[.agg #[.int .i64 n, .slice A l.length c]] w fun e w' => e = .returned (.int .i64 (layoutOk n l)) ∧ Below w.heap.size w w' :=
  impl_LayoutOk.calls n A c l _ w hr hc rfl
theorem slay_is (hr : Kd.C k88 w A l.length l) (hc : l.length ≤ c) : Calls Try.prog 23 #[.agg #[.int .i64 n, .slice A l.length c]] w fun e w' => e = .returned (.int .i64 (layoutOk n l)) ∧ Below w.heap.size w w' := by
  obtain ⟨k, h⟩ := (specLayoutOk_ev n l).rounds
  exact spec_LayoutOk.calls k n A c l _ w hr hc h
theorem ev_is (op of dir : Int) (hr : Kd.C k88 w A l.length l) (hc : l.length ≤ c) : Calls Try.prog 36 #[.agg #[.int .i64 n, .slice A l.length c], .agg #[.int .i64 op, .int .i64 of, .int .i64 dir]] w fun e w' => e = .returned (.bool (eventOk n l op of dir)) ∧ Below w.heap.size w w' := by
  obtain ⟨k, h⟩ := (implEventOk_ev n l op of dir).rounds
  exact impl_EventOk.calls k n A c l op of dir _ w hr hc h
theorem ev_at {b : Bool} (op of dir : Int) (hb : eventOk n l op of dir = b) (hr : Kd.C k88 w A l.length l) (hc : l.length ≤ c) : Calls Try.prog 36 #[.agg #[.int .i64 n, .slice A l.length c], .agg #[.int .i64 op, .int .i64 of, .int .i64 dir]] w fun e w' => e = .returned (.bool b) ∧ Below w.heap.size w w' := hb ▸ ev_is op of dir hr hc
theorem sev_is (op of dir : Int) (hr : Kd.C k88 w A l.length l) (hc : l.length ≤ c) : Calls Try.prog 34 #[.agg #[.int .i64 n, .slice A l.length c], .agg #[.int .i64 op, .int .i64 of, .int .i64 dir]] w fun e w' => e = .returned (.bool (eventOk n l op of dir)) ∧ Below w.heap.size w w' := by
  obtain ⟨k, h⟩ := (specEventOk_ev n l op of dir).rounds
  exact spec_EventOk.calls k n A c l op of dir _ w hr hc h
variable {A1 : Option Addr} {c1 : Nat} {es : List S56}
end
end Go.Proofs.Ytpdnabhpkdchjaa.P
namespace Go.Proofs.Ytpdnabhpkdchjaa.P
open Go.RowKit Go.Proofs.YtpdnabhpkdchjaaW.PrintWords Go.Proofs.YtpdnabhpkdchjaaW.PrintLast Go.Proofs.YtpdnabhpkdchjaaW.PrintMore
attribute [local go_sem ↓] Go.wp_at_zero Go.wp_at_succ
set_option linter.unusedVariables false
set_option linter.unusedSimpArgs false
structure DoSt (w0 w : World) (gl gs ge gd : Nat) (lv sv ev dv : List Value) (v1 v2 : Value) (ss : List S50) (dd : List Bool) : Prop where
  hl : w.heap[gl]? = some (.cells lv.toArray 30 (0, 0))
  hs : w.heap[gs]? = some (.cells sv.toArray 46 (0, 0))
  he : w.heap[ge]? = some (.cells ev.toArray 56 (0, 0))
  hd : w.heap[gd]? = some (.cells dv.toArray 48 (0, 0))
  H1 : Kd.R k50 50 w w0.heap.size (fun _ => True) v1 ss
  H2 : Kd.R Kd.bool 4 w w0.heap.size (fun _ => True) v2 dd
  hB : Below w0.heap.size w0 w
  gle : w0.heap.size ≤ gl
  gse : w0.heap.size ≤ gs
  gee : w0.heap.size ≤ ge
  gde : w0.heap.size ≤ gd
theorem DoSt.begin {w0 w : World} {gl gs ge gd : Nat} {lv ev dv : List Value} {x0 x1 x2 v0 v1 v2 : Value} {ss : List S50} {dd : List Bool}
    (hl : w.heap[gl]? = some (.cells lv.toArray 30 (0, 0))) (hs : w.heap[gs]? = some (.cells #[x0, x1, x2] 46 (0, 0))) (he : w.heap[ge]? = some (.cells ev.toArray 56 (0, 0))) (hd : w.heap[gd]? = some (.cells dv.toArray 48 (0, 0)))
    (H1 : Kd.R k50 50 w w0.heap.size (fun _ => True) v1 ss) (H2 : Kd.R Kd.bool 4 w w0.heap.size (fun _ => True) v2 dd) (hB : Below w0.heap.size w0 w)
    (gle : w0.heap.size ≤ gl) (gse : w0.heap.size ≤ gs) (gee : w0.heap.size ≤ ge) (gde : w0.heap.size ≤ gd) (n1 : gl ≠ gs) (n2 : ge ≠ gs) (n3 : gd ≠ gs) :
    DoSt w0 (((w.setCell ⟨gs, 0, none⟩ v0).setCell ⟨gs, 1, none⟩ v1).setCell ⟨gs, 2, none⟩ v2) gl gs ge gd lv [v0, v1, v2] ev dv v1 v2 ss dd where
  hl := blk_far (blk_far (blk_far hl n1 _) n1 _) n1 _
  hs := blk_put (blk_put (blk_put hs 0 v0 rfl) 1 v1 rfl) 2 v2 rfl
  he := blk_far (blk_far (blk_far he n2 _) n2 _) n2 _
  hd := blk_far (blk_far (blk_far hd n3 _) n3 _) n3 _
  H1 := R_off rfl (R_off rfl (R_off rfl H1 (Kd.R_ne H1 hs (by decide)) _) (Kd.R_ne H1 hs (by decide)) _) (Kd.R_ne H1 hs (by decide)) _
  H2 := R_off rfl (R_off rfl (R_off rfl H2 (Kd.R_ne H2 hs (by decide)) _) (Kd.R_ne H2 hs (by decide)) _) (Kd.R_ne H2 hs (by decide)) _
  hB := below_set (below_set (below_set hB gse) gse) gse
  gle := gle
  gse := gse
  gee := gee
  gde := gde
theorem cnt_any (s b : Int) (bo : Bool) (g gr n c : Nat) (v2 : Value) (l : List S50) (w : World) (base : Nat) (ok : Nat → Prop) (h1 : s < n)
    (hb : w.heap[g]? = some (.cells #[.bool bo, .slice (some ⟨gr, 0, none⟩) n c, v2] 46 (0, 0))) (HO : Kd.R k50 50 w base ok (.slice (some ⟨gr, 0, none⟩) n c) l) :
    Calls Try.prog 130 #[.int .i64 s, .int .i64 b, .pointer (some ⟨g, 0, none⟩)] w fun e w' => e = .returned (.tuple #[]) ∧ Kd.R k50 50 w' base ok (.slice (some ⟨gr, 0, none⟩) n c) (addS l s b) ∧ w.grownBy w' (some gr) := by
  by_cases h0 : s < 0
  · refine (cnt_out s b _ w h0).mono ?_
    rintro e w' ⟨he, rfl⟩
    exact ⟨he, by rw [addS, if_pos h0]; exact HO, World.grownBy.refl w _⟩
  · rw [addS, if_neg h0]
    exact cnt_calls s b bo g gr n c v2 l w base ok (by omega) h1 hb HO
theorem lose_any (s : Int) (bo : Bool) (g gr n c : Nat) (v2 : Value) (l : List S50) (w : World) (base : Nat) (ok : Nat → Prop) (h1 : s < n)
    (hb : w.heap[g]? = some (.cells #[.bool bo, .slice (some ⟨gr, 0, none⟩) n c, v2] 46 (0, 0))) (HO : Kd.R k50 50 w base ok (.slice (some ⟨gr, 0, none⟩) n c) l) :
    Calls Try.prog 131 #[.int .i64 s, .pointer (some ⟨g, 0, none⟩)] w fun e w' => e = .returned (.tuple #[]) ∧ Kd.R k50 50 w' base ok (.slice (some ⟨gr, 0, none⟩) n c) (loseAt l s) ∧ w.grownBy w' (some gr) := by
  by_cases h0 : s < 0
  · refine (lose_none s _ w h0).mono ?_
    rintro e w' ⟨he, rfl⟩
    exact ⟨he, by rw [loseAt, if_pos h0]; exact HO, World.grownBy.refl w _⟩
  · rw [loseAt, if_neg h0]
    exact lose_calls s bo g gr n c v2 l w base ok (by omega) h1 hb HO
theorem told_at {n : Int} {A : Option Addr} {c : Nat} {l : List S88} {b : Bool} {A1 : Option Addr} {c1 : Nat} {ss : List S50} {A2 : Option Addr} {c2 : Nat} {dd : List Bool} {w : World} (i : Int) (hr : Kd.C k88 w A l.length l) (hc : l.length ≤ c) (hr1 : Kd.C k50 w A1 ss.length ss) (hc1 : ss.length ≤ c1) (hr2 : Kd.C Kd.bool w A2 dd.length dd) (hc2 : dd.length ≤ c2)
    (hl : l.length ≤ 1048576) (hd : dd.length = l.length) (h0 : 0 ≤ i) (h1 : i < ss.length) :
    Calls Try.prog 97 #[.agg #[.int .i64 n, .slice A l.length c], .agg #[.bool b, .slice A1 ss.length c1, .slice A2 dd.length c2], .int .i64 i] w fun e w' => e = .returned (.int .i64 (toldC l dd i (rd_T50 ss i))) ∧ Below w.heap.size w w' := by
  obtain ⟨k, h⟩ := (implTold_ev n l dd b ss i hl hd h0 h1).rounds
  exact impl_told.calls k n A c l b A1 c1 ss A2 c2 dd i _ w hr hc hr1 hc1 hr2 hc2 h
theorem dead_at {n : Int} {A : Option Addr} {c : Nat} {l : List S88} {b : Bool} {A1 : Option Addr} {c1 : Nat} {ss : List S50} {A2 : Option Addr} {c2 : Nat} {dd : List Bool} {w : World} {x : Bool} (i : Int) (hx : deadAt l dd i = x) (hr : Kd.C k88 w A l.length l) (hc : l.length ≤ c) (hr1 : Kd.C k50 w A1 ss.length ss) (hc1 : ss.length ≤ c1) (hr2 : Kd.C Kd.bool w A2 dd.length dd) (hc2 : dd.length ≤ c2)
    (hl : l.length ≤ 1048576) (hd : dd.length = l.length) :
    Calls Try.prog 98 #[.agg #[.int .i64 n, .slice A l.length c], .agg #[.bool b, .slice A1 ss.length c1, .slice A2 dd.length c2], .int .i64 i] w fun e w' => e = .returned (.bool x) ∧ Below w.heap.size w w' := by
  obtain ⟨k, h⟩ := (implDead_ev n l dd b ss i hl hd).rounds
  rw [← hx]
  exact impl_dead.calls k n A c l b A1 c1 ss A2 c2 dd i _ w hr hc hr1 hc1 hr2 hc2 h
theorem bool_at {w : World} {base : Nat} {ok : Nat → Prop} {g n c : Nat} {dd : List Bool} (h : Kd.R Kd.bool 4 w base ok (.slice (some ⟨g, 0, none⟩) n c) dd) (i : Int) (h0 : 0 ≤ i) (h1 : i < n) :
    w.cell? ⟨g, i.toNat, none⟩ = some (.bool (rdOf false dd i)) ∧ w.frozen? ⟨g, i.toNat, none⟩ = false := by
  obtain ⟨ce, hcl, hM, hcc, hfr⟩ := Kd.R_elem h false i h0 h1
  have hM0 : ce = [.bool (dd.getD i.toNat false)] := hM
  subst hM0
  have e : i.toNat * Kd.bool.sz + 0 = i.toNat := by show i.toNat * 1 + 0 = _; omega
  have q1 := hcc 0 _ rfl
  have q2 := hfr 0
  rw [e] at q1 q2
  exact ⟨q1, q2⟩
theorem own_ge {α : Type} {d : Kd α} {e : Nat} {w : World} {base : Nat} {ok : Nat → Prop} {g n c : Nat} {xs : List α} (h : d.R e w base ok (.slice (some ⟨g, 0, none⟩) n c) xs) : base ≤ g := by
  rcases Kd.R_base2 h with h | ⟨k, hk, hb⟩
  · cases h
  · cases hk; exact hb
section
variable {w0 w w' : World} {gl gs ge gd : Nat} {lv sv ev dv : List Value} {v1 v2 : Value} {ss ss' : List S50} {dd dd' : List Bool}
theorem DoSt.sec {gr m cr : Nat} (h : DoSt w0 w gl gs ge gd lv sv ev dv (.slice (some ⟨gr, 0, none⟩) m cr) v2 ss dd) (H1 : Kd.R k50 50 w' w0.heap.size (fun _ => True) (.slice (some ⟨gr, 0, none⟩) m cr) ss') (hg : w.grownBy w' (some gr)) :
    DoSt w0 w' gl gs ge gd lv sv ev dv (.slice (some ⟨gr, 0, none⟩) m cr) v2 ss' dd where
  hl := blk_grown h.hl hg (Kd.R_ne h.H1 h.hl (by decide))
  hs := blk_grown h.hs hg (Kd.R_ne h.H1 h.hs (by decide))
  he := blk_grown h.he hg (Kd.R_ne h.H1 h.he (by decide))
  hd := blk_grown h.hd hg (Kd.R_ne h.H1 h.hd (by decide))
  H1 := H1
  H2 := R_on rfl h.H2 hg (by
    obtain ⟨inner, ho⟩ := Kd.R_own h.H1
    obtain ⟨cells, hc⟩ := own_typed ho gr rfl
    exact Kd.R_ne h.H2 hc (by decide))
  hB := pw_below_grown h.hB _ h.hB.size hg (fun k hk => by cases hk; exact own_ge h.H1)
  gle := h.gle
  gse := h.gse
  gee := h.gee
  gde := h.gde
theorem DoSt.dead {gb m cb : Nat} (h : DoSt w0 w gl gs ge gd lv sv ev dv v1 (.slice (some ⟨gb, 0, none⟩) m cb) ss dd) (i : Int) (x : Bool) :
    DoSt w0 (w.setCell ⟨gb, i.toNat, none⟩ (.bool x)) gl gs ge gd lv sv ev dv v1 (.slice (some ⟨gb, 0, none⟩) m cb) ss (dd.set i.toNat x) := by
  obtain ⟨H2, hg⟩ := Kd.R_putg h.H2 i x
  exact {
  hl := blk_grown h.hl hg (Kd.R_ne h.H2 h.hl (by decide))
  hs := blk_grown h.hs hg (Kd.R_ne h.H2 h.hs (by decide))
  he := blk_grown h.he hg (Kd.R_ne h.H2 h.he (by decide))
  hd := blk_grown h.hd hg (Kd.R_ne h.H2 h.hd (by decide))
  H1 := R_on rfl h.H1 hg (by
    obtain ⟨inner, ho⟩ := Kd.R_own h.H2
    obtain ⟨cells, hc⟩ := own_typed ho gb rfl
    exact Kd.R_ne h.H1 hc (by decide))
  H2 := H2
  hB := pw_below_grown h.hB _ h.hB.size hg (fun k hk => by cases hk; exact own_ge h.H2)
  gle := h.gle
  gse := h.gse
  gee := h.gee
  gde := h.gde }
theorem DoSt.up (h : DoSt w0 w gl gs ge gd lv sv ev dv v1 v2 ss dd) (hb : Below w.heap.size w w') : DoSt w0 w' gl gs ge gd lv sv ev dv v1 v2 ss dd where
  hl := blk_below h.hl hb
  hs := blk_below h.hs hb
  he := blk_below h.he hb
  hd := blk_below h.hd hb
  H1 := R_up h.H1 hb
  H2 := R_up h.H2 hb
  hB := below_step h.hB hb
  gle := h.gle
  gse := h.gse
  gee := h.gee
  gde := h.gde
theorem DoSt.fill {x0 x1 x2 x3 y0 y1 y2 y3 : Value} (h : DoSt w0 w gl gs ge gd lv sv ev [x0, x1, x2, x3] v1 v2 ss dd) :
    DoSt w0 ((((w.setCell ⟨gd, 0, none⟩ y0).setCell ⟨gd, 1, none⟩ y1).setCell ⟨gd, 2, none⟩ y2).setCell ⟨gd, 3, none⟩ y3) gl gs ge gd lv sv ev [y0, y1, y2, y3] v1 v2 ss dd where
  hl := blk_far (blk_far (blk_far (blk_far h.hl (blk_ne h.hl h.hd (by decide)) _) (blk_ne h.hl h.hd (by decide)) _) (blk_ne h.hl h.hd (by decide)) _) (blk_ne h.hl h.hd (by decide)) _
  hs := blk_far (blk_far (blk_far (blk_far h.hs (blk_ne h.hs h.hd (by decide)) _) (blk_ne h.hs h.hd (by decide)) _) (blk_ne h.hs h.hd (by decide)) _) (blk_ne h.hs h.hd (by decide)) _
  he := blk_far (blk_far (blk_far (blk_far h.he (blk_ne h.he h.hd (by decide)) _) (blk_ne h.he h.hd (by decide)) _) (blk_ne h.he h.hd (by decide)) _) (blk_ne h.he h.hd (by decide)) _
  hd := blk_put (blk_put (blk_put (blk_put h.hd 0 y0 rfl) 1 y1 rfl) 2 y2 rfl) 3 y3 rfl
  H1 := R_off rfl (R_off rfl (R_off rfl (R_off rfl h.H1 (Kd.R_ne h.H1 h.hd (by decide)) _) (Kd.R_ne h.H1 h.hd (by decide)) _) (Kd.R_ne h.H1 h.hd (by decide)) _) (Kd.R_ne h.H1 h.hd (by decide)) _
  H2 := R_off rfl (R_off rfl (R_off rfl (R_off rfl h.H2 (Kd.R_ne h.H2 h.hd (by decide)) _) (Kd.R_ne h.H2 h.hd (by decide)) _) (Kd.R_ne h.H2 h.hd (by decide)) _) (Kd.R_ne h.H2 h.hd (by decide)) _
  hB := below_set (below_set (below_set (below_set h.hB h.gde) h.gde) h.gde) h.gde
  gle := h.gle
  gse := h.gse
  gee := h.gee
  gde := h.gde
end
theorem evOk_cases {n : Int} {l : List S88} {op of dir : Int} (h : eventOk n l op of dir = true) :
    ((op = 1 ∨ op = 2) ∧ 0 ≤ of ∧ of < (l.length : Int) ∧ (dir = 1 ∨ dir = -1)) ∨ ((op = 3 ∨ op = 4) ∧ 0 ≤ of ∧ of < (l.length : Int)) ∨ (op = 5 ∧ 0 ≤ of ∧ of < n) := by
  unfold eventOk at h
  split at h
  · split at h
    · rename_i h1
      simp at h
      exact .inl ⟨h1, h.1.1, h.1.2, h.2⟩
    · split at h
      · rename_i h1
        simp at h
        exact .inr (.inl ⟨h1, h.1.1, h.1.2⟩)
      · split at h
        · rename_i h1
          simp at h
          exact .inr (.inr ⟨h1, h.1.1, h.1.2⟩)
        · cases h
  · cases h
theorem told_of {n : Int} {A : Option Addr} {c : Nat} {l : List S88} {b : Bool} {A1 : Option Addr} {m1 c1 : Nat} {ss : List S50} {A2 : Option Addr} {m2 c2 : Nat} {dd : List Bool} {w : World} {b1 b2 : Nat} {o1 o2 : Nat → Prop} (i : Int) (hr : Kd.C k88 w A l.length l) (hc : l.length ≤ c) (H1 : Kd.R k50 50 w b1 o1 (.slice A1 m1 c1) ss) (H2 : Kd.R Kd.bool 4 w b2 o2 (.slice A2 m2 c2) dd) (e1 : m1 = ss.length) (e2 : m2 = dd.length)
    (hl : l.length ≤ 1048576) (hd : dd.length = l.length) (h0 : 0 ≤ i) (h1 : i < m1) :
    Calls Try.prog 97 #[.agg #[.int .i64 n, .slice A l.length c], .agg #[.bool b, .slice A1 m1 c1, .slice A2 m2 c2], .int .i64 i] w fun e w' => e = .returned (.int .i64 (toldC l dd i (rd_T50 ss i))) ∧ Below w.heap.size w w' := by
  subst e1 e2
  exact told_at i hr hc (Kd.R_reads' H1).2.2 (Kd.R_reads' H1).2.1 (Kd.R_reads' H2).2.2 (Kd.R_reads' H2).2.1 hl hd h0 h1
theorem retold_step (l : List S88) (dd : List Bool) (ss : List S50) (k : Nat) (hk : k < ss.length) :
    (retoldTo l dd ss k).set (k : Int).toNat ⟨toldC l dd (k : Int) (rd_T50 (retoldTo l dd ss k) (k : Int)), (rd_T50 (retoldTo l dd ss k) (k : Int)).f1, (rd_T50 (retoldTo l dd ss k) (k : Int)).f2, (rd_T50 (retoldTo l dd ss k) (k : Int)).f3, (rd_T50 (retoldTo l dd ss k) (k : Int)).f4⟩ = retoldTo l dd ss (k + 1) := by
  rw [Int.toNat_natCast, retoldTo_at l dd ss k hk]
  exact retoldTo_succ l dd ss k hk
set_option maxHeartbeats 4000000 in
set_option maxRecDepth 100000 in
theorem do_is (n : Int) (A : Option Addr) (c : Nat) (l : List S88) (b : Bool) (A1 : Option Addr) (c1 : Nat) (ss : List S50) (A2 : Option Addr) (c2 : Nat) (dd : List Bool) (op of dir : Int) (w : World)
    (hr : Kd.C k88 w A l.length l) (hc : l.length ≤ c) (hr1 : Kd.C k50 w A1 ss.length ss) (hc1 : ss.length ≤ c1) (hr2 : Kd.C Kd.bool w A2 dd.length dd) (hc2 : dd.length ≤ c2)
    (hl : layoutOk n l = 0) (hns : (ss.length : Int) = n) (hnd : dd.length = l.length) (hev : eventOk n l op of dir = true) :
    Calls Try.prog 96 #[.agg #[.int .i64 n, .slice A l.length c], .agg #[.bool b, .slice A1 ss.length c1, .slice A2 dd.length c2], .agg #[.int .i64 op, .int .i64 of, .int .i64 dir]] w fun e w' => ∃ v2_ v3_ : Value, e = .returned (.agg #[.int .i64 (doCode l ss dd op of), .bool true, v2_, v3_]) ∧ Kd.R k50 50 w' w.heap.size (fun _ => True) v2_ (doSecs l ss dd op of dir) ∧ Kd.R Kd.bool 4 w' w.heap.size (fun _ => True) v3_ (doDead l ss dd op of) ∧ Below w.heap.size w w' := by
  have hn := lay_n hl
  have hs : ss.length ≤ 1000000 := by omega
  have hd : dd.length ≤ 1000000 := by omega
  have hpos : 0 < ss.length := by omega
  have HN := Aside0.mk (And.intro hl (And.intro hns (And.intro hnd hev)))
  clear hn hl hns hnd hev
  have f1 : impl_Section.f ss = some ss := by unfold impl_Section.f; rw [if_pos hs]
  have f2 : slices_Clone_bool_bool.f dd = some dd := by unfold slices_Clone_bool_bool.f; rw [if_pos hd]
  have HR := Aside0.mk hr
  have HR1 := Aside0.mk hr1
  have HR2 := Aside0.mk hr2
  clear hr hr1 hr2
  go_enter Try.func96, Try.ntmps96
  go_upto_region 1 with (first | ((with_reducible refine gate_dst (N := 3) rfl ?_); refine box_event ?hg (N := 3) ?hd (cs := #[.int .i64 n, .slice A l.length c]) (t := 30) ?hr ?_; (case hd => rfl); (case hg => rfl); (case hr => first | (go_simp; done) | (go_simp; rfl)); intro gl el wl kl bl) | ((with_reducible refine gate_dst (N := 4) rfl ?_); refine box_event ?hg (N := 4) ?hd (cs := #[.bool b, .slice A1 ss.length c1, .slice A2 dd.length c2]) (t := 46) ?hr ?_; (case hd => rfl); (case hg => rfl); (case hr => first | (go_simp; done) | (go_simp; rfl)); intro gs es ws ks bs) | ((with_reducible refine gate_dst (N := 5) rfl ?_); refine box_event ?hg (N := 5) ?hd (cs := #[.int .i64 op, .int .i64 of, .int .i64 dir]) (t := 56) ?hr ?_; (case hd => rfl); (case hg => rfl); (case hr => first | (go_simp; done) | (go_simp; rfl)); intro ge ee we ke be) | ((with_reducible refine gate_dst (N := 6) rfl ?_); refine box_event ?hg (N := 6) ?hd (cs := #[.int .i64 0, .bool false, .slice none 0 0, .slice none 0 0]) (t := 48) ?hr ?_; (case hd => rfl); (case hg => rfl); (case hr => first | (go_simp; done) | (go_simp; rfl)); intro gd ed wd kd_ bd))
  have KL := Aside0.mk (blk_below (blk_below (blk_below kl bs) be) bd)
  have KS := Aside0.mk (blk_below (blk_below ks be) bd)
  have KE := Aside0.mk (blk_below ke bd)
  have KD := Aside0.mk kd_
  have BB := Aside0.mk (below_step (below_step (below_step bl bs) be) bd)
  have GL := Aside0.mk (show w.heap.size ≤ gl by rw [el]; exact Nat.le_refl _)
  have GS := Aside0.mk (show w.heap.size ≤ gs by rw [es]; exact bl.size)
  have GE := Aside0.mk (show w.heap.size ≤ ge by rw [ee]; exact (below_step bl bs).size)
  have GD := Aside0.mk (show w.heap.size ≤ gd by rw [ed]; exact (below_step (below_step bl bs) be).size)
  clear kl ks ke kd_ bl bs be bd el es ee ed
  simp only [Act.put, List.setIfInBounds_toArray, List.set_cons_zero, List.set_cons_succ]
  go_cut [] from 12 to 18 (fun wx => ∃ v1 v2 : Value, DoSt w wx gl gs ge gd [.int .i64 n, .slice A l.length c] [.bool true, v1, v2] [.int .i64 op, .int .i64 of, .int .i64 dir] [.int .i64 0, .bool false, .slice none 0 0, .slice none 0 0] v1 v2 ss dd)
  case first =>
    have e1 : wd.drew.cell? ⟨gs, 1, none⟩ = some (.slice A1 ss.length c1) := (blk_cell (blk_drew KS.out) 1).trans rfl
    have e2 : wd.drew.cell? ⟨gs, 2, none⟩ = some (.slice A2 dd.length c2) := (blk_cell (blk_drew KS.out) 2).trans rfl
    have kx := Aside0.mk (blk_drew KS.out)
    have bx := Aside0.mk (below_drew1 BB.out)
    have by_ := Aside0.mk (below_drew1 (Below.refl wd.heap.size wd))
    go_region_with (first | (go_at_call 94; refine (impl_Section.calls A1 c1 ss ss _ (Kd.C_below HR1.out bx.out) hc1 f1).mono ?_; rintro e w' ⟨v1, rfl, ho1, hb1⟩; obtain ⟨Aa, ca, rfl⟩ := Kd.R_slice ho1; have kx := Aside0.mk (blk_below kx.out hb1); have c0_ : w'.cell? ⟨gs, 0, none⟩ = some (.bool b) := (blk_cell kx.out 0).trans rfl; have c1_ : w'.cell? ⟨gs, 1, none⟩ = some (.slice A1 ss.length c1) := (blk_cell kx.out 1).trans rfl; have c2_ : w'.cell? ⟨gs, 2, none⟩ = some (.slice A2 dd.length c2) := (blk_cell kx.out 2).trans rfl; have z0_ := blk_frozen kx.out 0; have z1_ := blk_frozen kx.out 1; have z2_ := blk_frozen kx.out 2; have HO1 := Aside0.mk (Kd.R_lower ho1 bx.out.size); (try (have HO2 := Aside0.mk (R_up HO2.out hb1))); have bx := Aside0.mk (below_step bx.out hb1); have by_ := Aside0.mk (below_step by_.out hb1); clear hb1 ho1) | (go_at_call 95; refine (slices_Clone_bool_bool.calls A2 c2 dd dd _ (Kd.C_below HR2.out bx.out) hc2 f2).mono ?_; rintro e w' ⟨v2, rfl, ho2, hb2⟩; obtain ⟨Ab, cb, rfl⟩ := Kd.R_slice ho2; have kx := Aside0.mk (blk_below kx.out hb2); have c0_ : w'.cell? ⟨gs, 0, none⟩ = some (.bool b) := (blk_cell kx.out 0).trans rfl; have c1_ : w'.cell? ⟨gs, 1, none⟩ = some (.slice A1 ss.length c1) := (blk_cell kx.out 1).trans rfl; have c2_ : w'.cell? ⟨gs, 2, none⟩ = some (.slice A2 dd.length c2) := (blk_cell kx.out 2).trans rfl; have z0_ := blk_frozen kx.out 0; have z1_ := blk_frozen kx.out 1; have z2_ := blk_frozen kx.out 2; have HO2 := Aside0.mk (Kd.R_lower ho2 bx.out.size); (try (have HO1 := Aside0.mk (R_up HO1.out hb2))); have bx := Aside0.mk (below_step bx.out hb2); have by_ := Aside0.mk (below_step by_.out hb2); clear hb2 ho2))
    all_goals (go_wp2_with fail; go_meet)
    all_goals exact ⟨_, _, DoSt.begin (blk_below KL.out by_.out) kx.out (blk_below KE.out by_.out) (blk_below KD.out by_.out) HO1.out HO2.out bx.out GL.out GS.out GE.out GD.out (blk_ne KL.out KS.out (by decide)) (blk_ne KE.out KS.out (by decide)) (blk_ne KD.out KS.out (by decide))⟩
  case rest =>
    obtain ⟨v1, v2, ST⟩ := hcut
    obtain ⟨gr, cr, e1, _, _, _⟩ := Kd.R_form ST.H1 hpos
    obtain ⟨Ad, cd, e2⟩ := Kd.R_slice ST.H2
    subst e1 e2
    have SA := Aside0.mk (show DoSt w wc gl gs ge gd [.int .i64 n, .slice A l.length c] [.bool true, .slice (some ⟨gr, 0, none⟩) ss.length cr, .slice Ad dd.length cd] [.int .i64 op, .int .i64 of, .int .i64 dir] [.int .i64 0, .bool false, .slice none 0 0, .slice none 0 0] (.slice (some ⟨gr, 0, none⟩) ss.length cr) (.slice Ad dd.length cd) ss dd from ST)
    have ce0 : wc.cell? ⟨ge, 0, none⟩ = some (.int .i64 op) := (blk_cell ST.he 0).trans rfl
    have ce1 : wc.cell? ⟨ge, 1, none⟩ = some (.int .i64 of) := (blk_cell ST.he 1).trans rfl
    have ce2 : wc.cell? ⟨ge, 2, none⟩ = some (.int .i64 dir) := (blk_cell ST.he 2).trans rfl
    have cs1 : wc.cell? ⟨gs, 1, none⟩ = some (.slice (some ⟨gr, 0, none⟩) ss.length cr) := (blk_cell ST.hs 1).trans rfl
    have cs2 : wc.cell? ⟨gs, 2, none⟩ = some (.slice Ad dd.length cd) := (blk_cell ST.hs 2).trans rfl
    have cs0 : wc.cell? ⟨gs, 0, none⟩ = some (.bool true) := (blk_cell ST.hs 0).trans rfl
    have cl0 : wc.cell? ⟨gl, 0, none⟩ = some (.int .i64 n) := (blk_cell ST.hl 0).trans rfl
    have cl1 : wc.cell? ⟨gl, 1, none⟩ = some (.slice A l.length c) := (blk_cell ST.hl 1).trans rfl
    clear ST KL KS KE KD BB
    go_upto_block 0 with fail
    go_cut [] from 9 to 115 (fun wx => Aside0 (DoSt w wx gl gs ge gd [.int .i64 n, .slice A l.length c] [.bool true, .slice (some ⟨gr, 0, none⟩) ss.length cr, .slice Ad dd.length cd] [.int .i64 op, .int .i64 of, .int .i64 dir] [.int .i64 0, .bool false, .slice none 0 0, .slice none 0 0] (.slice (some ⟨gr, 0, none⟩) ss.length cr) (.slice Ad dd.length cd) (midSecs l ss op of dir) (midDead dd op of)) ∧ Aside0 (doCode l ss dd op of = 0))
    case first =>
      obtain ⟨hl, hns, hnd, hev⟩ := HN.out
      have hln := lay_n hl
      have HL2 := Aside0.mk hln
      rcases evOk_cases hev with ⟨hop, ho0, ho1, hdir⟩ | ⟨hop, ho0, ho1⟩ | ⟨rfl, ho0, ho1⟩
      · have lr := lay_rd hl of ho0 ho1
        have ho2 := ho1
        rw [← hnd] at ho1
        obtain ⟨gb, cb, e, _, _, _⟩ := Kd.R_form SA.out.H2 (show 0 < dd.length by omega)
        cases e
        obtain ⟨x0, xf⟩ := bool_at SA.out.H2 of ho0 ho1
        obtain ⟨ad, e, y0, y1⟩ := at_T88 HR.out of ho0 (by omega)
        subst e
        have lr0 : (rd_T88 l of).f0 < (ss.length : Int) := by omega
        have lr1 : (rd_T88 l of).f1 < (ss.length : Int) := by omega
        have LR0 := Aside0.mk lr0
        have LR1 := Aside0.mk lr1
        clear lr lr0 lr1 hl hns hnd hev hln
        have Y0 := Aside0.mk y0
        have Y1 := Aside0.mk y1
        clear y0 y1
        rcases Bool.eq_false_or_eq_true (rdOf false dd of) with hdo | hdo
        · rw [hdo] at x0
          have HDO := Aside0.mk hdo
          clear hdo
          have hc2 : doCode l ss dd op of = 2 := by unfold doCode; rw [if_pos hop, if_pos HDO.out]
          have HC2 := Aside0.mk hc2
          clear hc2
          have kd0 := (blk_cell SA.out.hd 0).trans (show _ = some (Value.int .i64 0) from rfl)
          have kd1 := (blk_cell SA.out.hd 1).trans (show _ = some (Value.bool false) from rfl)
          have kd2 := (blk_cell SA.out.hd 2).trans (show _ = some (Value.slice none 0 0) from rfl)
          have kd3 := (blk_cell SA.out.hd 3).trans (show _ = some (Value.slice none 0 0) from rfl)
          have kz0 := blk_frozen SA.out.hd 0
          have kz1 := blk_frozen SA.out.hd 1
          have kz2 := blk_frozen SA.out.hd 2
          have kz3 := blk_frozen SA.out.hd 3
          rcases hop with rfl | rfl
          all_goals
            go_wp2_with fail
            have SF := SA.out.fill (y0 := .int .i64 2) (y1 := .bool true) (y2 := (.slice (some ⟨gr, 0, none⟩) ss.length cr)) (y3 := (.slice (some ⟨gb, 0, none⟩) dd.length cd))
            refine bodyPost_ret (results_cell_row rfl _ _ gd 48 _ (0, 0) _ rfl SF.hd Try.underlying48 rfl (by kernel_rfl)) rfl ⟨_, _, by rw [HC2.out], ?_, ?_, SF.hB⟩
            · unfold doSecs; rw [HC2.out]; exact SF.H1
            · unfold doDead; rw [HC2.out]; exact SF.H2
        · rw [hdo] at x0
          have HDO := Aside0.mk hdo
          clear hdo
          have y0 := pw_cell_below SA.out.hB Y0.out
          have y1 := pw_cell_below SA.out.hB Y1.out
          rcases hdir with rfl | rfl
          · rcases hop with rfl | rfl
            · go_upto_region 12 with (first | ((with_reducible refine gate_dst (N := 9) rfl ?_); refine box_event ?hg (N := 9) ?hd (cs := #[.int .i64 0, .int .i64 0]) (t := 88) ?hr ?_; (case hd => rfl); (case hg => rfl); (case hr => first | (go_simp; done) | (go_simp; rfl)); intro gc ec wb kc bc; have KC := Aside0.mk kc; have EC := Aside0.mk ec; have BC := Aside0.mk bc; have zc0 := blk_frozen kc 0; have zc1 := blk_frozen kc 1; have kc0 := (blk_cell kc 0).trans (show _ = some (Value.int .i64 0) from rfl); have kc1 := (blk_cell kc 1).trans (show _ = some (Value.int .i64 0) from rfl); have e0 := pw_cell_below bc ce0; have e1 := pw_cell_below bc ce1; have e2 := pw_cell_below bc ce2; have ss1 := pw_cell_below bc cs1; have ss2 := pw_cell_below bc cs2; clear kc ec bc))
              have KX := Aside0.mk (blk_put (blk_put KC.out 0 (.int .i64 (rd_T88 l of).f0) rfl) 1 (.int .i64 (rd_T88 l of).f1) rfl)
              have BX := Aside0.mk (below_set (j := 1) (v := (.int .i64 (rd_T88 l of).f1)) (below_set (j := 0) (v := (.int .i64 (rd_T88 l of).f0)) BC.out (Nat.le_of_eq EC.out.symm)) (Nat.le_of_eq EC.out.symm))
              have S1 := Aside0.mk (SA.out.up BX.out)
              clear SA ce0 ce1 ce2 cs0 cs1 cs2 cl0 cl1 x0 xf KC BC BX zc0 zc1 kc0 kc1 e0 e1 e2 ss1 ss2 y0 y1 EC
              generalize ((wb.setCell ⟨gc, 0, none⟩ (.int .i64 (rd_T88 l of).f0)).setCell ⟨gc, 1, none⟩ (.int .i64 (rd_T88 l of).f1)) = w1 at S1 KX ⊢
              have kge0 : w1.cell? ⟨ge, 0, none⟩ = some (.int .i64 1) := (blk_cell S1.out.he 0).trans rfl
              have kge1 : w1.cell? ⟨ge, 1, none⟩ = some (.int .i64 of) := (blk_cell S1.out.he 1).trans rfl
              have kge2 : w1.cell? ⟨ge, 2, none⟩ = some (.int .i64 1) := (blk_cell S1.out.he 2).trans rfl
              have kgs0 : w1.cell? ⟨gs, 0, none⟩ = some (.bool true) := (blk_cell S1.out.hs 0).trans rfl
              have kgs1 : w1.cell? ⟨gs, 1, none⟩ = some (.slice (some ⟨gr, 0, none⟩) ss.length cr) := (blk_cell S1.out.hs 1).trans rfl
              have kgs2 : w1.cell? ⟨gs, 2, none⟩ = some (.slice (some ⟨gb, 0, none⟩) dd.length cd) := (blk_cell S1.out.hs 2).trans rfl
              have kgl0 : w1.cell? ⟨gl, 0, none⟩ = some (.int .i64 n) := (blk_cell S1.out.hl 0).trans rfl
              have kgl1 : w1.cell? ⟨gl, 1, none⟩ = some (.slice (some ad) l.length c) := (blk_cell S1.out.hl 1).trans rfl
              have kc0 : w1.cell? ⟨gc, 0, none⟩ = some (.int .i64 (rd_T88 l of).f0) := (blk_cell KX.out 0).trans rfl
              have kc1 : w1.cell? ⟨gc, 1, none⟩ = some (.int .i64 (rd_T88 l of).f1) := (blk_cell KX.out 1).trans rfl
              go_upto_region 14 with (go_at_call 130; refine (cnt_any _ _ true gs gr ss.length cr _ _ _ _ _ LR0.out S1.out.hs S1.out.H1).mono ?_; rintro e w2 ⟨rfl, hR, hg⟩; have S2 := Aside0.mk (S1.out.sec hR hg); have KY := Aside0.mk (blk_grown KX.out hg (Kd.R_ne S1.out.H1 KX.out (by decide))); clear hR hg)
              clear kge0 kge1 kge2 kgs0 kgs1 kgs2 kgl0 kgl1
              clear kc0 kc1 S1 KX
              have kge0 : w2.cell? ⟨ge, 0, none⟩ = some (.int .i64 1) := (blk_cell S2.out.he 0).trans rfl
              have kge1 : w2.cell? ⟨ge, 1, none⟩ = some (.int .i64 of) := (blk_cell S2.out.he 1).trans rfl
              have kge2 : w2.cell? ⟨ge, 2, none⟩ = some (.int .i64 1) := (blk_cell S2.out.he 2).trans rfl
              have kgs0 : w2.cell? ⟨gs, 0, none⟩ = some (.bool true) := (blk_cell S2.out.hs 0).trans rfl
              have kgs1 : w2.cell? ⟨gs, 1, none⟩ = some (.slice (some ⟨gr, 0, none⟩) ss.length cr) := (blk_cell S2.out.hs 1).trans rfl
              have kgs2 : w2.cell? ⟨gs, 2, none⟩ = some (.slice (some ⟨gb, 0, none⟩) dd.length cd) := (blk_cell S2.out.hs 2).trans rfl
              have kgl0 : w2.cell? ⟨gl, 0, none⟩ = some (.int .i64 n) := (blk_cell S2.out.hl 0).trans rfl
              have kgl1 : w2.cell? ⟨gl, 1, none⟩ = some (.slice (some ad) l.length c) := (blk_cell S2.out.hl 1).trans rfl
              have kc1 : w2.cell? ⟨gc, 1, none⟩ = some (.int .i64 (rd_T88 l of).f1) := (blk_cell KY.out 1).trans rfl
              go_wp2_with (go_at_call 130; refine (cnt_any _ _ true gs gr ss.length cr _ _ _ _ _ LR1.out S2.out.hs S2.out.H1).mono ?_; rintro e w3 ⟨rfl, hR, hg⟩; have S3 := Aside0.mk (S2.out.sec hR hg); clear hR hg)
              go_meet
              case rel => exact ⟨⟨S3.out⟩, ⟨by unfold doCode; rw [if_pos (by decide), HDO.out]; rfl⟩⟩
            · go_upto_region 12 with (first | ((with_reducible refine gate_dst (N := 9) rfl ?_); refine box_event ?hg (N := 9) ?hd (cs := #[.int .i64 0, .int .i64 0]) (t := 88) ?hr ?_; (case hd => rfl); (case hg => rfl); (case hr => first | (go_simp; done) | (go_simp; rfl)); intro gc ec wb kc bc; have KC := Aside0.mk kc; have EC := Aside0.mk ec; have BC := Aside0.mk bc; have zc0 := blk_frozen kc 0; have zc1 := blk_frozen kc 1; have kc0 := (blk_cell kc 0).trans (show _ = some (Value.int .i64 0) from rfl); have kc1 := (blk_cell kc 1).trans (show _ = some (Value.int .i64 0) from rfl); have e0 := pw_cell_below bc ce0; have e1 := pw_cell_below bc ce1; have e2 := pw_cell_below bc ce2; have ss1 := pw_cell_below bc cs1; have ss2 := pw_cell_below bc cs2; clear kc ec bc))
              have KX := Aside0.mk (blk_put (blk_put KC.out 0 (.int .i64 (rd_T88 l of).f0) rfl) 1 (.int .i64 (rd_T88 l of).f1) rfl)
              have BX := Aside0.mk (below_set (j := 1) (v := (.int .i64 (rd_T88 l of).f1)) (below_set (j := 0) (v := (.int .i64 (rd_T88 l of).f0)) BC.out (Nat.le_of_eq EC.out.symm)) (Nat.le_of_eq EC.out.symm))
              have S1 := Aside0.mk (SA.out.up BX.out)
              clear SA ce0 ce1 ce2 cs0 cs1 cs2 cl0 cl1 x0 xf KC BC BX zc0 zc1 kc0 kc1 e0 e1 e2 ss1 ss2 y0 y1 EC
              generalize ((wb.setCell ⟨gc, 0, none⟩ (.int .i64 (rd_T88 l of).f0)).setCell ⟨gc, 1, none⟩ (.int .i64 (rd_T88 l of).f1)) = w1 at S1 KX ⊢
              have kge0 : w1.cell? ⟨ge, 0, none⟩ = some (.int .i64 2) := (blk_cell S1.out.he 0).trans rfl
              have kge1 : w1.cell? ⟨ge, 1, none⟩ = some (.int .i64 of) := (blk_cell S1.out.he 1).trans rfl
              have kge2 : w1.cell? ⟨ge, 2, none⟩ = some (.int .i64 1) := (blk_cell S1.out.he 2).trans rfl
              have kgs0 : w1.cell? ⟨gs, 0, none⟩ = some (.bool true) := (blk_cell S1.out.hs 0).trans rfl
              have kgs1 : w1.cell? ⟨gs, 1, none⟩ = some (.slice (some ⟨gr, 0, none⟩) ss.length cr) := (blk_cell S1.out.hs 1).trans rfl
              have kgs2 : w1.cell? ⟨gs, 2, none⟩ = some (.slice (some ⟨gb, 0, none⟩) dd.length cd) := (blk_cell S1.out.hs 2).trans rfl
              have kgl0 : w1.cell? ⟨gl, 0, none⟩ = some (.int .i64 n) := (blk_cell S1.out.hl 0).trans rfl
              have kgl1 : w1.cell? ⟨gl, 1, none⟩ = some (.slice (some ad) l.length c) := (blk_cell S1.out.hl 1).trans rfl
              have kc0 : w1.cell? ⟨gc, 0, none⟩ = some (.int .i64 (rd_T88 l of).f0) := (blk_cell KX.out 0).trans rfl
              have kc1 : w1.cell? ⟨gc, 1, none⟩ = some (.int .i64 (rd_T88 l of).f1) := (blk_cell KX.out 1).trans rfl
              go_wp2_with (go_at_call 130; refine (cnt_any _ _ true gs gr ss.length cr _ _ _ _ _ LR1.out S1.out.hs S1.out.H1).mono ?_; rintro e w3 ⟨rfl, hR, hg⟩; have S3 := Aside0.mk (S1.out.sec hR hg); clear hR hg)
              go_meet
              case rel => exact ⟨⟨S3.out⟩, ⟨by unfold doCode; rw [if_pos (by decide), HDO.out]; rfl⟩⟩
          · rcases hop with rfl | rfl
            · go_upto_region 12 with (first | ((with_reducible refine gate_dst (N := 9) rfl ?_); refine box_event ?hg (N := 9) ?hd (cs := #[.int .i64 0, .int .i64 0]) (t := 88) ?hr ?_; (case hd => rfl); (case hg => rfl); (case hr => first | (go_simp; done) | (go_simp; rfl)); intro gc ec wb kc bc; have KC := Aside0.mk kc; have EC := Aside0.mk ec; have BC := Aside0.mk bc; have zc0 := blk_frozen kc 0; have zc1 := blk_frozen kc 1; have kc0 := (blk_cell kc 0).trans (show _ = some (Value.int .i64 0) from rfl); have kc1 := (blk_cell kc 1).trans (show _ = some (Value.int .i64 0) from rfl); have e0 := pw_cell_below bc ce0; have e1 := pw_cell_below bc ce1; have e2 := pw_cell_below bc ce2; have ss1 := pw_cell_below bc cs1; have ss2 := pw_cell_below bc cs2; clear kc ec bc))
              have KX := Aside0.mk (blk_put (blk_put (blk_put (blk_put KC.out 0 (.int .i64 (rd_T88 l of).f0) rfl) 1 (.int .i64 (rd_T88 l of).f1) rfl) 0 (.int .i64 (rd_T88 l of).f1) rfl) 1 (.int .i64 (rd_T88 l of).f0) rfl)
              have BX := Aside0.mk (below_set (j := 1) (v := (.int .i64 (rd_T88 l of).f0)) (below_set (j := 0) (v := (.int .i64 (rd_T88 l of).f1)) (below_set (j := 1) (v := (.int .i64 (rd_T88 l of).f1)) (below_set (j := 0) (v := (.int .i64 (rd_T88 l of).f0)) BC.out (Nat.le_of_eq EC.out.symm)) (Nat.le_of_eq EC.out.symm)) (Nat.le_of_eq EC.out.symm)) (Nat.le_of_eq EC.out.symm))
              have S1 := Aside0.mk (SA.out.up BX.out)
              clear SA ce0 ce1 ce2 cs0 cs1 cs2 cl0 cl1 x0 xf KC BC BX zc0 zc1 kc0 kc1 e0 e1 e2 ss1 ss2 y0 y1 EC
              generalize ((((wb.setCell ⟨gc, 0, none⟩ (.int .i64 (rd_T88 l of).f0)).setCell ⟨gc, 1, none⟩ (.int .i64 (rd_T88 l of).f1)).setCell ⟨gc, 0, none⟩ (.int .i64 (rd_T88 l of).f1)).setCell ⟨gc, 1, none⟩ (.int .i64 (rd_T88 l of).f0)) = w1 at S1 KX ⊢
              have kge0 : w1.cell? ⟨ge, 0, none⟩ = some (.int .i64 1) := (blk_cell S1.out.he 0).trans rfl
              have kge1 : w1.cell? ⟨ge, 1, none⟩ = some (.int .i64 of) := (blk_cell S1.out.he 1).trans rfl
              have kge2 : w1.cell? ⟨ge, 2, none⟩ = some (.int .i64 (-1)) := (blk_cell S1.out.he 2).trans rfl
              have kgs0 : w1.cell? ⟨gs, 0, none⟩ = some (.bool true) := (blk_cell S1.out.hs 0).trans rfl
              have kgs1 : w1.cell? ⟨gs, 1, none⟩ = some (.slice (some ⟨gr, 0, none⟩) ss.length cr) := (blk_cell S1.out.hs 1).trans rfl
              have kgs2 : w1.cell? ⟨gs, 2, none⟩ = some (.slice (some ⟨gb, 0, none⟩) dd.length cd) := (blk_cell S1.out.hs 2).trans rfl
              have kgl0 : w1.cell? ⟨gl, 0, none⟩ = some (.int .i64 n) := (blk_cell S1.out.hl 0).trans rfl
              have kgl1 : w1.cell? ⟨gl, 1, none⟩ = some (.slice (some ad) l.length c) := (blk_cell S1.out.hl 1).trans rfl
              have kc0 : w1.cell? ⟨gc, 0, none⟩ = some (.int .i64 (rd_T88 l of).f1) := (blk_cell KX.out 0).trans rfl
              have kc1 : w1.cell? ⟨gc, 1, none⟩ = some (.int .i64 (rd_T88 l of).f0) := (blk_cell KX.out 1).trans rfl
              go_upto_region 14 with (go_at_call 130; refine (cnt_any _ _ true gs gr ss.length cr _ _ _ _ _ LR1.out S1.out.hs S1.out.H1).mono ?_; rintro e w2 ⟨rfl, hR, hg⟩; have S2 := Aside0.mk (S1.out.sec hR hg); have KY := Aside0.mk (blk_grown KX.out hg (Kd.R_ne S1.out.H1 KX.out (by decide))); clear hR hg)
              clear kge0 kge1 kge2 kgs0 kgs1 kgs2 kgl0 kgl1
              clear kc0 kc1 S1 KX
              have kge0 : w2.cell? ⟨ge, 0, none⟩ = some (.int .i64 1) := (blk_cell S2.out.he 0).trans rfl
              have kge1 : w2.cell? ⟨ge, 1, none⟩ = some (.int .i64 of) := (blk_cell S2.out.he 1).trans rfl
              have kge2 : w2.cell? ⟨ge, 2, none⟩ = some (.int .i64 (-1)) := (blk_cell S2.out.he 2).trans rfl
              have kgs0 : w2.cell? ⟨gs, 0, none⟩ = some (.bool true) := (blk_cell S2.out.hs 0).trans rfl
              have kgs1 : w2.cell? ⟨gs, 1, none⟩ = some (.slice (some ⟨gr, 0, none⟩) ss.length cr) := (blk_cell S2.out.hs 1).trans rfl
              have kgs2 : w2.cell? ⟨gs, 2, none⟩ = some (.slice (some ⟨gb, 0, none⟩) dd.length cd) := (blk_cell S2.out.hs 2).trans rfl
              have kgl0 : w2.cell? ⟨gl, 0, none⟩ = some (.int .i64 n) := (blk_cell S2.out.hl 0).trans rfl
              have kgl1 : w2.cell? ⟨gl, 1, none⟩ = some (.slice (some ad) l.length c) := (blk_cell S2.out.hl 1).trans rfl
              have kc1 : w2.cell? ⟨gc, 1, none⟩ = some (.int .i64 (rd_T88 l of).f0) := (blk_cell KY.out 1).trans rfl
              go_wp2_with (go_at_call 130; refine (cnt_any _ _ true gs gr ss.length cr _ _ _ _ _ LR0.out S2.out.hs S2.out.H1).mono ?_; rintro e w3 ⟨rfl, hR, hg⟩; have S3 := Aside0.mk (S2.out.sec hR hg); clear hR hg)
              go_meet
              case rel => exact ⟨⟨S3.out⟩, ⟨by unfold doCode; rw [if_pos (by decide), HDO.out]; rfl⟩⟩
            · go_upto_region 12 with (first | ((with_reducible refine gate_dst (N := 9) rfl ?_); refine box_event ?hg (N := 9) ?hd (cs := #[.int .i64 0, .int .i64 0]) (t := 88) ?hr ?_; (case hd => rfl); (case hg => rfl); (case hr => first | (go_simp; done) | (go_simp; rfl)); intro gc ec wb kc bc; have KC := Aside0.mk kc; have EC := Aside0.mk ec; have BC := Aside0.mk bc; have zc0 := blk_frozen kc 0; have zc1 := blk_frozen kc 1; have kc0 := (blk_cell kc 0).trans (show _ = some (Value.int .i64 0) from rfl); have kc1 := (blk_cell kc 1).trans (show _ = some (Value.int .i64 0) from rfl); have e0 := pw_cell_below bc ce0; have e1 := pw_cell_below bc ce1; have e2 := pw_cell_below bc ce2; have ss1 := pw_cell_below bc cs1; have ss2 := pw_cell_below bc cs2; clear kc ec bc))
              have KX := Aside0.mk (blk_put (blk_put (blk_put (blk_put KC.out 0 (.int .i64 (rd_T88 l of).f0) rfl) 1 (.int .i64 (rd_T88 l of).f1) rfl) 0 (.int .i64 (rd_T88 l of).f1) rfl) 1 (.int .i64 (rd_T88 l of).f0) rfl)
              have BX := Aside0.mk (below_set (j := 1) (v := (.int .i64 (rd_T88 l of).f0)) (below_set (j := 0) (v := (.int .i64 (rd_T88 l of).f1)) (below_set (j := 1) (v := (.int .i64 (rd_T88 l of).f1)) (below_set (j := 0) (v := (.int .i64 (rd_T88 l of).f0)) BC.out (Nat.le_of_eq EC.out.symm)) (Nat.le_of_eq EC.out.symm)) (Nat.le_of_eq EC.out.symm)) (Nat.le_of_eq EC.out.symm))
              have S1 := Aside0.mk (SA.out.up BX.out)
              clear SA ce0 ce1 ce2 cs0 cs1 cs2 cl0 cl1 x0 xf KC BC BX zc0 zc1 kc0 kc1 e0 e1 e2 ss1 ss2 y0 y1 EC
              generalize ((((wb.setCell ⟨gc, 0, none⟩ (.int .i64 (rd_T88 l of).f0)).setCell ⟨gc, 1, none⟩ (.int .i64 (rd_T88 l of).f1)).setCell ⟨gc, 0, none⟩ (.int .i64 (rd_T88 l of).f1)).setCell ⟨gc, 1, none⟩ (.int .i64 (rd_T88 l of).f0)) = w1 at S1 KX ⊢
              have kge0 : w1.cell? ⟨ge, 0, none⟩ = some (.int .i64 2) := (blk_cell S1.out.he 0).trans rfl
              have kge1 : w1.cell? ⟨ge, 1, none⟩ = some (.int .i64 of) := (blk_cell S1.out.he 1).trans rfl
              have kge2 : w1.cell? ⟨ge, 2, none⟩ = some (.int .i64 (-1)) := (blk_cell S1.out.he 2).trans rfl
              have kgs0 : w1.cell? ⟨gs, 0, none⟩ = some (.bool true) := (blk_cell S1.out.hs 0).trans rfl
              have kgs1 : w1.cell? ⟨gs, 1, none⟩ = some (.slice (some ⟨gr, 0, none⟩) ss.length cr) := (blk_cell S1.out.hs 1).trans rfl
              have kgs2 : w1.cell? ⟨gs, 2, none⟩ = some (.slice (some ⟨gb, 0, none⟩) dd.length cd) := (blk_cell S1.out.hs 2).trans rfl
              have kgl0 : w1.cell? ⟨gl, 0, none⟩ = some (.int .i64 n) := (blk_cell S1.out.hl 0).trans rfl
              have kgl1 : w1.cell? ⟨gl, 1, none⟩ = some (.slice (some ad) l.length c) := (blk_cell S1.out.hl 1).trans rfl
              have kc0 : w1.cell? ⟨gc, 0, none⟩ = some (.int .i64 (rd_T88 l of).f1) := (blk_cell KX.out 0).trans rfl
              have kc1 : w1.cell? ⟨gc, 1, none⟩ = some (.int .i64 (rd_T88 l of).f0) := (blk_cell KX.out 1).trans rfl
              go_wp2_with (go_at_call 130; refine (cnt_any _ _ true gs gr ss.length cr _ _ _ _ _ LR0.out S1.out.hs S1.out.H1).mono ?_; rintro e w3 ⟨rfl, hR, hg⟩; have S3 := Aside0.mk (S1.out.sec hR hg); clear hR hg)
              go_meet
              case rel => exact ⟨⟨S3.out⟩, ⟨by unfold doCode; rw [if_pos (by decide), HDO.out]; rfl⟩⟩
      · have lr := lay_rd hl of ho0 ho1
        have ho2 := ho1
        rw [← hnd] at ho1
        obtain ⟨gb, cb, e, _, _, _⟩ := Kd.R_form SA.out.H2 (show 0 < dd.length by omega)
        cases e
        obtain ⟨x0, xf⟩ := bool_at SA.out.H2 of ho0 ho1
        obtain ⟨ad, e, y0, y1⟩ := at_T88 HR.out of ho0 (by omega)
        subst e
        have lr0 : (rd_T88 l of).f0 < (ss.length : Int) := by omega
        have lr1 : (rd_T88 l of).f1 < (ss.length : Int) := by omega
        have LR0 := Aside0.mk lr0
        have LR1 := Aside0.mk lr1
        clear lr lr0 lr1 hl hns hnd hev hln
        have Y0 := Aside0.mk y0
        have Y1 := Aside0.mk y1
        clear y0 y1
        rcases hop with rfl | rfl
        · go_upto_region 17 with fail
          have S1 := Aside0.mk (SA.out.dead of true)
          clear SA ce0 ce1 ce2 cs0 cs1 cs2 cl0 cl1 x0 xf
          generalize wc.setCell ⟨gb, of.toNat, none⟩ (.bool true) = w1 at S1 ⊢
          have kge0 : w1.cell? ⟨ge, 0, none⟩ = some (.int .i64 3) := (blk_cell S1.out.he 0).trans rfl
          have kge1 : w1.cell? ⟨ge, 1, none⟩ = some (.int .i64 of) := (blk_cell S1.out.he 1).trans rfl
          have kge2 : w1.cell? ⟨ge, 2, none⟩ = some (.int .i64 dir) := (blk_cell S1.out.he 2).trans rfl
          have kgs0 : w1.cell? ⟨gs, 0, none⟩ = some (.bool true) := (blk_cell S1.out.hs 0).trans rfl
          have kgs1 : w1.cell? ⟨gs, 1, none⟩ = some (.slice (some ⟨gr, 0, none⟩) ss.length cr) := (blk_cell S1.out.hs 1).trans rfl
          have kgs2 : w1.cell? ⟨gs, 2, none⟩ = some (.slice (some ⟨gb, 0, none⟩) dd.length cd) := (blk_cell S1.out.hs 2).trans rfl
          have kgl0 : w1.cell? ⟨gl, 0, none⟩ = some (.int .i64 n) := (blk_cell S1.out.hl 0).trans rfl
          have kgl1 : w1.cell? ⟨gl, 1, none⟩ = some (.slice (some ad) l.length c) := (blk_cell S1.out.hl 1).trans rfl
          have y0 := pw_cell_below S1.out.hB Y0.out
          have y1 := pw_cell_below S1.out.hB Y1.out
          go_upto_region 18 with (go_at_call 131; refine (lose_any _ true gs gr ss.length cr _ _ _ _ _ LR0.out S1.out.hs S1.out.H1).mono ?_; rintro e w2 ⟨rfl, hR, hg⟩; have S2 := Aside0.mk (S1.out.sec hR hg); clear hR hg)
          clear kge0 kge1 kge2 kgs0 kgs1 kgs2 kgl0 kgl1
          clear y0 y1 S1
          have kge0 : w2.cell? ⟨ge, 0, none⟩ = some (.int .i64 3) := (blk_cell S2.out.he 0).trans rfl
          have kge1 : w2.cell? ⟨ge, 1, none⟩ = some (.int .i64 of) := (blk_cell S2.out.he 1).trans rfl
          have kge2 : w2.cell? ⟨ge, 2, none⟩ = some (.int .i64 dir) := (blk_cell S2.out.he 2).trans rfl
          have kgs0 : w2.cell? ⟨gs, 0, none⟩ = some (.bool true) := (blk_cell S2.out.hs 0).trans rfl
          have kgs1 : w2.cell? ⟨gs, 1, none⟩ = some (.slice (some ⟨gr, 0, none⟩) ss.length cr) := (blk_cell S2.out.hs 1).trans rfl
          have kgs2 : w2.cell? ⟨gs, 2, none⟩ = some (.slice (some ⟨gb, 0, none⟩) dd.length cd) := (blk_cell S2.out.hs 2).trans rfl
          have kgl0 : w2.cell? ⟨gl, 0, none⟩ = some (.int .i64 n) := (blk_cell S2.out.hl 0).trans rfl
          have kgl1 : w2.cell? ⟨gl, 1, none⟩ = some (.slice (some ad) l.length c) := (blk_cell S2.out.hl 1).trans rfl
          have y0 := pw_cell_below S2.out.hB Y0.out
          have y1 := pw_cell_below S2.out.hB Y1.out
          go_wp2_with (go_at_call 131; refine (lose_any _ true gs gr ss.length cr _ _ _ _ _ LR1.out S2.out.hs S2.out.H1).mono ?_; rintro e w3 ⟨rfl, hR, hg⟩; have S3 := Aside0.mk (S2.out.sec hR hg); clear hR hg)
          go_meet
          case rel => exact ⟨⟨S3.out⟩, ⟨rfl⟩⟩
        · go_wp2_with fail
          go_meet
          case rel => exact ⟨⟨SA.out.dead of false⟩, ⟨rfl⟩⟩
      · rw [← hns] at ho1
        obtain ⟨z0, z1, z2, z3, z4, zf0, zf1, zf2, zf3, zf4⟩ := sec_at SA.out.H1 of ho0 ho1
        have hll : l.length ≤ 1048576 := by omega
        have HLL := Aside0.mk hll
        have HND := Aside0.mk hnd
        have HO0 := Aside0.mk ho0
        have HO1 := Aside0.mk ho1
        clear hl hns hnd hev hln hll z0 z1 z2 z3 z4 zf0 zf1 zf2 zf3 zf4
        rcases Bool.eq_false_or_eq_true (deadAt l dd of) with hdo | hdo
        · have HDO := Aside0.mk hdo
          clear hdo
          have HC2 := Aside0.mk (show doCode l ss dd 5 of = 3 by unfold doCode; rw [if_neg (by decide), if_pos rfl, if_pos HDO.out])
          go_upto_region 23 with (go_at_call 98; refine (dead_at of HDO.out (Kd.C_below HR.out SA.out.hB) hc (Kd.R_reads' SA.out.H1).2.2 (Kd.R_reads' SA.out.H1).2.1 (Kd.R_reads' SA.out.H2).2.2 (Kd.R_reads' SA.out.H2).2.1 HLL.out HND.out).mono ?_; rintro e w1 ⟨rfl, hb⟩; have S1 := Aside0.mk (SA.out.up hb); clear hb)
          clear ce0 ce1 ce2 cs0 cs1 cs2 cl0 cl1 SA
          have kge0 : w1.cell? ⟨ge, 0, none⟩ = some (.int .i64 5) := (blk_cell S1.out.he 0).trans rfl
          have kge1 : w1.cell? ⟨ge, 1, none⟩ = some (.int .i64 of) := (blk_cell S1.out.he 1).trans rfl
          have kge2 : w1.cell? ⟨ge, 2, none⟩ = some (.int .i64 dir) := (blk_cell S1.out.he 2).trans rfl
          have kgs0 : w1.cell? ⟨gs, 0, none⟩ = some (.bool true) := (blk_cell S1.out.hs 0).trans rfl
          have kgs1 : w1.cell? ⟨gs, 1, none⟩ = some (.slice (some ⟨gr, 0, none⟩) ss.length cr) := (blk_cell S1.out.hs 1).trans rfl
          have kgs2 : w1.cell? ⟨gs, 2, none⟩ = some (.slice Ad dd.length cd) := (blk_cell S1.out.hs 2).trans rfl
          have kgl0 : w1.cell? ⟨gl, 0, none⟩ = some (.int .i64 n) := (blk_cell S1.out.hl 0).trans rfl
          have kgl1 : w1.cell? ⟨gl, 1, none⟩ = some (.slice A l.length c) := (blk_cell S1.out.hl 1).trans rfl
          have kd0 : w1.cell? ⟨gd, 0, none⟩ = some (.int .i64 0) := (blk_cell S1.out.hd 0).trans rfl
          have kz0 := blk_frozen S1.out.hd 0
          have kd1 : w1.cell? ⟨gd, 1, none⟩ = some (.bool false) := (blk_cell S1.out.hd 1).trans rfl
          have kz1 := blk_frozen S1.out.hd 1
          have kd2 : w1.cell? ⟨gd, 2, none⟩ = some (.slice none 0 0) := (blk_cell S1.out.hd 2).trans rfl
          have kz2 := blk_frozen S1.out.hd 2
          have kd3 : w1.cell? ⟨gd, 3, none⟩ = some (.slice none 0 0) := (blk_cell S1.out.hd 3).trans rfl
          have kz3 := blk_frozen S1.out.hd 3
          go_wp2_with fail
          have SF := S1.out.fill (y0 := .int .i64 3) (y1 := .bool true) (y2 := (.slice (some ⟨gr, 0, none⟩) ss.length cr)) (y3 := (.slice Ad dd.length cd))
          refine bodyPost_ret (results_cell_row rfl _ _ gd 48 _ (0, 0) _ rfl SF.hd Try.underlying48 rfl (by kernel_rfl)) rfl ⟨_, _, by rw [HC2.out], ?_, ?_, SF.hB⟩
          · unfold doSecs; rw [HC2.out]; exact SF.H1
          · unfold doDead; rw [HC2.out]; exact SF.H2
        · have HDO := Aside0.mk hdo
          clear hdo
          go_upto_region 24 with (go_at_call 98; refine (dead_at of HDO.out (Kd.C_below HR.out SA.out.hB) hc (Kd.R_reads' SA.out.H1).2.2 (Kd.R_reads' SA.out.H1).2.1 (Kd.R_reads' SA.out.H2).2.2 (Kd.R_reads' SA.out.H2).2.1 HLL.out HND.out).mono ?_; rintro e w1 ⟨rfl, hb⟩; have S1 := Aside0.mk (SA.out.up hb); clear hb)
          clear ce0 ce1 ce2 cs0 cs1 cs2 cl0 cl1 SA
          have kge0 : w1.cell? ⟨ge, 0, none⟩ = some (.int .i64 5) := (blk_cell S1.out.he 0).trans rfl
          have kge1 : w1.cell? ⟨ge, 1, none⟩ = some (.int .i64 of) := (blk_cell S1.out.he 1).trans rfl
          have kge2 : w1.cell? ⟨ge, 2, none⟩ = some (.int .i64 dir) := (blk_cell S1.out.he 2).trans rfl
          have kgs0 : w1.cell? ⟨gs, 0, none⟩ = some (.bool true) := (blk_cell S1.out.hs 0).trans rfl
          have kgs1 : w1.cell? ⟨gs, 1, none⟩ = some (.slice (some ⟨gr, 0, none⟩) ss.length cr) := (blk_cell S1.out.hs 1).trans rfl
          have kgs2 : w1.cell? ⟨gs, 2, none⟩ = some (.slice Ad dd.length cd) := (blk_cell S1.out.hs 2).trans rfl
          have kgl0 : w1.cell? ⟨gl, 0, none⟩ = some (.int .i64 n) := (blk_cell S1.out.hl 0).trans rfl
          have kgl1 : w1.cell? ⟨gl, 1, none⟩ = some (.slice A l.length c) := (blk_cell S1.out.hl 1).trans rfl
          have ho0 := HO0.out
          have ho1 := HO1.out
          obtain ⟨z0, z1, z2, z3, z4, zf0, zf1, zf2, zf3, zf4⟩ := sec_at S1.out.H1 of ho0 ho1
          by_cases hla : (rd_T50 ss of).f4 = 1
          · have hla1 : ((rd_T50 ss of).f4 == 1) = true := beq_iff_eq.mpr hla
            have HC2 := Aside0.mk (show doCode l ss dd 5 of = 4 by unfold doCode; rw [if_neg (by decide), if_pos rfl, HDO.out, if_neg (by decide), if_pos hla])
            clear hla
            have kd0 : w1.cell? ⟨gd, 0, none⟩ = some (.int .i64 0) := (blk_cell S1.out.hd 0).trans rfl
            have kz0 := blk_frozen S1.out.hd 0
            have kd1 : w1.cell? ⟨gd, 1, none⟩ = some (.bool false) := (blk_cell S1.out.hd 1).trans rfl
            have kz1 := blk_frozen S1.out.hd 1
            have kd2 : w1.cell? ⟨gd, 2, none⟩ = some (.slice none 0 0) := (blk_cell S1.out.hd 2).trans rfl
            have kz2 := blk_frozen S1.out.hd 2
            have kd3 : w1.cell? ⟨gd, 3, none⟩ = some (.slice none 0 0) := (blk_cell S1.out.hd 3).trans rfl
            have kz3 := blk_frozen S1.out.hd 3
            go_wp2_with fail
            have SF := S1.out.fill (y0 := .int .i64 4) (y1 := .bool true) (y2 := (.slice (some ⟨gr, 0, none⟩) ss.length cr)) (y3 := (.slice Ad dd.length cd))
            refine bodyPost_ret (results_cell_row rfl _ _ gd 48 _ (0, 0) _ rfl SF.hd Try.underlying48 rfl (by kernel_rfl)) rfl ⟨_, _, by rw [HC2.out], ?_, ?_, SF.hB⟩
            · unfold doSecs; rw [HC2.out]; exact SF.H1
            · unfold doDead; rw [HC2.out]; exact SF.H2
          · have hla1 : ((rd_T50 ss of).f4 == 1) = false := beq_eq_false_iff_ne.mpr hla
            have HC2 := Aside0.mk (show doCode l ss dd 5 of = 0 by unfold doCode; rw [if_neg (by decide), if_pos rfl, HDO.out, if_neg (by decide), if_neg hla])
            clear hla
            go_wp2_with fail
            go_meet
            case rel =>
              obtain ⟨hR, hg⟩ := ((((SecSt.start S1.out.H1 HO0.out HO1.out).put0 HO0.out HO1.out (u := 0) rfl).put1 HO0.out HO1.out (u := 0) rfl).put2 HO0.out HO1.out (u := false) rfl |>.put3 HO0.out HO1.out (u := true) rfl).put4 HO0.out HO1.out (u := 0) rfl
              exact ⟨⟨S1.out.sec hR hg⟩, HC2⟩
    case rest =>
      obtain ⟨SM, HC0⟩ := hcut
      have HLM := Aside0.mk (midSecs_length l ss op of dir)
      have HLD := Aside0.mk (midDead_length dd op of)
      have HDS := Aside0.mk (show retold l (midDead dd op of) (midSecs l ss op of dir) = doSecs l ss dd op of dir by unfold doSecs; rw [if_pos HC0.out])
      have HDD := Aside0.mk (show midDead dd op of = doDead l ss dd op of by unfold doDead; rw [if_pos HC0.out])
      clear SA ce0 ce1 ce2 cs0 cs1 cs2 cl0 cl1
      generalize midSecs l ss op of dir = ms at SM HLM HDS
      generalize midDead dd op of = md at SM HLD HDS HDD
      have kge0 : wc.cell? ⟨ge, 0, none⟩ = some (.int .i64 op) := (blk_cell SM.out.he 0).trans rfl
      have kge1 : wc.cell? ⟨ge, 1, none⟩ = some (.int .i64 of) := (blk_cell SM.out.he 1).trans rfl
      have kge2 : wc.cell? ⟨ge, 2, none⟩ = some (.int .i64 dir) := (blk_cell SM.out.he 2).trans rfl
      have kgs0 : wc.cell? ⟨gs, 0, none⟩ = some (.bool true) := (blk_cell SM.out.hs 0).trans rfl
      have kgs1 : wc.cell? ⟨gs, 1, none⟩ = some (.slice (some ⟨gr, 0, none⟩) ss.length cr) := (blk_cell SM.out.hs 1).trans rfl
      have kgs2 : wc.cell? ⟨gs, 2, none⟩ = some (.slice Ad dd.length cd) := (blk_cell SM.out.hs 2).trans rfl
      have kgl0 : wc.cell? ⟨gl, 0, none⟩ = some (.int .i64 n) := (blk_cell SM.out.hl 0).trans rfl
      have kgl1 : wc.cell? ⟨gl, 1, none⟩ = some (.slice A l.length c) := (blk_cell SM.out.hl 1).trans rfl
      go_wp2_with fail
      go_loopg [119] ss.length (fun kq v w' => ∃ j : Nat, v = .int .i64 j ∧ Aside0 (j + kq = ss.length) ∧ Aside0 (DoSt w w' gl gs ge gd [.int .i64 n, .slice A l.length c] [.bool true, .slice (some ⟨gr, 0, none⟩) ss.length cr, .slice Ad dd.length cd] [.int .i64 op, .int .i64 of, .int .i64 dir] [.int .i64 0, .bool false, .slice none 0 0, .slice none 0 0] (.slice (some ⟨gr, 0, none⟩) ss.length cr) (.slice Ad dd.length cd) (retoldTo l md ms j) md))
      case atStart => exact ⟨0, rfl, ⟨by omega⟩, ⟨by rw [retoldTo_zero]; exact SM.out⟩⟩
      case round =>
        obtain ⟨j, rfl, HJ, SL⟩ := hrel
        clear kge0 kge1 kge2 kgs0 kgs1 kgs2 kgl0 kgl1
        clear SM
        by_cases hlt : j < ss.length
        · cases gk with
          | zero => exact absurd HJ.out (by omega)
          | succ gk =>
            have hlt' : decide ((j : Int) < (ss.length : Int)) = true := decide_eq_true (by omega)
            have q0 : (0 : Int) ≤ (j : Int) := by omega
            have q1 : (j : Int) < (ss.length : Int) := by omega
            have q2 : ss.length ≤ 60 := by have := lay_n HN.out.1; have := HN.out.2.1; omega
            go_upto_block 2 with fail
            go_cut [11] from 121 to 130 (fun v11 wx => Aside0 (DoSt w wx gl gs ge gd [.int .i64 n, .slice A l.length c] [.bool true, .slice (some ⟨gr, 0, none⟩) ss.length cr, .slice Ad dd.length cd] [.int .i64 op, .int .i64 of, .int .i64 dir] [.int .i64 0, .bool false, .slice none 0 0, .slice none 0 0] (.slice (some ⟨gr, 0, none⟩) ss.length cr) (.slice Ad dd.length cd) (retoldTo l md ms (j + 1)) md))
            case first =>
              have HLL := Aside0.mk (show l.length ≤ 1048576 by have := lay_n HN.out.1; omega)
              have HML := Aside0.mk (show md.length = l.length by rw [HLD.out]; exact HN.out.2.2.1)
              have n1 : gr ≠ gs := fun e => Kd.R_ne SL.out.H1 SL.out.hs (by decide) (by rw [e]; rfl)
              have n2 : gr ≠ gl := fun e => Kd.R_ne SL.out.H1 SL.out.hl (by decide) (by rw [e]; rfl)
              have kgs0 : wr.cell? ⟨gs, 0, none⟩ = some (.bool true) := (blk_cell SL.out.hs 0).trans rfl
              have kgs1 : wr.cell? ⟨gs, 1, none⟩ = some (.slice (some ⟨gr, 0, none⟩) ss.length cr) := (blk_cell SL.out.hs 1).trans rfl
              have kgs2 : wr.cell? ⟨gs, 2, none⟩ = some (.slice Ad dd.length cd) := (blk_cell SL.out.hs 2).trans rfl
              have kgl0 : wr.cell? ⟨gl, 0, none⟩ = some (.int .i64 n) := (blk_cell SL.out.hl 0).trans rfl
              have kgl1 : wr.cell? ⟨gl, 1, none⟩ = some (.slice A l.length c) := (blk_cell SL.out.hl 1).trans rfl
              have SD := Aside0.mk (SL.out.up (below_drew1 (Below.refl _ _)))
              have hln : ss.length = (retoldTo l md ms j).length := by rw [retoldTo_length, HLM.out]
              have HLN := Aside0.mk hln
              have HLM2 := Aside0.mk (show dd.length = md.length from HLD.out.symm)
              clear hln
              go_upto_region 31 with fail
              go_region_held3 (fun w' => w'.cell? ⟨gl, 0, none⟩ = some (.int .i64 n) ∧ w'.cell? ⟨gl, 1, none⟩ = some (.slice A l.length c) ∧ w'.cell? ⟨gs, 0, none⟩ = some (.bool true) ∧ w'.cell? ⟨gs, 1, none⟩ = some (.slice (some ⟨gr, 0, none⟩) ss.length cr) ∧ w'.cell? ⟨gs, 2, none⟩ = some (.slice Ad dd.length cd))
                (first | go_keep | (go_split_ands; (repeat' apply And.intro) <;> (refine pw_cell_below hb ?_; assumption)) | (go_split_ands; (repeat' apply And.intro) <;> (rw [World.cell?_setCell_far _ _ _ _ (by assumption)]; assumption)))
                (first | (go_at_call 97; refine (told_of (j : Int) (Kd.C_below HR.out SD.out.hB) hc SD.out.H1 SD.out.H2 HLN.out HLM2.out HLL.out HML.out q0 q1).mono ?_; rintro e w' ⟨rfl, hb⟩; have S2 := Aside0.mk (SD.out.up hb); obtain ⟨z0, z1, z2, z3, z4, zf0, zf1, zf2, zf3, zf4⟩ := sec_at S2.out.H1 (j : Int) q0 q1; rw [Int.toNat_natCast] at z0 zf0; clear z1 z2 z3 z4 zf1 zf2 zf3 zf4))
              all_goals (go_wp2_with fail; go_meet)
              obtain ⟨hR, hg⟩ := (SecSt.start S2.out.H1 q0 q1).put0 q0 q1 (u := toldC l md (j : Int) (rd_T50 (retoldTo l md ms j) (j : Int))) (show j * 5 = (j : Int).toNat * 5 + 0 by rw [Int.toNat_natCast, Nat.add_zero])
              rw [retold_step l md ms j (by rw [HLM.out]; exact hlt)] at hR
              exact ⟨S2.out.sec hR hg⟩
            case rest =>
              go_wp2_with fail
              go_roundg gk
              case measure => omega
              case rel => exact ⟨j + 1, by go_num, ⟨by have := HJ.out; omega⟩, hcut⟩
        · have hlt' : decide ((j : Int) < (ss.length : Int)) = false := decide_eq_false (by omega)
          have hj : j = ss.length := by have := HJ.out; omega
          have hre : retoldTo l md ms j = retold l md ms := by rw [retold, HLM.out, hj]
          have SF0 := Aside0.mk (show DoSt w wr gl gs ge gd [.int .i64 n, .slice A l.length c] [.bool true, .slice (some ⟨gr, 0, none⟩) ss.length cr, .slice Ad dd.length cd] [.int .i64 op, .int .i64 of, .int .i64 dir] [.int .i64 0, .bool false, .slice none 0 0, .slice none 0 0] (.slice (some ⟨gr, 0, none⟩) ss.length cr) (.slice Ad dd.length cd) (doSecs l ss dd op of dir) (doDead l ss dd op of) by rw [← HDS.out, ← HDD.out, ← hre]; exact SL.out)
          clear hj hre SL
          have kgs0 : wr.cell? ⟨gs, 0, none⟩ = some (.bool true) := (blk_cell SF0.out.hs 0).trans rfl
          have kgs1 : wr.cell? ⟨gs, 1, none⟩ = some (.slice (some ⟨gr, 0, none⟩) ss.length cr) := (blk_cell SF0.out.hs 1).trans rfl
          have kgs2 : wr.cell? ⟨gs, 2, none⟩ = some (.slice Ad dd.length cd) := (blk_cell SF0.out.hs 2).trans rfl
          have kd0 : wr.cell? ⟨gd, 0, none⟩ = some (.int .i64 0) := (blk_cell SF0.out.hd 0).trans rfl
          have kz0 := blk_frozen SF0.out.hd 0
          have kd1 : wr.cell? ⟨gd, 1, none⟩ = some (.bool false) := (blk_cell SF0.out.hd 1).trans rfl
          have kz1 := blk_frozen SF0.out.hd 1
          have kd2 : wr.cell? ⟨gd, 2, none⟩ = some (.slice none 0 0) := (blk_cell SF0.out.hd 2).trans rfl
          have kz2 := blk_frozen SF0.out.hd 2
          have kd3 : wr.cell? ⟨gd, 3, none⟩ = some (.slice none 0 0) := (blk_cell SF0.out.hd 3).trans rfl
          have kz3 := blk_frozen SF0.out.hd 3
          go_wp2_with fail
          have SF := SF0.out.fill (y0 := .int .i64 0) (y1 := .bool true) (y2 := (.slice (some ⟨gr, 0, none⟩) ss.length cr)) (y3 := (.slice Ad dd.length cd))
          exact bodyPost_ret (results_cell_row rfl _ _ gd 48 _ (0, 0) _ rfl SF.hd Try.underlying48 rfl (by kernel_rfl)) rfl ⟨_, _, by rw [HC0.out], SF.H1, SF.H2, SF.hB⟩
end Go.Proofs.Ytpdnabhpkdchjaa.P
namespace Go.Proofs.Ytpdnabhpkdchjaa.P
open Go.RowKit Go.Proofs.YtpdnabhpkdchjaaW.PrintWords Go.Proofs.YtpdnabhpkdchjaaW.PrintLast Go.Proofs.YtpdnabhpkdchjaaW.PrintMore
attribute [local go_sem] max2_int min2_int max_two min_two max_three min_three max_four min_four
set_option linter.unusedVariables false
set_option linter.unusedSimpArgs false
mutual
def spec_l2copy.l0:Nat→List (S50)→Int→Int→Bool→List (S50)→List Bool→Bool→List (S50)→Option (Bool × (List (S50)) × List Bool)
 | 0,_,_,_,_,_,_,_,_=>none
 | k+1,x12,x13,x14,x254000,x254001,x254002,x256000,x256001=>if x14<x13 then (if 0≤x14 then (if x14<(x12.length:Int) then (if x256001.length<4398046511104 then (spec_l2copy.l0 k x12 x13 (wrap64 (x14+1)) x254000 x254001 x254002 x256000 (x256001 ++ [(⟨(rd_T50 x12 x14).f0,(rd_T50 x12 x14).f1,(rd_T50 x12 x14).f2,(rd_T50 x12 x14).f3,(rd_T50 x12 x14).f4⟩:S50)])) else (none)) else (none)) else (none)) else (spec_l2copy.l1 k x254002 (x254002.length:Int) 0 x256000 x256001 ([]:List Bool))
def spec_l2copy.l1:Nat→List Bool→Int→Int→Bool→List (S50)→List Bool→Option (Bool × (List (S50)) × List Bool)
 | 0,_,_,_,_,_,_=>none
 | k+1,x26,x27,x28,x256000,x256001,x256002=>if x28<x27 then (if 0≤x28 then (if x28<(x26.length:Int) then (if x256002.length<140737488355328 then (spec_l2copy.l1 k x26 x27 (wrap64 (x28+1)) x256000 x256001 (x256002 ++ [rdOf false x26 x28])) else (none)) else (none)) else (none)) else (some (x256000,x256001,x256002))
end
def spec_l2copy.f (k:Nat) (a0_0:Bool) (l0_1:List (S50)) (l0_2:List Bool):Option (Bool × (List (S50)) × List Bool):=spec_l2copy.l0 k l0_1 (l0_1.length:Int) 0 a0_0 l0_1 l0_2 a0_0 ([]:List (S50))
set_option maxHeartbeats 8000000 in
set_option maxRecDepth 100000 in
theorem spec_l2copy.calls (k:Nat) (a0_0:Bool) (A0_1:Option Addr) (c0_1:Nat) (l0_1:List (S50)) (A0_2:Option Addr) (c0_2:Nat) (l0_2:List Bool) (r1:Bool) (r2:List (S50)) (r3:List Bool) (w:World) (hr0_1:Kd.C k50 w A0_1 l0_1.length l0_1) (hc0_1:l0_1.length≤c0_1) (hr0_2:Kd.C Kd.bool w A0_2 l0_2.length l0_2) (hc0_2:l0_2.length≤c0_2) (h:spec_l2copy.f k a0_0 l0_1 l0_2=some (r1,r2,r3)) :
  Calls Try.prog 93 #[.agg #[.bool a0_0,.slice A0_1 l0_1.length c0_1,.slice A0_2 l0_2.length c0_2]] w fun e w'=>∃ v1_ v2_:Value,e=.returned (.agg #[.bool r1,v1_,v2_])∧Kd.R k50 50 w' w.heap.size (fun _=>True) v1_ r2∧Kd.R Kd.bool 4 w' w.heap.size (fun _=>True) v2_ r3∧Below w.heap.size w w':=by
 have hu46:=Try.underlying46
 have hu50:=Try.underlying50
 have HR0_1:=Aside0.mk hr0_1
 have HC0_1:=Aside0.mk hc0_1
 clear hr0_1 hc0_1
 have HR0_2:=Aside0.mk hr0_2
 have HC0_2:=Aside0.mk hc0_2
 clear hr0_2 hc0_2
 have HB:=Aside0.mk (Below.refl w.heap.size w)
 have H:(spec_l2copy.l0 k l0_1 (l0_1.length:Int) 0 a0_0 l0_1 l0_2 a0_0 ([]:List (S50)))=some (r1,r2,r3):=h
 clear h
 have H':=Aside0.mk H
 clear H
 go_enter Try.func93,Try.ntmps93
 go_wp2_with (first|((with_reducible refine gate_dst (N:=1) rfl ?_);refine box_event ?hg (N:=1) ?hd (cs:=#[.bool a0_0,.slice A0_1 l0_1.length c0_1,.slice A0_2 l0_2.length c0_2]) (t:=46) ?hr ?_;(case hd=>rfl);(case hg=>rfl);(case hr=>first|(go_simp;done)|(go_simp;rfl));intro gb253 hg w2 hbox hb;have n0_:=Aside0.mk (below_step (by repeat (first|(with_reducible first|exact HB.out|apply below_alloc|apply pw_below_drewN|apply below_drew1)|exact HB.out)) hb);have n1_:=Aside0.mk (hbox);have n2_:=Aside0.mk ((by rw [hg];exact (below_size (by repeat (first|(with_reducible first|exact HB.out|apply below_alloc|apply pw_below_drewN|apply below_drew1)|exact HB.out))):w.heap.size≤gb253));have n3_:=Aside0.mk ((by rw [hg];exact (below_size (by repeat (first|(with_reducible first|exact HB.out|apply below_alloc|apply pw_below_drewN|apply below_drew1)|exact HB.out))):w.heap.size≤gb253));clear HB;have HB:=n0_;have BK253:=n1_;have GW253:=n2_;have GE253:=n3_;clear n0_ n1_ n2_ n3_;clear hb hbox hg)|((with_reducible refine gate_dst (N:=2) rfl ?_);refine box_event ?hg (N:=2) ?hd (cs:=#[.bool false,.slice none 0 0,.slice none 0 0]) (t:=46) ?hr ?_;(case hd=>rfl);(case hg=>rfl);(case hr=>first|(go_simp;done)|(go_simp;rfl));intro gb254 hg w3 hbox hb;have n0_:=Aside0.mk (blk_below (g:=gb253) (o:=.cells #[.bool a0_0,.slice A0_1 l0_1.length c0_1,.slice A0_2 l0_2.length c0_2] 46 (0,0)) (by (with_reducible repeat (first|refine blk_drewN ?_ _|refine blk_drew ?_|refine blk_alloc ?_ _));exact BK253.out) hb);have n1_:=Aside0.mk (below_step (by repeat (first|(with_reducible first|exact HB.out|apply below_alloc|apply pw_below_drewN|apply below_drew1|refine below_set ?_ GE253.out)|exact HB.out)) hb);have n2_:=Aside0.mk (hbox);have n3_:=Aside0.mk ((by rw [hg];exact (below_size (by repeat (first|(with_reducible first|exact HB.out|apply below_alloc|apply pw_below_drewN|apply below_drew1|refine below_set ?_ GE253.out)|exact HB.out))):w.heap.size≤gb254));have n4_:=Aside0.mk ((by rw [hg];exact (below_size (by repeat (first|(with_reducible first|exact HB.out|apply below_alloc|apply pw_below_drewN|apply below_drew1|refine below_set ?_ GE253.out)|exact HB.out))):w.heap.size≤gb254));have n5_:=Aside0.mk ((by rw [hg];exact Nat.ne_of_lt (blk_lt (g:=gb253) (o:=.cells #[.bool a0_0,.slice A0_1 l0_1.length c0_1,.slice A0_2 l0_2.length c0_2] 46 (0,0)) (by (with_reducible repeat (first|refine blk_drewN ?_ _|refine blk_drew ?_|refine blk_alloc ?_ _));exact BK253.out)):gb253 ≠ gb254));have n6_:=Aside0.mk ((by rw [hg];exact Nat.ne_of_gt (blk_lt (g:=gb253) (o:=.cells #[.bool a0_0,.slice A0_1 l0_1.length c0_1,.slice A0_2 l0_2.length c0_2] 46 (0,0)) (by (with_reducible repeat (first|refine blk_drewN ?_ _|refine blk_drew ?_|refine blk_alloc ?_ _));exact BK253.out)):gb254 ≠ gb253));clear BK253;clear HB;have BK253:=n0_;have HB:=n1_;have BK254:=n2_;have GW254:=n3_;have GE254:=n4_;have NB253_254:=n5_;have NB254_253:=n6_;clear n0_ n1_ n2_ n3_ n4_ n5_ n6_;clear hb hbox hg;have hnb4:=NB253_254.out;have hnc4:=NB254_253.out;have hcz5_0:w3.cell? ⟨gb253,0,none⟩=some (.bool a0_0):=(blk_cell BK253.out 0).trans rfl;have hcz5_1:w3.cell? ⟨gb253,1,none⟩=some (.slice A0_1 l0_1.length c0_1):=(blk_cell BK253.out 1).trans rfl;have hcz5_2:w3.cell? ⟨gb253,2,none⟩=some (.slice A0_2 l0_2.length c0_2):=(blk_cell BK253.out 2).trans rfl;have hfz5_0:=blk_frozen BK253.out 0;have hfz5_1:=blk_frozen BK253.out 1;have hfz5_2:=blk_frozen BK253.out 2)|((with_reducible refine gate_dst (N:=3) rfl ?_);refine box_event ?hg (N:=3) ?hd (cs:=#[.bool false,.slice none 0 0,.slice none 0 0]) (t:=46) ?hr ?_;(case hd=>rfl);(case hg=>rfl);(case hr=>first|(go_simp;done)|(go_simp;rfl));intro gb255 hg w6 hbox hb;have n0_:=Aside0.mk (blk_below (g:=gb253) (o:=.cells #[.bool a0_0,.slice A0_1 l0_1.length c0_1,.slice A0_2 l0_2.length c0_2] 46 (0,0)) (by (with_reducible repeat (first|refine blk_drewN ?_ _|refine blk_drew ?_|refine blk_alloc ?_ _));exact BK253.out) hb);have n1_:=Aside0.mk (blk_below (g:=gb254) (o:=.cells #[.bool false,.slice none 0 0,.slice none 0 0] 46 (0,0)) (by (with_reducible repeat (first|refine blk_drewN ?_ _|refine blk_drew ?_|refine blk_alloc ?_ _));exact BK254.out) hb);have n2_:=Aside0.mk (below_step (by repeat (first|(with_reducible first|exact HB.out|apply below_alloc|apply pw_below_drewN|apply below_drew1|refine below_set ?_ GE253.out|refine below_set ?_ GE254.out)|exact HB.out)) hb);have n3_:=Aside0.mk (hbox);have n4_:=Aside0.mk ((by rw [hg];exact (below_size (by repeat (first|(with_reducible first|exact HB.out|apply below_alloc|apply pw_below_drewN|apply below_drew1|refine below_set ?_ GE253.out|refine below_set ?_ GE254.out)|exact HB.out))):w.heap.size≤gb255));have n5_:=Aside0.mk ((by rw [hg];exact (below_size (by repeat (first|(with_reducible first|exact HB.out|apply below_alloc|apply pw_below_drewN|apply below_drew1|refine below_set ?_ GE253.out|refine below_set ?_ GE254.out)|exact HB.out))):w.heap.size≤gb255));have n6_:=Aside0.mk ((by rw [hg];exact Nat.ne_of_lt (blk_lt (g:=gb253) (o:=.cells #[.bool a0_0,.slice A0_1 l0_1.length c0_1,.slice A0_2 l0_2.length c0_2] 46 (0,0)) (by (with_reducible repeat (first|refine blk_drewN ?_ _|refine blk_drew ?_|refine blk_alloc ?_ _));exact BK253.out)):gb253 ≠ gb255));have n7_:=Aside0.mk ((by rw [hg];exact Nat.ne_of_gt (blk_lt (g:=gb253) (o:=.cells #[.bool a0_0,.slice A0_1 l0_1.length c0_1,.slice A0_2 l0_2.length c0_2] 46 (0,0)) (by (with_reducible repeat (first|refine blk_drewN ?_ _|refine blk_drew ?_|refine blk_alloc ?_ _));exact BK253.out)):gb255 ≠ gb253));have n8_:=Aside0.mk ((by rw [hg];exact Nat.ne_of_lt (blk_lt (g:=gb254) (o:=.cells #[.bool false,.slice none 0 0,.slice none 0 0] 46 (0,0)) (by (with_reducible repeat (first|refine blk_drewN ?_ _|refine blk_drew ?_|refine blk_alloc ?_ _));exact BK254.out)):gb254 ≠ gb255));have n9_:=Aside0.mk ((by rw [hg];exact Nat.ne_of_gt (blk_lt (g:=gb254) (o:=.cells #[.bool false,.slice none 0 0,.slice none 0 0] 46 (0,0)) (by (with_reducible repeat (first|refine blk_drewN ?_ _|refine blk_drew ?_|refine blk_alloc ?_ _));exact BK254.out)):gb255 ≠ gb254));clear BK253;clear BK254;clear HB;have BK253:=n0_;have BK254:=n1_;have HB:=n2_;have BK255:=n3_;have GW255:=n4_;have GE255:=n5_;have NB253_255:=n6_;have NB255_253:=n7_;have NB254_255:=n8_;have NB255_254:=n9_;clear n0_ n1_ n2_ n3_ n4_ n5_ n6_ n7_ n8_ n9_;clear hb hbox hg;have hnb7:=NB255_253.out;have hnc7:=NB253_255.out;have hnb8:=NB255_254.out;have hnc8:=NB254_255.out;have hcz9_0:w6.cell? ⟨gb255,0,none⟩=some (.bool false):=(blk_cell BK255.out 0).trans rfl;have hcz9_1:w6.cell? ⟨gb255,1,none⟩=some (.slice none 0 0):=(blk_cell BK255.out 1).trans rfl;have hcz9_2:w6.cell? ⟨gb255,2,none⟩=some (.slice none 0 0):=(blk_cell BK255.out 2).trans rfl;have hfz9_0:=blk_frozen BK255.out 0;have hfz9_1:=blk_frozen BK255.out 1;have hfz9_2:=blk_frozen BK255.out 2;have hcz10_0:w6.cell? ⟨gb253,0,none⟩=some (.bool a0_0):=(blk_cell BK253.out 0).trans rfl;have hcz10_1:w6.cell? ⟨gb253,1,none⟩=some (.slice A0_1 l0_1.length c0_1):=(blk_cell BK253.out 1).trans rfl;have hcz10_2:w6.cell? ⟨gb253,2,none⟩=some (.slice A0_2 l0_2.length c0_2):=(blk_cell BK253.out 2).trans rfl;have hfz10_0:=blk_frozen BK253.out 0;have hfz10_1:=blk_frozen BK253.out 1;have hfz10_2:=blk_frozen BK253.out 2))
 go_loopg [14] k (fun kq v14 w'=>∃ (x14_1:Int) (x256001_1:List (S50)) (u256001:Value),v14=.int .i64 x14_1∧Aside0 (spec_l2copy.l0 kq l0_1 (l0_1.length:Int) x14_1 a0_0 l0_1 l0_2 a0_0 x256001_1=some (r1,r2,r3))∧Aside0 (kq≤k)∧Aside0 (Kd.R k50 50 w' w.heap.size (fun _=>True) u256001 x256001_1)∧Aside0 (w'.heap[gb253]?=some (.cells #[.bool a0_0,(.slice A0_1 l0_1.length c0_1),(.slice A0_2 l0_2.length c0_2)] 46 (0,0)))∧Aside0 (w'.heap[gb254]?=some (.cells #[.bool false,(.slice none 0 0),(.slice none 0 0)] 46 (0,0)))∧Aside0 (w'.heap[gb255]?=some (.cells #[.bool a0_0,u256001,(.slice none 0 0)] 46 (0,0)))∧Aside0 (Below w.heap.size w w'))
 case atStart=>exact ⟨(0),(([]:List (S50))),(.slice none 0 0),(by first|rfl|(simp;done)|(simp [*];done)),H',⟨Nat.le_refl _⟩,⟨by first|exact Kd.R_nil _ _ _ _ _|exact Kd.N_nil _ _ _ _ _|exact Kd.V_nil _ _ _ _ _|exact Kd.Q_nil _ _ _ _ _|exact Kd.S_nil _ _ _ _ _⟩,⟨by (with_reducible repeat (first|refine blk_drewN ?_ _|refine blk_drew ?_|refine blk_alloc ?_ _));refine blk_far ?_ NB253_255.out _;(with_reducible repeat (first|refine blk_drewN ?_ _|refine blk_drew ?_|refine blk_alloc ?_ _));refine blk_far ?_ NB253_255.out _;(with_reducible repeat (first|refine blk_drewN ?_ _|refine blk_drew ?_|refine blk_alloc ?_ _));refine blk_far ?_ NB253_255.out _;(with_reducible repeat (first|refine blk_drewN ?_ _|refine blk_drew ?_|refine blk_alloc ?_ _));exact BK253.out⟩,⟨by (with_reducible repeat (first|refine blk_drewN ?_ _|refine blk_drew ?_|refine blk_alloc ?_ _));refine blk_far ?_ NB254_255.out _;(with_reducible repeat (first|refine blk_drewN ?_ _|refine blk_drew ?_|refine blk_alloc ?_ _));refine blk_far ?_ NB254_255.out _;(with_reducible repeat (first|refine blk_drewN ?_ _|refine blk_drew ?_|refine blk_alloc ?_ _));refine blk_far ?_ NB254_255.out _;(with_reducible repeat (first|refine blk_drewN ?_ _|refine blk_drew ?_|refine blk_alloc ?_ _));exact BK254.out⟩,⟨by (with_reducible repeat (first|refine blk_drewN ?_ _|refine blk_drew ?_|refine blk_alloc ?_ _));refine blk_put (cs:=#[.bool a0_0,.slice none 0 0,.slice none 0 0]) ?_ 2 _ rfl;(with_reducible repeat (first|refine blk_drewN ?_ _|refine blk_drew ?_|refine blk_alloc ?_ _));refine blk_put (cs:=#[.bool a0_0,.slice none 0 0,.slice none 0 0]) ?_ 1 _ rfl;(with_reducible repeat (first|refine blk_drewN ?_ _|refine blk_drew ?_|refine blk_alloc ?_ _));refine blk_put (cs:=#[.bool false,.slice none 0 0,.slice none 0 0]) ?_ 0 _ rfl;(with_reducible repeat (first|refine blk_drewN ?_ _|refine blk_drew ?_|refine blk_alloc ?_ _));exact BK255.out⟩,⟨by repeat (first|(with_reducible first|exact HB.out|apply below_alloc|apply pw_below_drewN|apply below_drew1|refine below_set ?_ GE253.out|refine below_set ?_ GE254.out|refine below_set ?_ GE255.out)|exact HB.out)⟩⟩
 case round =>
  clear H'
  try clear p2
  try clear c4
  try clear c7
  try clear c8
  try clear c9
  try clear hcz10_0
  try clear hcz10_1
  try clear hcz10_2
  try clear hcz5_0
  try clear hcz5_1
  try clear hcz5_2
  try clear hcz9_0
  try clear hcz9_1
  try clear hcz9_2
  try clear hfz10_0
  try clear hfz10_1
  try clear hfz10_2
  try clear hfz5_0
  try clear hfz5_1
  try clear hfz5_2
  try clear hfz9_0
  try clear hfz9_1
  try clear hfz9_2
  obtain ⟨x14_1,x256001_1,u256001,rfl,HA,HK1,HO_256001,BK253,BK254,BK255,HB⟩:=hrel
  cases gk with
  | zero=>exact absurd HA.out (by simp [spec_l2copy.l0])
  | succ k1 =>
   have H:=HA.out
   clear HA
   simp only [spec_l2copy.l0] at H
   by_cases c11:x14_1<(l0_1.length:Int)
   ·rw [if_pos c11] at H
    have c11b0:decide (x14_1<(l0_1.length:Int))=true:=decide_eq_true c11
    clear c11
    by_cases c12:0≤x14_1
    ·rw [if_pos c12] at H
     have c12b0:decide (0≤x14_1)=true:=decide_eq_true c12
     clear c12
     by_cases c13:x14_1<(l0_1.length:Int)
     ·rw [if_pos c13] at H
      have c13b0:decide (x14_1<(l0_1.length:Int))=true:=decide_eq_true c13
      clear c13
      by_cases c14:x256001_1.length<4398046511104
      ·rw [if_pos c14] at H
       have LMc14:=Aside0.mk c14
       clear c14
       obtain ⟨y258,hy258⟩:∃ y_:List (S50),y_=(x256001_1 ++ [(⟨(rd_T50 l0_1 x14_1).f0,(rd_T50 l0_1 x14_1).f1,(rd_T50 l0_1 x14_1).f2,(rd_T50 l0_1 x14_1).f3,(rd_T50 l0_1 x14_1).f4⟩:S50)]):=⟨_,rfl⟩
       replace H:(spec_l2copy.l0 k1 l0_1 (l0_1.length:Int) (wrap64 (x14_1+1)) a0_0 l0_1 l0_2 a0_0 y258)=some (r1,r2,r3):=by first|(rw [hy258];with_reducible exact H)|(have H2_:=(Option.bind_some _ _).symm.trans H;rw [hy258];with_reducible exact H2_)|(have H2_:=(Option.bind_some _ _).symm.trans H;with_reducible exact H2_)|with_reducible exact H|(rw [hy258];exact H)|exact H
       have Ny258:=Aside0.mk hy258
       clear hy258
       have H':=Aside0.mk H
       clear H
       have p256:0≤(x14_1:Int):=of_decide_eq_true (by first|(with_reducible assumption)|assumption)
       have q256:x14_1<(l0_1.length:Int):=of_decide_eq_true (by first|(with_reducible assumption)|assumption)
       obtain ⟨ad256,e256,hx256_0,hx256_1,hx256_2,hx256_3,hx256_4⟩:=at_T50 HR0_1.out x14_1 p256 q256
       cases e256
       replace hx256_0:=(HB.out.cell (World.block_lt_of_cell? w _ hx256_0)).trans hx256_0
       replace hx256_1:=(HB.out.cell (World.block_lt_of_cell? w _ hx256_1)).trans hx256_1
       replace hx256_2:=(HB.out.cell (World.block_lt_of_cell? w _ hx256_2)).trans hx256_2
       replace hx256_3:=(HB.out.cell (World.block_lt_of_cell? w _ hx256_3)).trans hx256_3
       replace hx256_4:=(HB.out.cell (World.block_lt_of_cell? w _ hx256_4)).trans hx256_4
       replace p256:=eq_true p256
       replace q256:=eq_true q256
       go_wp2_with (first|((with_reducible refine gate_dst (N:=5) rfl ?_);refine box_event ?hg (N:=5) ?hd (cs:=#[.int .i64 0,.int .i64 0,.bool false,.bool false,.int .i64 0]) (t:=50) ?hr ?_;(case hd=>rfl);(case hg=>rfl);(case hr=>first|(go_simp;done)|(go_simp;rfl));intro gb257 hg w15 hbox hb;have n0_:=Aside0.mk (Kd.R_below (Kd.R_elderB (by (with_reducible repeat (first|apply Kd.R_alloc|apply Kd.R_drewN|apply Kd.R_drew));exact HO_256001.out) gb257 (Nat.le_of_eq hg.symm)) hb);have n1_:=Aside0.mk (blk_below (g:=gb253) (o:=.cells #[.bool a0_0,.slice (some ad256) l0_1.length c0_1,.slice A0_2 l0_2.length c0_2] 46 (0,0)) (by (with_reducible repeat (first|refine blk_drewN ?_ _|refine blk_drew ?_|refine blk_alloc ?_ _));exact BK253.out) hb);have n2_:=Aside0.mk (blk_below (g:=gb254) (o:=.cells #[.bool false,.slice none 0 0,.slice none 0 0] 46 (0,0)) (by (with_reducible repeat (first|refine blk_drewN ?_ _|refine blk_drew ?_|refine blk_alloc ?_ _));exact BK254.out) hb);have n3_:=Aside0.mk (blk_below (g:=gb255) (o:=.cells #[.bool a0_0,u256001,.slice none 0 0] 46 (0,0)) (by (with_reducible repeat (first|refine blk_drewN ?_ _|refine blk_drew ?_|refine blk_alloc ?_ _));exact BK255.out) hb);have n4_:=Aside0.mk (below_step (by repeat (first|(with_reducible first|exact HB.out|apply below_alloc|apply pw_below_drewN|apply below_drew1|refine below_set ?_ GE253.out|refine below_set ?_ GE254.out|refine below_set ?_ GE255.out)|exact HB.out)) hb);have n5_:=Aside0.mk (hbox);have n6_:=Aside0.mk ((by rw [hg];exact (below_size (by repeat (first|(with_reducible first|exact HB.out|apply below_alloc|apply pw_below_drewN|apply below_drew1|refine below_set ?_ GE253.out|refine below_set ?_ GE254.out|refine below_set ?_ GE255.out)|exact HB.out))):w.heap.size≤gb257));have n7_:=Aside0.mk ((by rw [hg];exact (below_size (by repeat (first|(with_reducible first|exact HB.out|apply below_alloc|apply pw_below_drewN|apply below_drew1|refine below_set ?_ GE253.out|refine below_set ?_ GE254.out|refine below_set ?_ GE255.out)|exact HB.out))):w.heap.size≤gb257));have n8_:=Aside0.mk ((by rw [hg];exact Nat.ne_of_lt (blk_lt (g:=gb253) (o:=.cells #[.bool a0_0,.slice (some ad256) l0_1.length c0_1,.slice A0_2 l0_2.length c0_2] 46 (0,0)) (by (with_reducible repeat (first|refine blk_drewN ?_ _|refine blk_drew ?_|refine blk_alloc ?_ _));exact BK253.out)):gb253 ≠ gb257));have n9_:=Aside0.mk ((by rw [hg];exact Nat.ne_of_gt (blk_lt (g:=gb253) (o:=.cells #[.bool a0_0,.slice (some ad256) l0_1.length c0_1,.slice A0_2 l0_2.length c0_2] 46 (0,0)) (by (with_reducible repeat (first|refine blk_drewN ?_ _|refine blk_drew ?_|refine blk_alloc ?_ _));exact BK253.out)):gb257 ≠ gb253));have n10_:=Aside0.mk ((by rw [hg];exact Nat.ne_of_lt (blk_lt (g:=gb254) (o:=.cells #[.bool false,.slice none 0 0,.slice none 0 0] 46 (0,0)) (by (with_reducible repeat (first|refine blk_drewN ?_ _|refine blk_drew ?_|refine blk_alloc ?_ _));exact BK254.out)):gb254 ≠ gb257));have n11_:=Aside0.mk ((by rw [hg];exact Nat.ne_of_gt (blk_lt (g:=gb254) (o:=.cells #[.bool false,.slice none 0 0,.slice none 0 0] 46 (0,0)) (by (with_reducible repeat (first|refine blk_drewN ?_ _|refine blk_drew ?_|refine blk_alloc ?_ _));exact BK254.out)):gb257 ≠ gb254));have n12_:=Aside0.mk ((by rw [hg];exact Nat.ne_of_lt (blk_lt (g:=gb255) (o:=.cells #[.bool a0_0,u256001,.slice none 0 0] 46 (0,0)) (by (with_reducible repeat (first|refine blk_drewN ?_ _|refine blk_drew ?_|refine blk_alloc ?_ _));exact BK255.out)):gb255 ≠ gb257));have n13_:=Aside0.mk ((by rw [hg];exact Nat.ne_of_gt (blk_lt (g:=gb255) (o:=.cells #[.bool a0_0,u256001,.slice none 0 0] 46 (0,0)) (by (with_reducible repeat (first|refine blk_drewN ?_ _|refine blk_drew ?_|refine blk_alloc ?_ _));exact BK255.out)):gb257 ≠ gb255));clear HO_256001;clear BK253;clear BK254;clear BK255;clear HB;have HO_256001:=n0_;have BK253:=n1_;have BK254:=n2_;have BK255:=n3_;have HB:=n4_;have BK257:=n5_;have GW257:=n6_;have GE257:=n7_;have NB253_257:=n8_;have NB257_253:=n9_;have NB254_257:=n10_;have NB257_254:=n11_;have NB255_257:=n12_;have NB257_255:=n13_;clear n0_ n1_ n2_ n3_ n4_ n5_ n6_ n7_ n8_ n9_ n10_ n11_ n12_ n13_;clear hb hbox hg;have hnb16:=NB257_253.out;have hnc16:=NB253_257.out;have hnb17:=NB257_254.out;have hnc17:=NB254_257.out;have hnb18:=NB257_255.out;have hnc18:=NB255_257.out;have hcz19_0:w15.cell? ⟨gb257,0,none⟩=some (.int .i64 0):=(blk_cell BK257.out 0).trans rfl;have hcz19_1:w15.cell? ⟨gb257,1,none⟩=some (.int .i64 0):=(blk_cell BK257.out 1).trans rfl;have hcz19_2:w15.cell? ⟨gb257,2,none⟩=some (.bool false):=(blk_cell BK257.out 2).trans rfl;have hcz19_3:w15.cell? ⟨gb257,3,none⟩=some (.bool false):=(blk_cell BK257.out 3).trans rfl;have hcz19_4:w15.cell? ⟨gb257,4,none⟩=some (.int .i64 0):=(blk_cell BK257.out 4).trans rfl;have hfz19_0:=blk_frozen BK257.out 0;have hfz19_1:=blk_frozen BK257.out 1;have hfz19_2:=blk_frozen BK257.out 2;have hfz19_3:=blk_frozen BK257.out 3;have hfz19_4:=blk_frozen BK257.out 4;have hnb20:=NB255_253.out;have hnc20:=NB253_255.out;have hnb21:=NB255_254.out;have hnc21:=NB254_255.out;have hcz22_0:w15.cell? ⟨gb255,0,none⟩=some (.bool a0_0):=(blk_cell BK255.out 0).trans rfl;have hcz22_1:w15.cell? ⟨gb255,1,none⟩=some (u256001):=(blk_cell BK255.out 1).trans rfl;have hcz22_2:w15.cell? ⟨gb255,2,none⟩=some (.slice none 0 0):=(blk_cell BK255.out 2).trans rfl;have hfz22_0:=blk_frozen BK255.out 0;have hfz22_1:=blk_frozen BK255.out 1;have hfz22_2:=blk_frozen BK255.out 2)|((with_reducible refine gate_builtin (b:=.append) (xs:=#[.tmp 19,.tmp 21]) rfl ?_);at_builtin;refine Kd.R_append k50 (w0:=w) w.heap.size rfl (.tmp 19) (.tmp 21) 43 50 (.agg #[(.int .i64 0),(.int .i64 0),(.bool false),(.bool false),(.int .i64 0)]) 32 rfl Try.underlying43 info50 rfl (by decide) (by omega) u256001 x256001_1 (⟨(rd_T50 l0_1 x14_1).f0,(rd_T50 l0_1 x14_1).f1,(rd_T50 l0_1 x14_1).f2,(rd_T50 l0_1 x14_1).f3,(rd_T50 l0_1 x14_1).f4⟩:S50) [.int .i64 ((rd_T50 l0_1 x14_1).f0),.int .i64 ((rd_T50 l0_1 x14_1).f1),.bool ((rd_T50 l0_1 x14_1).f2),.bool ((rd_T50 l0_1 x14_1).f3),.int .i64 ((rd_T50 l0_1 x14_1).f4)] (fun k_=>k_ ≠ gb257) (fun _=>False) rfl (by first|(go_simp;done)|(go_simp;rfl)) ?aP (fun _ hk=>hk.elim) ?aF ?aO ?aB ?aS ?aL ?_;(case aP=>exact k50_mkM _ _ _ (⟨(rd_T50 l0_1 x14_1).f0,(rd_T50 l0_1 x14_1).f1,(rd_T50 l0_1 x14_1).f2,(rd_T50 l0_1 x14_1).f3,(rd_T50 l0_1 x14_1).f4⟩:S50));(case aB=>exact (by repeat (first|(with_reducible first|exact HB.out|apply below_alloc|apply pw_below_drewN|apply below_drew1|refine below_set ?_ GE253.out|refine below_set ?_ GE254.out|refine below_set ?_ GE255.out|refine below_set ?_ GE257.out)|exact HB.out)));(case aF=>exact (fun k_ hk=>Kd.freshB (g:=gb257) (o:=.cells #[.int .i64 ((rd_T50 l0_1 x14_1).f0),.int .i64 ((rd_T50 l0_1 x14_1).f1),.bool ((rd_T50 l0_1 x14_1).f2),.bool ((rd_T50 l0_1 x14_1).f3),.int .i64 ((rd_T50 l0_1 x14_1).f4)] 50 (0,0)) (by (with_reducible repeat (first|refine blk_drewN ?_ _|refine blk_drew ?_|refine blk_alloc ?_ _));refine blk_put (cs:=#[.int .i64 ((rd_T50 l0_1 x14_1).f0),.int .i64 ((rd_T50 l0_1 x14_1).f1),.bool ((rd_T50 l0_1 x14_1).f2),.bool ((rd_T50 l0_1 x14_1).f3),.int .i64 0]) ?_ 4 _ rfl;(with_reducible repeat (first|refine blk_drewN ?_ _|refine blk_drew ?_|refine blk_alloc ?_ _));refine blk_put (cs:=#[.int .i64 ((rd_T50 l0_1 x14_1).f0),.int .i64 ((rd_T50 l0_1 x14_1).f1),.bool ((rd_T50 l0_1 x14_1).f2),.bool false,.int .i64 0]) ?_ 3 _ rfl;(with_reducible repeat (first|refine blk_drewN ?_ _|refine blk_drew ?_|refine blk_alloc ?_ _));refine blk_put (cs:=#[.int .i64 ((rd_T50 l0_1 x14_1).f0),.int .i64 ((rd_T50 l0_1 x14_1).f1),.bool false,.bool false,.int .i64 0]) ?_ 2 _ rfl;(with_reducible repeat (first|refine blk_drewN ?_ _|refine blk_drew ?_|refine blk_alloc ?_ _));refine blk_put (cs:=#[.int .i64 ((rd_T50 l0_1 x14_1).f0),.int .i64 0,.bool false,.bool false,.int .i64 0]) ?_ 1 _ rfl;(with_reducible repeat (first|refine blk_drewN ?_ _|refine blk_drew ?_|refine blk_alloc ?_ _));refine blk_put (cs:=#[.int .i64 0,.int .i64 0,.bool false,.bool false,.int .i64 0]) ?_ 0 _ rfl;(with_reducible repeat (first|refine blk_drewN ?_ _|refine blk_drew ?_|refine blk_alloc ?_ _));exact BK257.out) k_ hk));(case aO=>exact (by (with_reducible repeat (first|apply Kd.R_alloc|apply Kd.R_drewN|apply Kd.R_drew));exact Kd.R_mono (Kd.R_far (p:=⟨gb257,4,none⟩) (Kd.R_far (p:=⟨gb257,3,none⟩) (Kd.R_far (p:=⟨gb257,2,none⟩) (Kd.R_far (p:=⟨gb257,1,none⟩) (Kd.R_far (p:=⟨gb257,0,none⟩) (Kd.R_mono HO_256001.out (fun k_ hk=>(⟨hk,hk.2⟩:_∧k_ ≠ gb257))) (fun _ hk=>hk.2) (.int .i64 ((rd_T50 l0_1 x14_1).f0))) (fun _ hk=>hk.2) (.int .i64 ((rd_T50 l0_1 x14_1).f1))) (fun _ hk=>hk.2) (.bool ((rd_T50 l0_1 x14_1).f2))) (fun _ hk=>hk.2) (.bool ((rd_T50 l0_1 x14_1).f3))) (fun _ hk=>hk.2) (.int .i64 ((rd_T50 l0_1 x14_1).f4))) (fun _ hk=>hk.1.2)));(case aS=>exact (below_size (by repeat (first|(with_reducible first|exact HB.out|apply below_alloc|apply pw_below_drewN|apply below_drew1|refine below_set ?_ GE253.out|refine below_set ?_ GE254.out|refine below_set ?_ GE255.out|refine below_set ?_ GE257.out)|exact HB.out))));(case aL=>have:=LMc14.out;omega);intro v259 w23 ho hb hg hat;rw [← Ny258.out] at ho;have n0_:=Aside0.mk (blk_grown (g:=gb253) (o:=.cells #[.bool a0_0,.slice (some ad256) l0_1.length c0_1,.slice A0_2 l0_2.length c0_2] 46 (0,0)) (by (with_reducible repeat (first|refine blk_drewN ?_ _|refine blk_drew ?_|refine blk_alloc ?_ _));refine blk_far ?_ NB253_257.out _;(with_reducible repeat (first|refine blk_drewN ?_ _|refine blk_drew ?_|refine blk_alloc ?_ _));refine blk_far ?_ NB253_257.out _;(with_reducible repeat (first|refine blk_drewN ?_ _|refine blk_drew ?_|refine blk_alloc ?_ _));refine blk_far ?_ NB253_257.out _;(with_reducible repeat (first|refine blk_drewN ?_ _|refine blk_drew ?_|refine blk_alloc ?_ _));refine blk_far ?_ NB253_257.out _;(with_reducible repeat (first|refine blk_drewN ?_ _|refine blk_drew ?_|refine blk_alloc ?_ _));refine blk_far ?_ NB253_257.out _;(with_reducible repeat (first|refine blk_drewN ?_ _|refine blk_drew ?_|refine blk_alloc ?_ _));exact BK253.out) hg (Kd.R_ne HO_256001.out BK253.out (by decide)));have n1_:=Aside0.mk (blk_grown (g:=gb254) (o:=.cells #[.bool false,.slice none 0 0,.slice none 0 0] 46 (0,0)) (by (with_reducible repeat (first|refine blk_drewN ?_ _|refine blk_drew ?_|refine blk_alloc ?_ _));refine blk_far ?_ NB254_257.out _;(with_reducible repeat (first|refine blk_drewN ?_ _|refine blk_drew ?_|refine blk_alloc ?_ _));refine blk_far ?_ NB254_257.out _;(with_reducible repeat (first|refine blk_drewN ?_ _|refine blk_drew ?_|refine blk_alloc ?_ _));refine blk_far ?_ NB254_257.out _;(with_reducible repeat (first|refine blk_drewN ?_ _|refine blk_drew ?_|refine blk_alloc ?_ _));refine blk_far ?_ NB254_257.out _;(with_reducible repeat (first|refine blk_drewN ?_ _|refine blk_drew ?_|refine blk_alloc ?_ _));refine blk_far ?_ NB254_257.out _;(with_reducible repeat (first|refine blk_drewN ?_ _|refine blk_drew ?_|refine blk_alloc ?_ _));exact BK254.out) hg (Kd.R_ne HO_256001.out BK254.out (by decide)));have n2_:=Aside0.mk (blk_grown (g:=gb255) (o:=.cells #[.bool a0_0,u256001,.slice none 0 0] 46 (0,0)) (by (with_reducible repeat (first|refine blk_drewN ?_ _|refine blk_drew ?_|refine blk_alloc ?_ _));refine blk_far ?_ NB255_257.out _;(with_reducible repeat (first|refine blk_drewN ?_ _|refine blk_drew ?_|refine blk_alloc ?_ _));refine blk_far ?_ NB255_257.out _;(with_reducible repeat (first|refine blk_drewN ?_ _|refine blk_drew ?_|refine blk_alloc ?_ _));refine blk_far ?_ NB255_257.out _;(with_reducible repeat (first|refine blk_drewN ?_ _|refine blk_drew ?_|refine blk_alloc ?_ _));refine blk_far ?_ NB255_257.out _;(with_reducible repeat (first|refine blk_drewN ?_ _|refine blk_drew ?_|refine blk_alloc ?_ _));refine blk_far ?_ NB255_257.out _;(with_reducible repeat (first|refine blk_drewN ?_ _|refine blk_drew ?_|refine blk_alloc ?_ _));exact BK255.out) hg (Kd.R_ne HO_256001.out BK255.out (by decide)));have n3_:=Aside0.mk (blk_grown (g:=gb257) (o:=.cells #[.int .i64 ((rd_T50 l0_1 x14_1).f0),.int .i64 ((rd_T50 l0_1 x14_1).f1),.bool ((rd_T50 l0_1 x14_1).f2),.bool ((rd_T50 l0_1 x14_1).f3),.int .i64 ((rd_T50 l0_1 x14_1).f4)] 50 (0,0)) (by (with_reducible repeat (first|refine blk_drewN ?_ _|refine blk_drew ?_|refine blk_alloc ?_ _));refine blk_put (cs:=#[.int .i64 ((rd_T50 l0_1 x14_1).f0),.int .i64 ((rd_T50 l0_1 x14_1).f1),.bool ((rd_T50 l0_1 x14_1).f2),.bool ((rd_T50 l0_1 x14_1).f3),.int .i64 0]) ?_ 4 _ rfl;(with_reducible repeat (first|refine blk_drewN ?_ _|refine blk_drew ?_|refine blk_alloc ?_ _));refine blk_put (cs:=#[.int .i64 ((rd_T50 l0_1 x14_1).f0),.int .i64 ((rd_T50 l0_1 x14_1).f1),.bool ((rd_T50 l0_1 x14_1).f2),.bool false,.int .i64 0]) ?_ 3 _ rfl;(with_reducible repeat (first|refine blk_drewN ?_ _|refine blk_drew ?_|refine blk_alloc ?_ _));refine blk_put (cs:=#[.int .i64 ((rd_T50 l0_1 x14_1).f0),.int .i64 ((rd_T50 l0_1 x14_1).f1),.bool false,.bool false,.int .i64 0]) ?_ 2 _ rfl;(with_reducible repeat (first|refine blk_drewN ?_ _|refine blk_drew ?_|refine blk_alloc ?_ _));refine blk_put (cs:=#[.int .i64 ((rd_T50 l0_1 x14_1).f0),.int .i64 0,.bool false,.bool false,.int .i64 0]) ?_ 1 _ rfl;(with_reducible repeat (first|refine blk_drewN ?_ _|refine blk_drew ?_|refine blk_alloc ?_ _));refine blk_put (cs:=#[.int .i64 0,.int .i64 0,.bool false,.bool false,.int .i64 0]) ?_ 0 _ rfl;(with_reducible repeat (first|refine blk_drewN ?_ _|refine blk_drew ?_|refine blk_alloc ?_ _));exact BK257.out) hg (Kd.R_away HO_256001.out (fun _ hk=>hk.2)));have n4_:=Aside0.mk (hb);have n5_:=Aside0.mk (ho);clear BK253;clear BK254;clear BK255;clear BK257;clear HB;clear HO_256001;have BK253:=n0_;have BK254:=n1_;have BK255:=n2_;have BK257:=n3_;have HB:=n4_;have HO260:=n5_;clear n0_ n1_ n2_ n3_ n4_ n5_;clear ho hb hg hat;obtain ⟨Ao24,co24,eo24⟩:=Kd.R_slice HO260.out;subst eo24;have hcz25_0:w23.cell? ⟨gb255,0,none⟩=some (.bool a0_0):=(blk_cell BK255.out 0).trans rfl;have hcz25_1:w23.cell? ⟨gb255,1,none⟩=some (u256001):=(blk_cell BK255.out 1).trans rfl;have hcz25_2:w23.cell? ⟨gb255,2,none⟩=some (.slice none 0 0):=(blk_cell BK255.out 2).trans rfl;have hfz25_0:=blk_frozen BK255.out 0;have hfz25_1:=blk_frozen BK255.out 1;have hfz25_2:=blk_frozen BK255.out 2))
       go_roundg k1
       case measure=>have:=HK1.out;omega
       case rel=>exact ⟨(wrap64 (x14_1+1)),(y258),(.slice Ao24 y258.length co24),(by first|rfl|(simp;done)|(simp [*];done)),H',⟨by have:=HK1.out;omega⟩,⟨by (with_reducible repeat (first|apply Kd.R_alloc|apply Kd.R_drewN|apply Kd.R_drew));exact Kd.R_mono (Kd.R_far (p:=⟨gb255,1,none⟩) (Kd.R_types HO260.out BK255.out (by decide)) (fun _ hk=>hk.2) (.slice Ao24 y258.length co24)) (fun _ hk=>trivial)⟩,⟨by (with_reducible repeat (first|refine blk_drewN ?_ _|refine blk_drew ?_|refine blk_alloc ?_ _));refine blk_far ?_ NB253_255.out _;(with_reducible repeat (first|refine blk_drewN ?_ _|refine blk_drew ?_|refine blk_alloc ?_ _));exact BK253.out⟩,⟨by (with_reducible repeat (first|refine blk_drewN ?_ _|refine blk_drew ?_|refine blk_alloc ?_ _));refine blk_far ?_ NB254_255.out _;(with_reducible repeat (first|refine blk_drewN ?_ _|refine blk_drew ?_|refine blk_alloc ?_ _));exact BK254.out⟩,⟨by (with_reducible repeat (first|refine blk_drewN ?_ _|refine blk_drew ?_|refine blk_alloc ?_ _));refine blk_put (cs:=#[.bool a0_0,u256001,.slice none 0 0]) ?_ 1 _ rfl;(with_reducible repeat (first|refine blk_drewN ?_ _|refine blk_drew ?_|refine blk_alloc ?_ _));exact BK255.out⟩,⟨by repeat (first|(with_reducible first|exact HB.out|apply below_alloc|apply pw_below_drewN|apply below_drew1|refine below_set ?_ GE253.out|refine below_set ?_ GE254.out|refine below_set ?_ GE255.out|refine below_set ?_ GE257.out)|exact HB.out)⟩⟩
      rw [if_neg c14] at H
      exact absurd H (by simp)
     rw [if_neg c13] at H
     exact absurd H (by simp)
    rw [if_neg c12] at H
    exact absurd H (by simp)
   rw [if_neg c11] at H
   have c11b0:decide (x14_1<(l0_1.length:Int))=false:=decide_eq_false c11
   clear c11
   have H':=Aside0.mk H
   clear H
   have hnb26:=NB253_254.out
   have hnc26:=NB254_253.out
   have hnb27:=NB253_255.out
   have hnc27:=NB255_253.out
   have hcz28_0:wr.cell? ⟨gb253,0,none⟩=some (.bool a0_0):=(blk_cell BK253.out 0).trans rfl
   have hcz28_1:wr.cell? ⟨gb253,1,none⟩=some (.slice A0_1 l0_1.length c0_1):=(blk_cell BK253.out 1).trans rfl
   have hcz28_2:wr.cell? ⟨gb253,2,none⟩=some (.slice A0_2 l0_2.length c0_2):=(blk_cell BK253.out 2).trans rfl
   have hfz28_0:=blk_frozen BK253.out 0
   have hfz28_1:=blk_frozen BK253.out 1
   have hfz28_2:=blk_frozen BK253.out 2
   go_wp2
   go_loopg [28] k1 (fun kq v28 w'=>∃ (x28_2:Int) (x256002_2:List Bool) (u256002:Value),v28=.int .i64 x28_2∧Aside0 (spec_l2copy.l1 kq l0_2 (l0_2.length:Int) x28_2 a0_0 x256001_1 x256002_2=some (r1,r2,r3))∧Aside0 (kq≤k1)∧Aside0 (Kd.R k50 50 w' w.heap.size (fun _=>True) u256001 x256001_1)∧Aside0 (Kd.R Kd.bool 4 w' w.heap.size (fun _=>True) u256002 x256002_2)∧Aside0 (w'.heap[gb253]?=some (.cells #[.bool a0_0,(.slice A0_1 l0_1.length c0_1),(.slice A0_2 l0_2.length c0_2)] 46 (0,0)))∧Aside0 (w'.heap[gb254]?=some (.cells #[.bool false,(.slice none 0 0),(.slice none 0 0)] 46 (0,0)))∧Aside0 (w'.heap[gb255]?=some (.cells #[.bool a0_0,u256001,u256002] 46 (0,0)))∧Aside0 (Below w.heap.size w w'))
   case atStart=>exact ⟨(0),(([]:List Bool)),(.slice none 0 0),(by first|rfl|(simp;done)|(simp [*];done)),H',⟨Nat.le_refl _⟩,⟨by (with_reducible repeat (first|apply Kd.R_alloc|apply Kd.R_drewN|apply Kd.R_drew));exact HO_256001.out⟩,⟨by first|exact Kd.R_nil _ _ _ _ _|exact Kd.N_nil _ _ _ _ _|exact Kd.V_nil _ _ _ _ _|exact Kd.Q_nil _ _ _ _ _|exact Kd.S_nil _ _ _ _ _⟩,⟨by (with_reducible repeat (first|refine blk_drewN ?_ _|refine blk_drew ?_|refine blk_alloc ?_ _));exact BK253.out⟩,⟨by (with_reducible repeat (first|refine blk_drewN ?_ _|refine blk_drew ?_|refine blk_alloc ?_ _));exact BK254.out⟩,⟨by (with_reducible repeat (first|refine blk_drewN ?_ _|refine blk_drew ?_|refine blk_alloc ?_ _));exact BK255.out⟩,⟨by repeat (first|(with_reducible first|exact HB.out|apply below_alloc|apply pw_below_drewN|apply below_drew1|refine below_set ?_ GE253.out|refine below_set ?_ GE254.out|refine below_set ?_ GE255.out)|exact HB.out)⟩⟩
   case round =>
    clear H'
    try clear c1
    try clear c2
    try clear p2
    try clear q2
    try clear hx2
    try clear c4
    try clear p6
    try clear c7
    try clear c8
    try clear c9
    try clear c11
    try clear c11b0
    try clear c12
    try clear c12b0
    try clear c13
    try clear c13b0
    try clear c14
    try clear c16
    try clear c17
    try clear c18
    try clear c20
    try clear c21
    try clear p25
    try clear q25
    try clear hx25
    try clear c26
    try clear c27
    try clear hcz10_0
    try clear hcz10_1
    try clear hcz10_2
    try clear hcz19_0
    try clear hcz19_1
    try clear hcz19_2
    try clear hcz19_3
    try clear hcz19_4
    try clear hcz22_0
    try clear hcz22_1
    try clear hcz22_2
    try clear hcz25_0
    try clear hcz25_1
    try clear hcz25_2
    try clear hcz28_0
    try clear hcz28_1
    try clear hcz28_2
    try clear hcz5_0
    try clear hcz5_1
    try clear hcz5_2
    try clear hcz9_0
    try clear hcz9_1
    try clear hcz9_2
    try clear hfz10_0
    try clear hfz10_1
    try clear hfz10_2
    try clear hfz19_0
    try clear hfz19_1
    try clear hfz19_2
    try clear hfz19_3
    try clear hfz19_4
    try clear hfz22_0
    try clear hfz22_1
    try clear hfz22_2
    try clear hfz25_0
    try clear hfz25_1
    try clear hfz25_2
    try clear hfz28_0
    try clear hfz28_1
    try clear hfz28_2
    try clear hfz5_0
    try clear hfz5_1
    try clear hfz5_2
    try clear hfz9_0
    try clear hfz9_1
    try clear hfz9_2
    try clear hx256_0
    try clear hx256_1
    try clear hx256_2
    try clear hx256_3
    try clear hx256_4
    try clear p2
    try clear p256
    try clear q256
    obtain ⟨x28_2,x256002_2,u256002,rfl,HA,HK2,HO_256001,HO_256002,BK253,BK254,BK255,HB⟩:=hrel
    cases gk with
    | zero=>exact absurd HA.out (by simp [spec_l2copy.l1])
    | succ k2 =>
     have H:=HA.out
     clear HA
     simp only [spec_l2copy.l1] at H
     by_cases c29:x28_2<(l0_2.length:Int)
     ·rw [if_pos c29] at H
      have c29b0:decide (x28_2<(l0_2.length:Int))=true:=decide_eq_true c29
      clear c29
      by_cases c30:0≤x28_2
      ·rw [if_pos c30] at H
       have c30b0:decide (0≤x28_2)=true:=decide_eq_true c30
       clear c30
       by_cases c31:x28_2<(l0_2.length:Int)
       ·rw [if_pos c31] at H
        have c31b0:decide (x28_2<(l0_2.length:Int))=true:=decide_eq_true c31
        clear c31
        by_cases c32:x256002_2.length<140737488355328
        ·rw [if_pos c32] at H
         have LMc32:=Aside0.mk c32
         clear c32
         obtain ⟨y262,hy262⟩:∃ y_:List Bool,y_=(x256002_2 ++ [rdOf false l0_2 x28_2]):=⟨_,rfl⟩
         replace H:(spec_l2copy.l1 k2 l0_2 (l0_2.length:Int) (wrap64 (x28_2+1)) a0_0 x256001_1 y262)=some (r1,r2,r3):=by first|(rw [hy262];with_reducible exact H)|(have H2_:=(Option.bind_some _ _).symm.trans H;rw [hy262];with_reducible exact H2_)|(have H2_:=(Option.bind_some _ _).symm.trans H;with_reducible exact H2_)|with_reducible exact H|(rw [hy262];exact H)|exact H
         have Ny262:=Aside0.mk hy262
         clear hy262
         have H':=Aside0.mk H
         clear H
         have p261:0≤(x28_2:Int):=of_decide_eq_true (by first|(with_reducible assumption)|assumption)
         have q261:x28_2<(l0_2.length:Int):=of_decide_eq_true (by first|(with_reducible assumption)|assumption)
         obtain ⟨ad261,e261,hx261_0⟩:=Kd.at_bool HR0_2.out x28_2 p261 q261
         cases e261
         replace hx261_0:=(HB.out.cell (World.block_lt_of_cell? w _ hx261_0)).trans hx261_0
         replace p261:=eq_true p261
         replace q261:=eq_true q261
         have hnb33:=NB255_253.out
         have hnc33:=NB253_255.out
         have hnb34:=NB255_254.out
         have hnc34:=NB254_255.out
         have hcz35_0:wr.cell? ⟨gb255,0,none⟩=some (.bool a0_0):=(blk_cell BK255.out 0).trans rfl
         have hcz35_1:wr.cell? ⟨gb255,1,none⟩=some (u256001):=(blk_cell BK255.out 1).trans rfl
         have hcz35_2:wr.cell? ⟨gb255,2,none⟩=some (u256002):=(blk_cell BK255.out 2).trans rfl
         have hfz35_0:=blk_frozen BK255.out 0
         have hfz35_1:=blk_frozen BK255.out 1
         have hfz35_2:=blk_frozen BK255.out 2
         go_wp2_with (first|((with_reducible refine gate_builtin (b:=.append) (xs:=#[.tmp 33,.tmp 35]) rfl ?_);at_builtin;refine Kd.R_append Kd.bool (w0:=w) w.heap.size rfl (.tmp 33) (.tmp 35) 44 4 (.bool false) 1 rfl Try.underlying44 info4 rfl (by decide) (by omega) u256002 x256002_2 (rdOf false l0_2 x28_2) [.bool (rdOf false l0_2 x28_2)] (fun _=>True) (fun _=>False) rfl rfl ?aP (fun _ hk=>hk.elim) ?aF ?aO ?aB ?aS ?aL ?_;(case aP=>exact rfl);(case aB=>exact (by repeat (first|(with_reducible first|exact HB.out|apply below_alloc|apply pw_below_drewN|apply below_drew1|refine below_set ?_ GE253.out|refine below_set ?_ GE254.out|refine below_set ?_ GE255.out)|exact HB.out)));(case aF=>exact (fun _ _=>trivial));(case aO=>exact (by (with_reducible repeat (first|apply Kd.R_alloc|apply Kd.R_drewN|apply Kd.R_drew));exact HO_256002.out));(case aS=>exact (below_size (by repeat (first|(with_reducible first|exact HB.out|apply below_alloc|apply pw_below_drewN|apply below_drew1|refine below_set ?_ GE253.out|refine below_set ?_ GE254.out|refine below_set ?_ GE255.out)|exact HB.out))));(case aL=>have:=LMc32.out;omega);intro v263 w36 ho hb hg hat;rw [← Ny262.out] at ho;have n0_:=Aside0.mk (Kd.R_over' (by (with_reducible repeat (first|apply Kd.R_alloc|apply Kd.R_drewN|apply Kd.R_drew));exact HO_256001.out) (Kd.R_typed (by (with_reducible repeat (first|apply Kd.R_alloc|apply Kd.R_drewN|apply Kd.R_drew));exact HO_256002.out)) (by decide) hg);have n1_:=Aside0.mk (blk_grown (g:=gb253) (o:=.cells #[.bool a0_0,.slice A0_1 l0_1.length c0_1,.slice (some ad261) l0_2.length c0_2] 46 (0,0)) (by (with_reducible repeat (first|refine blk_drewN ?_ _|refine blk_drew ?_|refine blk_alloc ?_ _));exact BK253.out) hg (Kd.R_ne HO_256002.out BK253.out (by decide)));have n2_:=Aside0.mk (blk_grown (g:=gb254) (o:=.cells #[.bool false,.slice none 0 0,.slice none 0 0] 46 (0,0)) (by (with_reducible repeat (first|refine blk_drewN ?_ _|refine blk_drew ?_|refine blk_alloc ?_ _));exact BK254.out) hg (Kd.R_ne HO_256002.out BK254.out (by decide)));have n3_:=Aside0.mk (blk_grown (g:=gb255) (o:=.cells #[.bool a0_0,u256001,u256002] 46 (0,0)) (by (with_reducible repeat (first|refine blk_drewN ?_ _|refine blk_drew ?_|refine blk_alloc ?_ _));exact BK255.out) hg (Kd.R_ne HO_256002.out BK255.out (by decide)));have n4_:=Aside0.mk (hb);have n5_:=Aside0.mk (ho);clear HO_256001;clear BK253;clear BK254;clear BK255;clear HB;clear HO_256002;have HO_256001:=n0_;have BK253:=n1_;have BK254:=n2_;have BK255:=n3_;have HB:=n4_;have HO264:=n5_;clear n0_ n1_ n2_ n3_ n4_ n5_;clear ho hb hg hat;obtain ⟨Ao37,co37,eo37⟩:=Kd.R_slice HO264.out;subst eo37;have hcz38_0:w36.cell? ⟨gb255,0,none⟩=some (.bool a0_0):=(blk_cell BK255.out 0).trans rfl;have hcz38_1:w36.cell? ⟨gb255,1,none⟩=some (u256001):=(blk_cell BK255.out 1).trans rfl;have hcz38_2:w36.cell? ⟨gb255,2,none⟩=some (u256002):=(blk_cell BK255.out 2).trans rfl;have hfz38_0:=blk_frozen BK255.out 0;have hfz38_1:=blk_frozen BK255.out 1;have hfz38_2:=blk_frozen BK255.out 2))
         go_roundg k2
         case measure=>have:=HK1.out;have:=HK2.out;omega
         case rel=>exact ⟨(wrap64 (x28_2+1)),(y262),(.slice Ao37 y262.length co37),(by first|rfl|(simp;done)|(simp [*];done)),H',⟨by have:=HK1.out;have:=HK2.out;omega⟩,⟨by (with_reducible repeat (first|apply Kd.R_alloc|apply Kd.R_drewN|apply Kd.R_drew));exact Kd.R_mono (Kd.R_far (p:=⟨gb255,2,none⟩) (Kd.R_types HO_256001.out BK255.out (by decide)) (fun _ hk=>hk.2) (.slice Ao37 y262.length co37)) (fun _ hk=>trivial)⟩,⟨by (with_reducible repeat (first|apply Kd.R_alloc|apply Kd.R_drewN|apply Kd.R_drew));exact Kd.R_mono (Kd.R_far (p:=⟨gb255,2,none⟩) (Kd.R_types HO264.out BK255.out (by decide)) (fun _ hk=>hk.2) (.slice Ao37 y262.length co37)) (fun _ hk=>trivial)⟩,⟨by (with_reducible repeat (first|refine blk_drewN ?_ _|refine blk_drew ?_|refine blk_alloc ?_ _));refine blk_far ?_ NB253_255.out _;(with_reducible repeat (first|refine blk_drewN ?_ _|refine blk_drew ?_|refine blk_alloc ?_ _));exact BK253.out⟩,⟨by (with_reducible repeat (first|refine blk_drewN ?_ _|refine blk_drew ?_|refine blk_alloc ?_ _));refine blk_far ?_ NB254_255.out _;(with_reducible repeat (first|refine blk_drewN ?_ _|refine blk_drew ?_|refine blk_alloc ?_ _));exact BK254.out⟩,⟨by (with_reducible repeat (first|refine blk_drewN ?_ _|refine blk_drew ?_|refine blk_alloc ?_ _));refine blk_put (cs:=#[.bool a0_0,u256001,u256002]) ?_ 2 _ rfl;(with_reducible repeat (first|refine blk_drewN ?_ _|refine blk_drew ?_|refine blk_alloc ?_ _));exact BK255.out⟩,⟨by repeat (first|(with_reducible first|exact HB.out|apply below_alloc|apply pw_below_drewN|apply below_drew1|refine below_set ?_ GE253.out|refine below_set ?_ GE254.out|refine below_set ?_ GE255.out)|exact HB.out)⟩⟩
        rw [if_neg c32] at H
        exact absurd H (by simp)
       rw [if_neg c31] at H
       exact absurd H (by simp)
      rw [if_neg c30] at H
      exact absurd H (by simp)
     rw [if_neg c29] at H
     have c29b0:decide (x28_2<(l0_2.length:Int))=false:=decide_eq_false c29
     clear c29
     simp only [Option.some.injEq,Prod.mk.injEq] at H
     obtain ⟨rfl,rfl,rfl⟩:=H
     have hnb39:=NB255_253.out
     have hnc39:=NB253_255.out
     have hnb40:=NB255_254.out
     have hnc40:=NB254_255.out
     have hcz41_0:wr.cell? ⟨gb255,0,none⟩=some (.bool a0_0):=(blk_cell BK255.out 0).trans rfl
     have hcz41_1:wr.cell? ⟨gb255,1,none⟩=some (u256001):=(blk_cell BK255.out 1).trans rfl
     have hcz41_2:wr.cell? ⟨gb255,2,none⟩=some (u256002):=(blk_cell BK255.out 2).trans rfl
     have hfz41_0:=blk_frozen BK255.out 0
     have hfz41_1:=blk_frozen BK255.out 1
     have hfz41_2:=blk_frozen BK255.out 2
     have hnb42:=NB254_253.out
     have hnc42:=NB253_254.out
     have hcz43_0:wr.cell? ⟨gb254,0,none⟩=some (.bool false):=(blk_cell BK254.out 0).trans rfl
     have hcz43_1:wr.cell? ⟨gb254,1,none⟩=some (.slice none 0 0):=(blk_cell BK254.out 1).trans rfl
     have hcz43_2:wr.cell? ⟨gb254,2,none⟩=some (.slice none 0 0):=(blk_cell BK254.out 2).trans rfl
     have hfz43_0:=blk_frozen BK254.out 0
     have hfz43_1:=blk_frozen BK254.out 1
     have hfz43_2:=blk_frozen BK254.out 2
     obtain ⟨Ao44,co44,eo44⟩:=Kd.R_slice HO_256001.out
     subst eo44
     obtain ⟨Ao45,co45,eo45⟩:=Kd.R_slice HO_256002.out
     subst eo45
     go_wp2
     refine bodyPost_ret (results_cell_row rfl _ _ gb254 46 #[.bool a0_0,.slice Ao44 x256001_1.length co44,.slice Ao45 x256002_2.length co45] (0,0) _ rfl (by (with_reducible repeat (first|refine blk_drewN ?_ _|refine blk_drew ?_|refine blk_alloc ?_ _));refine blk_put (cs:=#[.bool a0_0,.slice Ao44 x256001_1.length co44,.slice none 0 0]) ?_ 2 _ rfl;(with_reducible repeat (first|refine blk_drewN ?_ _|refine blk_drew ?_|refine blk_alloc ?_ _));refine blk_put (cs:=#[.bool a0_0,.slice none 0 0,.slice none 0 0]) ?_ 1 _ rfl;(with_reducible repeat (first|refine blk_drewN ?_ _|refine blk_drew ?_|refine blk_alloc ?_ _));refine blk_put (cs:=#[.bool false,.slice none 0 0,.slice none 0 0]) ?_ 0 _ rfl;(with_reducible repeat (first|refine blk_drewN ?_ _|refine blk_drew ?_|refine blk_alloc ?_ _));exact BK254.out) Try.underlying46 rfl (by kernel_rfl)) rfl ?_
     exact ⟨_,_,by first|rfl|(simp [errW_none,errW_some] <;> rfl)|(simp [*,errW_none,errW_some] <;> rfl),by (with_reducible repeat (first|apply Kd.R_alloc|apply Kd.R_drewN|apply Kd.R_drew));exact Kd.R_mono (Kd.R_far (p:=⟨gb254,2,none⟩) (Kd.R_far (p:=⟨gb254,1,none⟩) (Kd.R_far (p:=⟨gb254,0,none⟩) (Kd.R_types HO_256001.out BK254.out (by decide)) (fun _ hk=>hk.2) (.bool a0_0)) (fun _ hk=>hk.2) (.slice Ao44 x256001_1.length co44)) (fun _ hk=>hk.2) (.slice Ao45 x256002_2.length co45)) (fun _ hk=>trivial),by (with_reducible repeat (first|apply Kd.R_alloc|apply Kd.R_drewN|apply Kd.R_drew));exact Kd.R_mono (Kd.R_far (p:=⟨gb254,2,none⟩) (Kd.R_far (p:=⟨gb254,1,none⟩) (Kd.R_far (p:=⟨gb254,0,none⟩) (Kd.R_types HO_256002.out BK254.out (by decide)) (fun _ hk=>hk.2) (.bool a0_0)) (fun _ hk=>hk.2) (.slice Ao44 x256001_1.length co44)) (fun _ hk=>hk.2) (.slice Ao45 x256002_2.length co45)) (fun _ hk=>trivial),by repeat (first|(with_reducible first|exact HB.out|apply below_alloc|apply pw_below_drewN|apply below_drew1|refine below_set ?_ GE253.out|refine below_set ?_ GE254.out|refine below_set ?_ GE255.out)|exact HB.out)⟩
end Go.Proofs.Ytpdnabhpkdchjaa.P
namespace Go.Proofs.Ytpdnabhpkdchjaa.P
open Go.RowKit Go.Proofs.YtpdnabhpkdchjaaW.PrintWords Go.Proofs.YtpdnabhpkdchjaaW.PrintLast Go.Proofs.YtpdnabhpkdchjaaW.PrintMore
set_option linter.unusedVariables false
set_option linter.unusedSimpArgs false
theorem secsFrom_at {l : List S88} {dd : List Bool} {ss : List S50} : ∀ (d i : Nat), secsFrom l dd ss d i = true → ∀ j, i ≤ j → j < i + d → secOk l dd (j : Int) (rd_T50 ss (j : Int)) = true := by
  intro d
  induction d with
  | zero => intro i h j h1 h2; omega
  | succ d ih =>
    intro i h j h1 h2
    simp only [secsFrom, Bool.and_eq_true] at h
    by_cases e : j = i
    · subst e; exact h.1
    · exact ih (i + 1) h.2 j (by omega) (by omega)
theorem stateOk_of {n : Int} {l : List S88} {ok : Bool} {ss : List S50} {dd : List Bool} (h : stateOk n l ok ss dd = true) : layoutOk n l = 0 ∧ ok = true ∧ (ss.length : Int) = n ∧ dd.length = l.length ∧ ∀ j, j < ss.length → secOk l dd (j : Int) (rd_T50 ss (j : Int)) = true := by
  simp only [stateOk, Bool.and_eq_true, decide_eq_true_eq] at h
  exact ⟨h.1.1.1.1, h.1.1.1.2, h.1.1.2, h.1.2, fun j hj => secsFrom_at _ 0 h.2 j (by omega) (by omega)⟩
theorem secOk_told {l : List S88} {dd : List Bool} {s : Int} {x : S50} (h : secOk l dd s x = true) : x.f0 = toldC l dd s x := by
  simp only [secOk, Bool.and_eq_true, decide_eq_true_eq] at h
  exact h.1.2
theorem secOk_range {l : List S88} {dd : List Bool} {s : Int} {x : S50} (h : secOk l dd s x = true) : -1000000 ≤ x.f1 ∧ x.f1 ≤ 1000000 ∧ -1 ≤ x.f4 ∧ x.f4 ≤ 1 := by
  simp only [secOk, secRange, Bool.and_eq_true, decide_eq_true_eq] at h
  exact ⟨h.1.1.1.1.1, h.1.1.1.1.2, h.1.1.1.2, h.1.1.2⟩
theorem rd50_get (ss : List S50) (i : Nat) (h : i < ss.length) : rd_T50 ss (i : Int) = ss[i] := by simp [rd_T50, h]
theorem retold_same {l : List S88} {dd : List Bool} {ss : List S50} (h : ∀ j, j < ss.length → secOk l dd (j : Int) (rd_T50 ss (j : Int)) = true) : retold l dd ss = ss := by
  apply List.ext_getElem
  · exact retold_length _ _ _
  · intro i h1 h2
    simp only [retold, retoldTo, List.getElem_mapIdx, if_pos h2]
    have e := secOk_told (h i h2)
    rw [rd50_get ss i h2] at e
    unfold tellS
    rw [← e]
def midSecs2 (l : List S88) (ss : List S50) (dd : List Bool) (op of dir : Int) : List S50 := if doCode l ss dd op of = 0 then midSecs l ss op of dir else ss
theorem midSecs2_length (l : List S88) (ss : List S50) (dd : List Bool) (op of dir : Int) : (midSecs2 l ss dd op of dir).length = ss.length := by
  unfold midSecs2; split
  · exact midSecs_length _ _ _ _ _
  · rfl
theorem retold_mid {l : List S88} {dd : List Bool} {ss : List S50} {op of dir : Int} (h : ∀ j, j < ss.length → secOk l dd (j : Int) (rd_T50 ss (j : Int)) = true) : retold l (doDead l ss dd op of) (midSecs2 l ss dd op of dir) = doSecs l ss dd op of dir := by
  unfold doDead midSecs2 doSecs
  by_cases hc : doCode l ss dd op of = 0
  · rw [if_pos hc, if_pos hc, if_pos hc]
  · rw [if_neg hc, if_neg hc, if_neg hc, retold_same h]
theorem specCopy_l1 (b : Bool) (ss : List S50) (dd : List Bool) (hd : dd.length ≤ 1048576) (d : Nat) : ∀ i : Nat, i + d = dd.length → Ev (fun k => spec_l2copy.l1 k dd (dd.length : Int) (i : Int) b ss (dd.take i)) (b, ss, dd) := by
  induction d with
  | zero =>
    intro i hi
    refine Ev.step1 fun k => ?_
    simp only [spec_l2copy.l1]
    rw [if_neg (by omega), List.take_of_length_le (by omega)]
  | succ d ih =>
    intro i hi
    have hlt : i < dd.length := by omega
    have hr : rdOf false dd (i : Int) = dd[i] := by simp [rdOf, hlt]
    refine Ev.step (fun k => ?_) (ih (i + 1) (by omega))
    simp only [spec_l2copy.l1, hr, wrap_succ (show i < 9223372036854775807 by omega)]
    rw [if_pos (by omega), if_pos (by omega), if_pos (by omega), if_pos (by simp; omega), List.take_succ_eq_append_getElem hlt]
theorem specCopy_l0 (b : Bool) (ss : List S50) (dd : List Bool) (hs : ss.length ≤ 1048576) (hd : dd.length ≤ 1048576) (d : Nat) : ∀ i : Nat, i + d = ss.length → Ev (fun k => spec_l2copy.l0 k ss (ss.length : Int) (i : Int) b ss dd b (ss.take i)) (b, ss, dd) := by
  induction d with
  | zero =>
    intro i hi
    refine Ev.step (fun k => ?_) (specCopy_l1 b ss dd hd dd.length 0 (by omega))
    simp only [spec_l2copy.l0]
    rw [if_neg (by omega), List.take_of_length_le (by omega)]
    rfl
  | succ d ih =>
    intro i hi
    have hlt : i < ss.length := by omega
    refine Ev.step (fun k => ?_) (ih (i + 1) (by omega))
    simp only [spec_l2copy.l0, rd50_get ss i hlt, wrap_succ (show i < 9223372036854775807 by omega)]
    rw [if_pos (by omega), if_pos (by omega), if_pos (by omega), if_pos (by simp; omega), List.take_succ_eq_append_getElem hlt]
theorem specCopy_ev (b : Bool) (ss : List S50) (dd : List Bool) (hs : ss.length ≤ 1048576) (hd : dd.length ≤ 1048576) : Ev (fun k => spec_l2copy.f k b ss dd) (b, ss, dd) := by
  unfold spec_l2copy.f
  exact specCopy_l0 b ss dd hs hd ss.length 0 (by omega)
theorem copy_is {b : Bool} {A1 : Option Addr} {c1 : Nat} {ss : List S50} {A2 : Option Addr} {c2 : Nat} {dd : List Bool} {w : World} (hr1 : Kd.C k50 w A1 ss.length ss) (hc1 : ss.length ≤ c1) (hr2 : Kd.C Kd.bool w A2 dd.length dd) (hc2 : dd.length ≤ c2) (hs : ss.length ≤ 1048576) (hd : dd.length ≤ 1048576) :
    Calls Try.prog 93 #[.agg #[.bool b, .slice A1 ss.length c1, .slice A2 dd.length c2]] w fun e w' => ∃ v1_ v2_ : Value, e = .returned (.agg #[.bool b, v1_, v2_]) ∧ Kd.R k50 50 w' w.heap.size (fun _ => True) v1_ ss ∧ Kd.R Kd.bool 4 w' w.heap.size (fun _ => True) v2_ dd ∧ Below w.heap.size w w' := by
  obtain ⟨k, h⟩ := (specCopy_ev b ss dd hs hd).rounds
  exact spec_l2copy.calls k b A1 c1 ss A2 c2 dd b ss dd w hr1 hc1 hr2 hc2 h
end Go.Proofs.Ytpdnabhpkdchjaa.P
namespace Go.Proofs.Ytpdnabhpkdchjaa.P
open Go.RowKit Go.Proofs.YtpdnabhpkdchjaaW.PrintWords Go.Proofs.YtpdnabhpkdchjaaW.PrintLast Go.Proofs.YtpdnabhpkdchjaaW.PrintMore
set_option linter.unusedVariables false
set_option linter.unusedSimpArgs false
theorem l1in_calls (x a b : Int) (w : World) : Calls Try.prog 87 #[.int .i64 x, .int .i64 a, .int .i64 b] w fun e w' => e = .returned (.bool (decide (a ≤ x) && decide (x ≤ b))) ∧ w = w' := by
  by_cases h : a ≤ x
  · have h1 : decide (x ≥ a) = true := decide_eq_true h
    rw [decide_eq_true h, Bool.true_and]
    go_enter Try.func87, Try.ntmps87
    go_wp2
    go_ret
    exact ⟨rfl, rfl⟩
  · have h1 : decide (x ≥ a) = false := decide_eq_false h
    rw [decide_eq_false h, Bool.false_and]
    go_enter Try.func87, Try.ntmps87
    go_wp2
    go_ret
    exact ⟨rfl, rfl⟩
theorem add_none (s b : Int) (v : Value) (w : World) (h : s < 0) : Calls Try.prog 118 #[v, .int .i64 s, .int .i64 b] w fun e w' => e = .returned (.tuple #[]) ∧ w = w' := by
  have h1 : decide (s < 0) = true := decide_eq_true h
  go_enter Try.func118, Try.ntmps118
  go_wp2
  refine bodyPost_ret (results_none rfl _ _ _) rfl ?_
  exact ⟨rfl, rfl⟩
set_option maxHeartbeats 4000000 in
set_option maxRecDepth 100000 in
theorem add_in (s : Int) (bo : Bool) (g gr n c : Nat) (v2 : Value) (l : List S50) (w : World) (base : Nat) (ok : Nat → Prop) (h0 : 0 ≤ s) (h1 : s < n)
    (hb : w.heap[g]? = some (.cells #[.bool bo, .slice (some ⟨gr, 0, none⟩) n c, v2] 46 (0, 0))) (HO : Kd.R k50 50 w base ok (.slice (some ⟨gr, 0, none⟩) n c) l) :
    Calls Try.prog 118 #[.pointer (some ⟨g, 0, none⟩), .int .i64 s, .int .i64 (1)] w fun e w' => e = .returned (.tuple #[]) ∧ Kd.R k50 50 w' base ok (.slice (some ⟨gr, 0, none⟩) n c) (l.set s.toNat (countS (rd_T50 l s) (1))) ∧ w.grownBy w' (some gr) := by
  obtain ⟨x0, x1, x2, x3, x4, f0, f1, f2, f3, f4⟩ := sec_at HO s h0 h1
  have hc1 : w.cell? ⟨g, 1, none⟩ = some (.slice (some ⟨gr, 0, none⟩) n c) := (blk_cell hb 1).trans rfl
  have hs : decide (s < 0) = false := decide_eq_false (by omega)
  have H0 := Aside0.mk h0
  have H1 := Aside0.mk h1
  have HO2 := Aside0.mk HO
  have hp0 := eq_true h0
  have hp1 := eq_true h1
  have ST := Aside0.mk (SecSt.start HO H0.out H1.out)
  generalize hx : rd_T50 l s = x at x0 x1 x2 x3 x4 ST ⊢
  have HX := hx
  clear hx hb h0 h1 HO HO2 HX
  by_cases q1 : -1000000 ≤ wrap64 (x.f1 + 1)
  · skip
    have Q1 := Aside0.mk q1
    clear q1
    by_cases q2 : wrap64 (x.f1 + 1) ≤ 1000000
    · skip
      have Q2 := Aside0.mk q2
      clear q2
      by_cases q3 : wrap64 (x.f1 + 1) < 0
      · skip
        have f3 : decide (wrap64 (x.f1 + 1) < 0) = true := decide_eq_true q3
        have Q3 := Aside0.mk q3
        clear q3
        rcases Bool.eq_false_or_eq_true x.f3 with q4 | q4
        · skip
          have HC := Aside0.mk (show (decide (-1000000 ≤ wrap64 (x.f1 + 1)) && decide (wrap64 (x.f1 + 1) ≤ 1000000)) = true from by have h1 := Q1.out; have h2 := Q2.out; rw [decide_eq_true h1, decide_eq_true h2]; rfl)
          go_enter Try.func118, Try.ntmps118
          go_wp2_with (go_at_call 87; refine (l1in_calls _ _ _ _).mono ?_; rintro e w' ⟨rfl, rfl⟩; rw [HC.out])
          go_wp2
          go_end0
          exact ⟨rfl, SecSt.eq (((ST.out.put1 H0.out H1.out rfl).put4 H0.out H1.out rfl).put2 H0.out H1.out rfl) (countS_eq (cnt_in (by have := Q1.out; omega) (by have := Q2.out; omega)) (by rw [decide_eq_true (by have := Q3.out; omega)]; simp) (by simp))⟩
        · have Q4 := Aside0.mk q4
          have HC := Aside0.mk (show (decide (-1000000 ≤ wrap64 (x.f1 + 1)) && decide (wrap64 (x.f1 + 1) ≤ 1000000)) = true from by have h1 := Q1.out; have h2 := Q2.out; rw [decide_eq_true h1, decide_eq_true h2]; rfl)
          go_enter Try.func118, Try.ntmps118
          go_wp2_with (go_at_call 87; refine (l1in_calls _ _ _ _).mono ?_; rintro e w' ⟨rfl, rfl⟩; rw [HC.out])
          go_wp2
          go_end0
          exact ⟨rfl, SecSt.eq (((ST.out.put1 H0.out H1.out rfl).put4 H0.out H1.out rfl).put2 H0.out H1.out rfl) (countS_eq (cnt_in (by have := Q1.out; omega) (by have := Q2.out; omega)) (by rw [decide_eq_true (by have := Q3.out; omega)]; simp) (by rw [Q4.out]; rfl))⟩
      · skip
        have f3 : decide (wrap64 (x.f1 + 1) < 0) = false := decide_eq_false q3
        have Q3 := Aside0.mk q3
        clear q3
        rcases Bool.eq_false_or_eq_true x.f3 with q4 | q4
        · skip
          have HC := Aside0.mk (show (decide (-1000000 ≤ wrap64 (x.f1 + 1)) && decide (wrap64 (x.f1 + 1) ≤ 1000000)) = true from by have h1 := Q1.out; have h2 := Q2.out; rw [decide_eq_true h1, decide_eq_true h2]; rfl)
          go_enter Try.func118, Try.ntmps118
          go_wp2_with (go_at_call 87; refine (l1in_calls _ _ _ _).mono ?_; rintro e w' ⟨rfl, rfl⟩; rw [HC.out])
          go_wp2
          go_end0
          exact ⟨rfl, SecSt.eq ((ST.out.put1 H0.out H1.out rfl).put4 H0.out H1.out rfl) (countS_eq (cnt_in (by have := Q1.out; omega) (by have := Q2.out; omega)) (by rw [decide_eq_false (by have := Q3.out; omega)]; simp) (by simp))⟩
        · have Q4 := Aside0.mk q4
          have HC := Aside0.mk (show (decide (-1000000 ≤ wrap64 (x.f1 + 1)) && decide (wrap64 (x.f1 + 1) ≤ 1000000)) = true from by have h1 := Q1.out; have h2 := Q2.out; rw [decide_eq_true h1, decide_eq_true h2]; rfl)
          go_enter Try.func118, Try.ntmps118
          go_wp2_with (go_at_call 87; refine (l1in_calls _ _ _ _).mono ?_; rintro e w' ⟨rfl, rfl⟩; rw [HC.out])
          go_wp2
          go_end0
          exact ⟨rfl, SecSt.eq ((ST.out.put1 H0.out H1.out rfl).put4 H0.out H1.out rfl) (countS_eq (cnt_in (by have := Q1.out; omega) (by have := Q2.out; omega)) (by rw [decide_eq_false (by have := Q3.out; omega)]; simp) (by rw [Q4.out]; rfl))⟩
    · skip
      have Q2 := Aside0.mk q2
      clear q2
      by_cases q3 : x.f1 < 0
      · skip
        have f3 : decide (x.f1 < 0) = true := decide_eq_true q3
        have Q3 := Aside0.mk q3
        clear q3
        rcases Bool.eq_false_or_eq_true x.f3 with q4 | q4
        · skip
          have HC := Aside0.mk (show (decide (-1000000 ≤ wrap64 (x.f1 + 1)) && decide (wrap64 (x.f1 + 1) ≤ 1000000)) = false from by have h2 := Q2.out; rw [decide_eq_false h2, Bool.and_false])
          go_enter Try.func118, Try.ntmps118
          go_wp2_with (go_at_call 87; refine (l1in_calls _ _ _ _).mono ?_; rintro e w' ⟨rfl, rfl⟩; rw [HC.out])
          go_wp2
          go_end0
          exact ⟨rfl, SecSt.eq ((ST.out.put4 H0.out H1.out rfl).put2 H0.out H1.out rfl) (countS_eq (cnt_hi (by have := Q2.out; omega)) (by rw [decide_eq_true (by have := Q3.out; omega)]; simp) (by simp))⟩
        · have Q4 := Aside0.mk q4
          have HC := Aside0.mk (show (decide (-1000000 ≤ wrap64 (x.f1 + 1)) && decide (wrap64 (x.f1 + 1) ≤ 1000000)) = false from by have h2 := Q2.out; rw [decide_eq_false h2, Bool.and_false])
          go_enter Try.func118, Try.ntmps118
          go_wp2_with (go_at_call 87; refine (l1in_calls _ _ _ _).mono ?_; rintro e w' ⟨rfl, rfl⟩; rw [HC.out])
          go_wp2
          go_end0
          exact ⟨rfl, SecSt.eq ((ST.out.put4 H0.out H1.out rfl).put2 H0.out H1.out rfl) (countS_eq (cnt_hi (by have := Q2.out; omega)) (by rw [decide_eq_true (by have := Q3.out; omega)]; simp) (by rw [Q4.out]; rfl))⟩
      · skip
        have f3 : decide (x.f1 < 0) = false := decide_eq_false q3
        have Q3 := Aside0.mk q3
        clear q3
        rcases Bool.eq_false_or_eq_true x.f3 with q4 | q4
        · skip
          have HC := Aside0.mk (show (decide (-1000000 ≤ wrap64 (x.f1 + 1)) && decide (wrap64 (x.f1 + 1) ≤ 1000000)) = false from by have h2 := Q2.out; rw [decide_eq_false h2, Bool.and_false])
          go_enter Try.func118, Try.ntmps118
          go_wp2_with (go_at_call 87; refine (l1in_calls _ _ _ _).mono ?_; rintro e w' ⟨rfl, rfl⟩; rw [HC.out])
          go_wp2
          go_end0
          exact ⟨rfl, SecSt.eq (ST.out.put4 H0.out H1.out rfl) (countS_eq (cnt_hi (by have := Q2.out; omega)) (by rw [decide_eq_false (by have := Q3.out; omega)]; simp) (by simp))⟩
        · have Q4 := Aside0.mk q4
          have HC := Aside0.mk (show (decide (-1000000 ≤ wrap64 (x.f1 + 1)) && decide (wrap64 (x.f1 + 1) ≤ 1000000)) = false from by have h2 := Q2.out; rw [decide_eq_false h2, Bool.and_false])
          go_enter Try.func118, Try.ntmps118
          go_wp2_with (go_at_call 87; refine (l1in_calls _ _ _ _).mono ?_; rintro e w' ⟨rfl, rfl⟩; rw [HC.out])
          go_wp2
          go_end0
          exact ⟨rfl, SecSt.eq (ST.out.put4 H0.out H1.out rfl) (countS_eq (cnt_hi (by have := Q2.out; omega)) (by rw [decide_eq_false (by have := Q3.out; omega)]; simp) (by rw [Q4.out]; rfl))⟩
  · skip
    have Q1 := Aside0.mk q1
    clear q1
    by_cases q3 : x.f1 < 0
    · skip
      have f3 : decide (x.f1 < 0) = true := decide_eq_true q3
      have Q3 := Aside0.mk q3
      clear q3
      rcases Bool.eq_false_or_eq_true x.f3 with q4 | q4
      · skip
        have HC := Aside0.mk (show (decide (-1000000 ≤ wrap64 (x.f1 + 1)) && decide (wrap64 (x.f1 + 1) ≤ 1000000)) = false from by have h1 := Q1.out; rw [decide_eq_false h1, Bool.false_and])
        go_enter Try.func118, Try.ntmps118
        go_wp2_with (go_at_call 87; refine (l1in_calls _ _ _ _).mono ?_; rintro e w' ⟨rfl, rfl⟩; rw [HC.out])
        go_wp2
        go_end0
        exact ⟨rfl, SecSt.eq ((ST.out.put4 H0.out H1.out rfl).put2 H0.out H1.out rfl) (countS_eq (cnt_lo (by have := Q1.out; omega)) (by rw [decide_eq_true (by have := Q3.out; omega)]; simp) (by simp))⟩
      · have Q4 := Aside0.mk q4
        have HC := Aside0.mk (show (decide (-1000000 ≤ wrap64 (x.f1 + 1)) && decide (wrap64 (x.f1 + 1) ≤ 1000000)) = false from by have h1 := Q1.out; rw [decide_eq_false h1, Bool.false_and])
        go_enter Try.func118, Try.ntmps118
        go_wp2_with (go_at_call 87; refine (l1in_calls _ _ _ _).mono ?_; rintro e w' ⟨rfl, rfl⟩; rw [HC.out])
        go_wp2
        go_end0
        exact ⟨rfl, SecSt.eq ((ST.out.put4 H0.out H1.out rfl).put2 H0.out H1.out rfl) (countS_eq (cnt_lo (by have := Q1.out; omega)) (by rw [decide_eq_true (by have := Q3.out; omega)]; simp) (by rw [Q4.out]; rfl))⟩
    · skip
      have f3 : decide (x.f1 < 0) = false := decide_eq_false q3
      have Q3 := Aside0.mk q3
      clear q3
      rcases Bool.eq_false_or_eq_true x.f3 with q4 | q4
      · skip
        have HC := Aside0.mk (show (decide (-1000000 ≤ wrap64 (x.f1 + 1)) && decide (wrap64 (x.f1 + 1) ≤ 1000000)) = false from by have h1 := Q1.out; rw [decide_eq_false h1, Bool.false_and])
        go_enter Try.func118, Try.ntmps118
        go_wp2_with (go_at_call 87; refine (l1in_calls _ _ _ _).mono ?_; rintro e w' ⟨rfl, rfl⟩; rw [HC.out])
        go_wp2
        go_end0
        exact ⟨rfl, SecSt.eq (ST.out.put4 H0.out H1.out rfl) (countS_eq (cnt_lo (by have := Q1.out; omega)) (by rw [decide_eq_false (by have := Q3.out; omega)]; simp) (by simp))⟩
      · have Q4 := Aside0.mk q4
        have HC := Aside0.mk (show (decide (-1000000 ≤ wrap64 (x.f1 + 1)) && decide (wrap64 (x.f1 + 1) ≤ 1000000)) = false from by have h1 := Q1.out; rw [decide_eq_false h1, Bool.false_and])
        go_enter Try.func118, Try.ntmps118
        go_wp2_with (go_at_call 87; refine (l1in_calls _ _ _ _).mono ?_; rintro e w' ⟨rfl, rfl⟩; rw [HC.out])
        go_wp2
        go_end0
        exact ⟨rfl, SecSt.eq (ST.out.put4 H0.out H1.out rfl) (countS_eq (cnt_lo (by have := Q1.out; omega)) (by rw [decide_eq_false (by have := Q3.out; omega)]; simp) (by rw [Q4.out]; rfl))⟩
set_option maxHeartbeats 4000000 in
set_option maxRecDepth 100000 in
theorem add_out (s : Int) (bo : Bool) (g gr n c : Nat) (v2 : Value) (l : List S50) (w : World) (base : Nat) (ok : Nat → Prop) (h0 : 0 ≤ s) (h1 : s < n)
    (hb : w.heap[g]? = some (.cells #[.bool bo, .slice (some ⟨gr, 0, none⟩) n c, v2] 46 (0, 0))) (HO : Kd.R k50 50 w base ok (.slice (some ⟨gr, 0, none⟩) n c) l) :
    Calls Try.prog 118 #[.pointer (some ⟨g, 0, none⟩), .int .i64 s, .int .i64 (-1)] w fun e w' => e = .returned (.tuple #[]) ∧ Kd.R k50 50 w' base ok (.slice (some ⟨gr, 0, none⟩) n c) (l.set s.toNat (countS (rd_T50 l s) (-1))) ∧ w.grownBy w' (some gr) := by
  obtain ⟨x0, x1, x2, x3, x4, f0, f1, f2, f3, f4⟩ := sec_at HO s h0 h1
  have hc1 : w.cell? ⟨g, 1, none⟩ = some (.slice (some ⟨gr, 0, none⟩) n c) := (blk_cell hb 1).trans rfl
  have hs : decide (s < 0) = false := decide_eq_false (by omega)
  have H0 := Aside0.mk h0
  have H1 := Aside0.mk h1
  have HO2 := Aside0.mk HO
  have hp0 := eq_true h0
  have hp1 := eq_true h1
  have ST := Aside0.mk (SecSt.start HO H0.out H1.out)
  generalize hx : rd_T50 l s = x at x0 x1 x2 x3 x4 ST ⊢
  have HX := hx
  clear hx hb h0 h1 HO HO2 HX
  by_cases q1 : -1000000 ≤ wrap64 (x.f1 + -1)
  · skip
    have Q1 := Aside0.mk q1
    clear q1
    by_cases q2 : wrap64 (x.f1 + -1) ≤ 1000000
    · skip
      have Q2 := Aside0.mk q2
      clear q2
      by_cases q3 : wrap64 (x.f1 + -1) < 0
      · skip
        have f3 : decide (wrap64 (x.f1 + -1) < 0) = true := decide_eq_true q3
        have Q3 := Aside0.mk q3
        clear q3
        rcases Bool.eq_false_or_eq_true x.f3 with q4 | q4
        · skip
          by_cases q5 : wrap64 (x.f1 + -1) = 0
          · skip
            have f5 : (wrap64 (x.f1 + -1) == 0) = true := beq_iff_eq.mpr q5
            have Q5 := Aside0.mk q5
            clear q5
            exact absurd Q5.out (by have := Q3.out; omega)
          · skip
            have f5 : (wrap64 (x.f1 + -1) == 0) = false := beq_eq_false_iff_ne.mpr q5
            have Q5 := Aside0.mk q5
            clear q5
            have HC := Aside0.mk (show (decide (-1000000 ≤ wrap64 (x.f1 + -1)) && decide (wrap64 (x.f1 + -1) ≤ 1000000)) = true from by have h1 := Q1.out; have h2 := Q2.out; rw [decide_eq_true h1, decide_eq_true h2]; rfl)
            go_enter Try.func118, Try.ntmps118
            go_wp2_with (go_at_call 87; refine (l1in_calls _ _ _ _).mono ?_; rintro e w' ⟨rfl, rfl⟩; rw [HC.out])
            go_wp2
            go_end0
            exact ⟨rfl, SecSt.eq (((ST.out.put1 H0.out H1.out rfl).put4 H0.out H1.out rfl).put2 H0.out H1.out rfl) (countS_eq (cnt_in (by have := Q1.out; omega) (by have := Q2.out; omega)) (by rw [decide_eq_true (by have := Q3.out; omega)]; simp) (by rw [decide_eq_false (by have := Q5.out; omega)]; simp))⟩
        · have Q4 := Aside0.mk q4
          have HC := Aside0.mk (show (decide (-1000000 ≤ wrap64 (x.f1 + -1)) && decide (wrap64 (x.f1 + -1) ≤ 1000000)) = true from by have h1 := Q1.out; have h2 := Q2.out; rw [decide_eq_true h1, decide_eq_true h2]; rfl)
          go_enter Try.func118, Try.ntmps118
          go_wp2_with (go_at_call 87; refine (l1in_calls _ _ _ _).mono ?_; rintro e w' ⟨rfl, rfl⟩; rw [HC.out])
          go_wp2
          go_end0
          exact ⟨rfl, SecSt.eq (((ST.out.put1 H0.out H1.out rfl).put4 H0.out H1.out rfl).put2 H0.out H1.out rfl) (countS_eq (cnt_in (by have := Q1.out; omega) (by have := Q2.out; omega)) (by rw [decide_eq_true (by have := Q3.out; omega)]; simp) (by rw [Q4.out]; rfl))⟩
      · skip
        have f3 : decide (wrap64 (x.f1 + -1) < 0) = false := decide_eq_false q3
        have Q3 := Aside0.mk q3
        clear q3
        rcases Bool.eq_false_or_eq_true x.f3 with q4 | q4
        · skip
          by_cases q5 : wrap64 (x.f1 + -1) = 0
          · skip
            have f5 : (wrap64 (x.f1 + -1) == 0) = true := beq_iff_eq.mpr q5
            have Q5 := Aside0.mk q5
            clear q5
            have HC := Aside0.mk (show (decide (-1000000 ≤ wrap64 (x.f1 + -1)) && decide (wrap64 (x.f1 + -1) ≤ 1000000)) = true from by have h1 := Q1.out; have h2 := Q2.out; rw [decide_eq_true h1, decide_eq_true h2]; rfl)
            go_enter Try.func118, Try.ntmps118
            go_wp2_with (go_at_call 87; refine (l1in_calls _ _ _ _).mono ?_; rintro e w' ⟨rfl, rfl⟩; rw [HC.out])
            go_wp2
            go_end0
            exact ⟨rfl, SecSt.eq (((ST.out.put1 H0.out H1.out rfl).put4 H0.out H1.out rfl).put3 H0.out H1.out rfl) (countS_eq (cnt_in (by have := Q1.out; omega) (by have := Q2.out; omega)) (by rw [decide_eq_false (by have := Q3.out; omega)]; simp) (by rw [decide_eq_true (by have := Q5.out; omega)]; simp))⟩
          · skip
            have f5 : (wrap64 (x.f1 + -1) == 0) = false := beq_eq_false_iff_ne.mpr q5
            have Q5 := Aside0.mk q5
            clear q5
            have HC := Aside0.mk (show (decide (-1000000 ≤ wrap64 (x.f1 + -1)) && decide (wrap64 (x.f1 + -1) ≤ 1000000)) = true from by have h1 := Q1.out; have h2 := Q2.out; rw [decide_eq_true h1, decide_eq_true h2]; rfl)
            go_enter Try.func118, Try.ntmps118
            go_wp2_with (go_at_call 87; refine (l1in_calls _ _ _ _).mono ?_; rintro e w' ⟨rfl, rfl⟩; rw [HC.out])
            go_wp2
            go_end0
            exact ⟨rfl, SecSt.eq ((ST.out.put1 H0.out H1.out rfl).put4 H0.out H1.out rfl) (countS_eq (cnt_in (by have := Q1.out; omega) (by have := Q2.out; omega)) (by rw [decide_eq_false (by have := Q3.out; omega)]; simp) (by rw [decide_eq_false (by have := Q5.out; omega)]; simp))⟩
        · have Q4 := Aside0.mk q4
          have HC := Aside0.mk (show (decide (-1000000 ≤ wrap64 (x.f1 + -1)) && decide (wrap64 (x.f1 + -1) ≤ 1000000)) = true from by have h1 := Q1.out; have h2 := Q2.out; rw [decide_eq_true h1, decide_eq_true h2]; rfl)
          go_enter Try.func118, Try.ntmps118
          go_wp2_with (go_at_call 87; refine (l1in_calls _ _ _ _).mono ?_; rintro e w' ⟨rfl, rfl⟩; rw [HC.out])
          go_wp2
          go_end0
          exact ⟨rfl, SecSt.eq ((ST.out.put1 H0.out H1.out rfl).put4 H0.out H1.out rfl) (countS_eq (cnt_in (by have := Q1.out; omega) (by have := Q2.out; omega)) (by rw [decide_eq_false (by have := Q3.out; omega)]; simp) (by rw [Q4.out]; rfl))⟩
    · skip
      have Q2 := Aside0.mk q2
      clear q2
      by_cases q3 : x.f1 < 0
      · skip
        have f3 : decide (x.f1 < 0) = true := decide_eq_true q3
        have Q3 := Aside0.mk q3
        clear q3
        rcases Bool.eq_false_or_eq_true x.f3 with q4 | q4
        · skip
          by_cases q5 : x.f1 = 0
          · skip
            have f5 : (x.f1 == 0) = true := beq_iff_eq.mpr q5
            have Q5 := Aside0.mk q5
            clear q5
            exact absurd Q5.out (by have := Q3.out; omega)
          · skip
            have f5 : (x.f1 == 0) = false := beq_eq_false_iff_ne.mpr q5
            have Q5 := Aside0.mk q5
            clear q5
            have HC := Aside0.mk (show (decide (-1000000 ≤ wrap64 (x.f1 + -1)) && decide (wrap64 (x.f1 + -1) ≤ 1000000)) = false from by have h2 := Q2.out; rw [decide_eq_false h2, Bool.and_false])
            go_enter Try.func118, Try.ntmps118
            go_wp2_with (go_at_call 87; refine (l1in_calls _ _ _ _).mono ?_; rintro e w' ⟨rfl, rfl⟩; rw [HC.out])
            go_wp2
            go_end0
            exact ⟨rfl, SecSt.eq ((ST.out.put4 H0.out H1.out rfl).put2 H0.out H1.out rfl) (countS_eq (cnt_hi (by have := Q2.out; omega)) (by rw [decide_eq_true (by have := Q3.out; omega)]; simp) (by rw [decide_eq_false (by have := Q5.out; omega)]; simp))⟩
        · have Q4 := Aside0.mk q4
          have HC := Aside0.mk (show (decide (-1000000 ≤ wrap64 (x.f1 + -1)) && decide (wrap64 (x.f1 + -1) ≤ 1000000)) = false from by have h2 := Q2.out; rw [decide_eq_false h2, Bool.and_false])
          go_enter Try.func118, Try.ntmps118
          go_wp2_with (go_at_call 87; refine (l1in_calls _ _ _ _).mono ?_; rintro e w' ⟨rfl, rfl⟩; rw [HC.out])
          go_wp2
          go_end0
          exact ⟨rfl, SecSt.eq ((ST.out.put4 H0.out H1.out rfl).put2 H0.out H1.out rfl) (countS_eq (cnt_hi (by have := Q2.out; omega)) (by rw [decide_eq_true (by have := Q3.out; omega)]; simp) (by rw [Q4.out]; rfl))⟩
      · skip
        have f3 : decide (x.f1 < 0) = false := decide_eq_false q3
        have Q3 := Aside0.mk q3
        clear q3
        rcases Bool.eq_false_or_eq_true x.f3 with q4 | q4
        · skip
          by_cases q5 : x.f1 = 0
          · skip
            have f5 : (x.f1 == 0) = true := beq_iff_eq.mpr q5
            have Q5 := Aside0.mk q5
            clear q5
            have HC := Aside0.mk (show (decide (-1000000 ≤ wrap64 (x.f1 + -1)) && decide (wrap64 (x.f1 + -1) ≤ 1000000)) = false from by have h2 := Q2.out; rw [decide_eq_false h2, Bool.and_false])
            go_enter Try.func118, Try.ntmps118
            go_wp2_with (go_at_call 87; refine (l1in_calls _ _ _ _).mono ?_; rintro e w' ⟨rfl, rfl⟩; rw [HC.out])
            go_wp2
            go_end0
            exact ⟨rfl, SecSt.eq ((ST.out.put4 H0.out H1.out rfl).put3 H0.out H1.out rfl) (countS_eq (cnt_hi (by have := Q2.out; omega)) (by rw [decide_eq_false (by have := Q3.out; omega)]; simp) (by rw [decide_eq_true (by have := Q5.out; omega)]; simp))⟩
          · skip
            have f5 : (x.f1 == 0) = false := beq_eq_false_iff_ne.mpr q5
            have Q5 := Aside0.mk q5
            clear q5
            have HC := Aside0.mk (show (decide (-1000000 ≤ wrap64 (x.f1 + -1)) && decide (wrap64 (x.f1 + -1) ≤ 1000000)) = false from by have h2 := Q2.out; rw [decide_eq_false h2, Bool.and_false])
            go_enter Try.func118, Try.ntmps118
            go_wp2_with (go_at_call 87; refine (l1in_calls _ _ _ _).mono ?_; rintro e w' ⟨rfl, rfl⟩; rw [HC.out])
            go_wp2
            go_end0
            exact ⟨rfl, SecSt.eq (ST.out.put4 H0.out H1.out rfl) (countS_eq (cnt_hi (by have := Q2.out; omega)) (by rw [decide_eq_false (by have := Q3.out; omega)]; simp) (by rw [decide_eq_false (by have := Q5.out; omega)]; simp))⟩
        · have Q4 := Aside0.mk q4
          have HC := Aside0.mk (show (decide (-1000000 ≤ wrap64 (x.f1 + -1)) && decide (wrap64 (x.f1 + -1) ≤ 1000000)) = false from by have h2 := Q2.out; rw [decide_eq_false h2, Bool.and_false])
          go_enter Try.func118, Try.ntmps118
          go_wp2_with (go_at_call 87; refine (l1in_calls _ _ _ _).mono ?_; rintro e w' ⟨rfl, rfl⟩; rw [HC.out])
          go_wp2
          go_end0
          exact ⟨rfl, SecSt.eq (ST.out.put4 H0.out H1.out rfl) (countS_eq (cnt_hi (by have := Q2.out; omega)) (by rw [decide_eq_false (by have := Q3.out; omega)]; simp) (by rw [Q4.out]; rfl))⟩
  · skip
    have Q1 := Aside0.mk q1
    clear q1
    by_cases q3 : x.f1 < 0
    · skip
      have f3 : decide (x.f1 < 0) = true := decide_eq_true q3
      have Q3 := Aside0.mk q3
      clear q3
      rcases Bool.eq_false_or_eq_true x.f3 with q4 | q4
      · skip
        by_cases q5 : x.f1 = 0
        · skip
          have f5 : (x.f1 == 0) = true := beq_iff_eq.mpr q5
          have Q5 := Aside0.mk q5
          clear q5
          exact absurd Q5.out (by have := Q3.out; omega)
        · skip
          have f5 : (x.f1 == 0) = false := beq_eq_false_iff_ne.mpr q5
          have Q5 := Aside0.mk q5
          clear q5
          have HC := Aside0.mk (show (decide (-1000000 ≤ wrap64 (x.f1 + -1)) && decide (wrap64 (x.f1 + -1) ≤ 1000000)) = false from by have h1 := Q1.out; rw [decide_eq_false h1, Bool.false_and])
          go_enter Try.func118, Try.ntmps118
          go_wp2_with (go_at_call 87; refine (l1in_calls _ _ _ _).mono ?_; rintro e w' ⟨rfl, rfl⟩; rw [HC.out])
          go_wp2
          go_end0
          exact ⟨rfl, SecSt.eq ((ST.out.put4 H0.out H1.out rfl).put2 H0.out H1.out rfl) (countS_eq (cnt_lo (by have := Q1.out; omega)) (by rw [decide_eq_true (by have := Q3.out; omega)]; simp) (by rw [decide_eq_false (by have := Q5.out; omega)]; simp))⟩
      · have Q4 := Aside0.mk q4
        have HC := Aside0.mk (show (decide (-1000000 ≤ wrap64 (x.f1 + -1)) && decide (wrap64 (x.f1 + -1) ≤ 1000000)) = false from by have h1 := Q1.out; rw [decide_eq_false h1, Bool.false_and])
        go_enter Try.func118, Try.ntmps118
        go_wp2_with (go_at_call 87; refine (l1in_calls _ _ _ _).mono ?_; rintro e w' ⟨rfl, rfl⟩; rw [HC.out])
        go_wp2
        go_end0
        exact ⟨rfl, SecSt.eq ((ST.out.put4 H0.out H1.out rfl).put2 H0.out H1.out rfl) (countS_eq (cnt_lo (by have := Q1.out; omega)) (by rw [decide_eq_true (by have := Q3.out; omega)]; simp) (by rw [Q4.out]; rfl))⟩
    · skip
      have f3 : decide (x.f1 < 0) = false := decide_eq_false q3
      have Q3 := Aside0.mk q3
      clear q3
      rcases Bool.eq_false_or_eq_true x.f3 with q4 | q4
      · skip
        by_cases q5 : x.f1 = 0
        · skip
          have f5 : (x.f1 == 0) = true := beq_iff_eq.mpr q5
          have Q5 := Aside0.mk q5
          clear q5
          have HC := Aside0.mk (show (decide (-1000000 ≤ wrap64 (x.f1 + -1)) && decide (wrap64 (x.f1 + -1) ≤ 1000000)) = false from by have h1 := Q1.out; rw [decide_eq_false h1, Bool.false_and])
          go_enter Try.func118, Try.ntmps118
          go_wp2_with (go_at_call 87; refine (l1in_calls _ _ _ _).mono ?_; rintro e w' ⟨rfl, rfl⟩; rw [HC.out])
          go_wp2
          go_end0
          exact ⟨rfl, SecSt.eq ((ST.out.put4 H0.out H1.out rfl).put3 H0.out H1.out rfl) (countS_eq (cnt_lo (by have := Q1.out; omega)) (by rw [decide_eq_false (by have := Q3.out; omega)]; simp) (by rw [decide_eq_true (by have := Q5.out; omega)]; simp))⟩
        · skip
          have f5 : (x.f1 == 0) = false := beq_eq_false_iff_ne.mpr q5
          have Q5 := Aside0.mk q5
          clear q5
          have HC := Aside0.mk (show (decide (-1000000 ≤ wrap64 (x.f1 + -1)) && decide (wrap64 (x.f1 + -1) ≤ 1000000)) = false from by have h1 := Q1.out; rw [decide_eq_false h1, Bool.false_and])
          go_enter Try.func118, Try.ntmps118
          go_wp2_with (go_at_call 87; refine (l1in_calls _ _ _ _).mono ?_; rintro e w' ⟨rfl, rfl⟩; rw [HC.out])
          go_wp2
          go_end0
          exact ⟨rfl, SecSt.eq (ST.out.put4 H0.out H1.out rfl) (countS_eq (cnt_lo (by have := Q1.out; omega)) (by rw [decide_eq_false (by have := Q3.out; omega)]; simp) (by rw [decide_eq_false (by have := Q5.out; omega)]; simp))⟩
      · have Q4 := Aside0.mk q4
        have HC := Aside0.mk (show (decide (-1000000 ≤ wrap64 (x.f1 + -1)) && decide (wrap64 (x.f1 + -1) ≤ 1000000)) = false from by have h1 := Q1.out; rw [decide_eq_false h1, Bool.false_and])
        go_enter Try.func118, Try.ntmps118
        go_wp2_with (go_at_call 87; refine (l1in_calls _ _ _ _).mono ?_; rintro e w' ⟨rfl, rfl⟩; rw [HC.out])
        go_wp2
        go_end0
        exact ⟨rfl, SecSt.eq (ST.out.put4 H0.out H1.out rfl) (countS_eq (cnt_lo (by have := Q1.out; omega)) (by rw [decide_eq_false (by have := Q3.out; omega)]; simp) (by rw [Q4.out]; rfl))⟩
end Go.Proofs.Ytpdnabhpkdchjaa.P
namespace Go.Proofs.Ytpdnabhpkdchjaa.P
open Go Go.RowKit Go.Proofs.YtpdnabhpkdchjaaW.PrintWords Go.Proofs.YtpdnabhpkdchjaaW.PrintLast Go.Proofs.YtpdnabhpkdchjaaW.PrintMore
set_option linter.unusedVariables false
def upto (n k : Nat) : Array Bool := (List.replicate k true ++ List.replicate (n - k) false).toArray
section
variable {P : Program} {md : Region.Mode} {ops : Array Oper} {T : Bool × List (List Nat × List Nat)} {B : List Nat} {Q : Exit → Act → World → Prop} {S : World → Prop} {ds : List Nat} {n k fuel : Nat} {N : Option Tmp} {oi : Oper} {v : Value} {a a' : Act} {w : World} {op : Op} {ty : TypeId} {pos : String} {af : Array Edge} {gu : Option (Nat × Bool)}
theorem wanted_none (hg : oi.guard = none) (y : Nat → Option Bool) : Region.wanted oi y = true := by unfold Region.wanted; rw [hg]
theorem wanted_yes {j : Nat} {u b : Bool} {y : Nat → Option Bool} (hg : oi.guard = some (j, u)) (hb : y j = some b) (he : (b == u) = true) : Region.wanted oi y = true := by
  unfold Region.wanted
  rw [hg]
  dsimp only
  rw [hb]
  cases b <;> cases u <;> first | rfl | cases he
theorem wanted_no {j : Nat} {u b : Bool} {y : Nat → Option Bool} (hg : oi.guard = some (j, u)) (hb : y j = some b) (he : (b == u) = false) : Region.wanted oi y = false := by
  unfold Region.wanted
  rw [hg]
  dsimp only
  rw [hb]
  cases b <;> cases u <;> first | rfl | cases he
theorem upto_zero (n : Nat) : Array.replicate n false = upto n 0 := by simp [upto]
theorem startK {id : Nat} (n : Nat) (hm : P.follows .mixedOrders = true) (hn : ops.size = n) (hS : S w.drew) (h : S w.drew → wpAnyLast P .any ops Q S ds n (upto n 0) a w.drew) : (Code.region id ops true).wp P Q a w := start_ (upto n 0) hm hn (upto_zero n) hS h
theorem take0 {k' : Nat} (hk : k + 1 = k') (hi : ops[k]? = some ⟨N, op, ty, pos, af, none⟩) (hT : rtab md ops = T) (hB : waitsOk T.2 B = true) (hc : takeW T B ds (upto n k).toList (upto n k').toList k = true) (hQ : ∀ c a w, Q (.panic c) (a.put N v) w → Q (.panic c) a w) (hS : S w) (hy : ∀ w, S w → (execOp a.eval ⟨N, op, ty, pos, af, none⟩).run P w = .ok (.value v) w) (ha : a.put N v = a') (h : wpAnyLast P md ops Q S ds fuel (upto n k') a' w) : wpAnyLast P md ops Q S ds (fuel + 1) (upto n k) a w :=
  take_ (upto n k') hi rfl (take_ofW hT hB hc) hQ (Or.inl ⟨wanted_none rfl _, hy⟩) hS ha h
theorem takeG {k' j : Nat} {u b : Bool} (hk : k + 1 = k') (hi : ops[k]? = some ⟨N, op, ty, pos, af, some (j, u)⟩) (hb : yielded ops a.tmps j = some b) (hT : rtab md ops = T) (hB : waitsOk T.2 B = true) (hc : takeW T B ds (upto n k).toList (upto n k').toList k = true) (hQ : ∀ c a w, Q (.panic c) (a.put N v) w → Q (.panic c) a w) (hS : S w) (hy : if (b == u) = true then ∀ w, S w → (execOp a.eval ⟨N, op, ty, pos, af, some (j, u)⟩).run P w = .ok (.value v) w else v = undef) (ha : a.put N v = a') (h : wpAnyLast P md ops Q S ds fuel (upto n k') a' w) : wpAnyLast P md ops Q S ds (fuel + 1) (upto n k) a w := by
  refine take_ (upto n k') hi rfl (take_ofW hT hB hc) hQ ?_ hS ha h
  cases he : (b == u) with
  | true => rw [he, if_pos rfl] at hy; exact Or.inl ⟨wanted_yes rfl hb he, hy⟩
  | false => rw [he, if_neg (by decide)] at hy; exact Or.inr ⟨wanted_no rfl hb he, hy⟩
theorem oneK {k' : Nat} (hk : k + 1 = k') (hi : ops[k]? = some ⟨N, op, ty, pos, af, gu⟩) (hT : rtab md ops = T) (hc : (readyT T.2 (upto n k).toList == [k] && (upto n k).toList.set k true == (upto n k').toList) = true) (hd : k ∉ ds)
    (h : ∀ K : Act → World → Prop, Shut (∀ a' w', S w' → (S w' → wpAnyLast P md ops Q S ds fuel (upto n k') a' w') → K a' w') → if Region.wanted ⟨N, op, ty, pos, af, gu⟩ (yielded ops a.tmps) = true then Oper.wp P ⟨N, op, ty, pos, af, gu⟩ a w K Q else K (a.put N undef) w) : wpAnyLast P md ops Q S ds (fuel + 1) (upto n k) a w :=
  one_ (upto n k') hi rfl (one_of hT hc) hd h
end
end Go.Proofs.Ytpdnabhpkdchjaa.P
namespace Go.Proofs.Ytpdnabhpkdchjaa.P
open Go.RowKit Go.Proofs.YtpdnabhpkdchjaaW.PrintWords Go.Proofs.YtpdnabhpkdchjaaW.PrintLast Go.Proofs.YtpdnabhpkdchjaaW.PrintMore
set_option linter.unusedVariables false
structure StSt (w0 w : World) (gl gz : Nat) (lv zv : List Value) : Prop where
  hB : Below w0.heap.size w0 w
  hl : w.heap[gl]? = some (.cells lv.toArray 30 (0, 0))
  hz : w.heap[gz]? = some (.cells zv.toArray 46 (0, 0))
structure SeSt (w0 w : World) (gl gz gx : Nat) (lv zv xv : List Value) : Prop where
  S : StSt w0 w gl gz lv zv
  hx : w.heap[gx]? = some (.cells xv.toArray 50 (0, 0))
section
variable {w0 w w' : World} {gl gz gx : Nat} {lv zv xv : List Value}
theorem StSt.up (h : StSt w0 w gl gz lv zv) (hb : Below w.heap.size w w') : StSt w0 w' gl gz lv zv := ⟨below_step h.hB hb, blk_below h.hl hb, blk_below h.hz hb⟩
theorem SeSt.up (h : SeSt w0 w gl gz gx lv zv xv) (hb : Below w.heap.size w w') : SeSt w0 w' gl gz gx lv zv xv := ⟨h.S.up hb, blk_below h.hx hb⟩
theorem StSt.fill {y0 y1 y2 y3 y4 x0 x1 x2 x3 x4 : Value} (h : StSt w0 w gl gz lv zv) (hx : w'.heap[gx]? = some (.cells #[x0, x1, x2, x3, x4] 50 (0, 0))) (hb : Below w.heap.size w w') (hg : w.heap.size ≤ gx) :
    SeSt w0 (((((w'.setCell ⟨gx, 0, none⟩ y0).setCell ⟨gx, 1, none⟩ y1).setCell ⟨gx, 2, none⟩ y2).setCell ⟨gx, 3, none⟩ y3).setCell ⟨gx, 4, none⟩ y4) gl gz gx lv zv [y0, y1, y2, y3, y4] := by
  have h2 := below_set (j := 4) (v := y4) (below_set (j := 3) (v := y3) (below_set (j := 2) (v := y2) (below_set (j := 1) (v := y1) (below_set (j := 0) (v := y0) hb hg) hg) hg) hg) hg
  exact ⟨h.up h2, blk_put (blk_put (blk_put (blk_put (blk_put hx 0 y0 rfl) 1 y1 rfl) 2 y2 rfl) 3 y3 rfl) 4 y4 rfl⟩
end
theorem stateOk_tests (n : Int) (l : List S88) (b : Bool) (ss : List S50) (dd : List Bool) :
    (¬ ((layoutOk n l != 0) = false ∧ b = true ∧ ((ss.length : Int) != n) = false ∧ ((dd.length : Int) != (l.length : Int)) = false) → stateOk n l b ss dd = false) ∧
    (layoutOk n l = 0 → (ss.length : Int) = n → dd.length = l.length → b = true → stateOk n l b ss dd = secsFrom l dd ss ss.length 0) := by
  constructor
  · intro h
    cases hs : stateOk n l b ss dd with
    | false => rfl
    | true =>
      obtain ⟨h1, h2, h3, h4, _⟩ := stateOk_of hs
      exact absurd ⟨by simp [h1], h2, by simp [h3], by simp; omega⟩ h
  · intro h1 h2 h3 h4
    simp [stateOk, h1, h2, h3, h4]
theorem secOk_parts (l : List S88) (dd : List Bool) (s : Int) (x : S50) :
    ((decide (x.f1 < -1000000) || decide (1000000 < x.f1) || decide (x.f4 < -1) || decide (1 < x.f4) || (x.f0 != toldC l dd s x)) = true → secOk l dd s x = false) ∧
    ((decide (x.f1 < -1000000) || decide (1000000 < x.f1) || decide (x.f4 < -1) || decide (1 < x.f4) || (x.f0 != toldC l dd s x)) = false → secOk l dd s x = (!((decide (x.f1 < 0) || deadAt l dd s) && !x.f2) && !(x.f3 && (x.f1 == 0) && (x.f4 == -1) && !x.f2))) := by
  have e1 : (x.f1 == 0) = decide (x.f1 = 0) := by rw [Bool.eq_iff_iff]; simp
  have e2 : (x.f4 == -1) = decide (x.f4 = -1) := by rw [Bool.eq_iff_iff]; simp
  have e3 : (x.f0 != toldC l dd s x) = !decide (x.f0 = toldC l dd s x) := by rw [Bool.eq_iff_iff]; simp
  have e4 : secRange x = !(decide (x.f1 < -1000000) || decide (1000000 < x.f1) || decide (x.f4 < -1) || decide (1 < x.f4)) := by
    rw [Bool.eq_iff_iff]; simp only [secRange, Bool.and_eq_true, decide_eq_true_eq, Bool.not_eq_true', Bool.or_eq_false_iff, decide_eq_false_iff_not]; omega
  rw [e1, e2, e3]
  simp only [secOk, secRest, e4]
  cases (decide (x.f1 < -1000000) || decide (1000000 < x.f1) || decide (x.f4 < -1) || decide (1 < x.f4)) <;> cases decide (x.f0 = toldC l dd s x) <;> simp
theorem bad_of {x : S50} {r1 r2 t y : Bool} (h1 : (decide (-1000000 ≤ x.f1) && decide (x.f1 ≤ 1000000)) = r1) (h2 : (decide (-1 ≤ x.f4) && decide (x.f4 ≤ 1)) = r2) (h : (!r1 || !r2 || t) = y) :
    (decide (x.f1 < -1000000) || decide (1000000 < x.f1) || decide (x.f4 < -1) || decide (1 < x.f4) || t) = y := by
  subst h1 h2 h
  rw [Bool.eq_iff_iff]
  cases t
  · simp only [Bool.or_eq_true, decide_eq_true_eq, Bool.not_eq_true', Bool.and_eq_false_iff, decide_eq_false_iff_not, Bool.false_eq_true, or_false]
    omega
  · simp
end Go.Proofs.Ytpdnabhpkdchjaa.P
namespace Go.Proofs.Ytpdnabhpkdchjaa.P
open Go.RowKit Go.Proofs.YtpdnabhpkdchjaaW.PrintWords Go.Proofs.YtpdnabhpkdchjaaW.PrintLast Go.Proofs.YtpdnabhpkdchjaaW.PrintMore
attribute [local go_sem ↓] Go.wp_at_zero Go.wp_at_succ
set_option linter.unusedVariables false
set_option linter.unusedSimpArgs false
section
variable {n : Int} {A : Option Addr} {c : Nat} {l : List S88} {A2 : Option Addr} {c2 : Nat} {dd : List Bool} {w : World}
theorem in_v {x a b : Int} {y : Bool} (h : (decide (a ≤ x) && decide (x ≤ b)) = y) (w : World) : Calls Try.prog 87 #[.int .i64 x, .int .i64 a, .int .i64 b] w fun e w' => e = .returned (.bool y) ∧ Below w.heap.size w w' :=
  (spec_l1in.calls x a b y w (by rw [spec_l1in.f, ← h]; by_cases h1 : a ≤ x <;> simp [h1])).mono fun e w' ⟨he, hd⟩ => ⟨he, hd.below⟩
theorem sdeadv {x : Bool} (i : Int) (hx : deadAt l dd i = x) (hr : Kd.C k88 w A l.length l) (hc : l.length ≤ c) (hr2 : Kd.C Kd.bool w A2 dd.length dd) (hc2 : dd.length ≤ c2) (hl : layoutOk n l = 0) (h0 : 0 ≤ i) (h1 : i < n) (hd : dd.length = l.length) :
    Calls Try.prog 114 #[.agg #[.int .i64 n, .slice A l.length c], .slice A2 dd.length c2, .int .i64 i] w fun e w' => e = .returned (.bool x) ∧ Below w.heap.size w w' := by
  obtain ⟨k, h⟩ := (specDead_ev n l dd i hl ⟨h0, h1⟩ hd).rounds
  rw [← hx]
  exact spec_l2dead.calls k n A c l A2 c2 dd i _ w hr hc hr2 hc2 h
theorem stold_v {x : S50} {v : Int} (i : Int) (hx : toldC l dd i x = v) (hr : Kd.C k88 w A l.length l) (hc : l.length ≤ c) (hr2 : Kd.C Kd.bool w A2 dd.length dd) (hc2 : dd.length ≤ c2) (hl : layoutOk n l = 0) (h0 : 0 ≤ i) (h1 : i < n) (hd : dd.length = l.length) :
    Calls Try.prog 113 #[.agg #[.int .i64 n, .slice A l.length c], .slice A2 dd.length c2, .int .i64 i, .agg #[.int .i64 x.f0, .int .i64 x.f1, .bool x.f2, .bool x.f3, .int .i64 x.f4]] w fun e w' => e = .returned (.int .i64 v) ∧ Below w.heap.size w w' := by
  obtain ⟨k, h⟩ := (specTold_ev n l dd i x hl ⟨h0, h1⟩ hd).rounds
  rw [hx] at h
  exact spec_l2told.calls k n A c l A2 c2 dd i x.f0 x.f1 x.f2 x.f3 x.f4 _ w hr hc hr2 hc2 h
end
def st_T6 : Bool × List (List Nat × List Nat) := (true, [([], []), ([0], [0]), ([1], [1]), ([2], [2]), ([3, 2], [3]), ([4], [4]), ([5, 4], [4, 5]), ([6, 4, 4], [4, 6]), ([7, 4], [4, 7]), ([4, 8], [4, 8]), ([9, 7], [9]), ([10], [10]), ([11, 10], [10, 11]), ([10], [10]), ([10], [10]), ([14, 10], [10, 14]), ([10], [10]), ([10], [10]), ([13, 15, 16, 17, 10, 10], [10, 13, 15, 16, 17]), ([12, 18, 10], [10, 12, 18]), ([10, 19], [10, 19])])
def st_B6 : List Nat := [0, 1, 3, 7, 15, 31, 63, 127, 255, 511, 1023, 2047, 4095, 2047, 2047, 18431, 2047, 2047, 255999, 524287, 1048575]
theorem st_tab6 : rtab .any (opsOf Try.f56 6) = st_T6 := by kernel_rfl
theorem st_bits6 : waitsOk st_T6.2 st_B6 = true := by kernel_rfl
set_option maxHeartbeats 16000000 in
set_option maxRecDepth 100000 in
theorem sst_any {n : Int} {A : Option Addr} {c : Nat} {l : List S88} {b : Bool} {A1 : Option Addr} {c1 : Nat} {ss : List S50} {A2 : Option Addr} {c2 : Nat} {dd : List Bool} {w : World}
    (hr : Kd.C k88 w A l.length l) (hc : l.length ≤ c) (hr1 : Kd.C k50 w A1 ss.length ss) (hc1 : ss.length ≤ c1) (hr2 : Kd.C Kd.bool w A2 dd.length dd) (hc2 : dd.length ≤ c2) :
    Calls Try.prog 56 #[.agg #[.int .i64 n, .slice A l.length c], .agg #[.bool b, .slice A1 ss.length c1, .slice A2 dd.length c2]] w fun e w' => e = .returned (.bool (stateOk n l b ss dd)) ∧ Below w.heap.size w w' := by
  have HR := Aside0.mk hr
  have HR1 := Aside0.mk hr1
  have HR2 := Aside0.mk hr2
  have HC := Aside0.mk hc
  have HC1 := Aside0.mk hc1
  have HC2 := Aside0.mk hc2
  obtain ⟨lv, hlv⟩ : ∃ lv, layoutOk n l = lv := ⟨_, rfl⟩
  have HLV := Aside0.mk hlv
  obtain ⟨so, hso⟩ : ∃ so, stateOk n l b ss dd = so := ⟨_, rfl⟩
  have HSO := Aside0.mk hso
  rw [hso]
  have HT4 := Aside0.mk (stateOk_tests n l b ss dd)
  rw [hso, hlv] at HT4
  clear hr hr1 hr2 hc hc1 hc2 hlv hso
  go_enter Try.func56, Try.ntmps56
  go_upto_region 1 with (first | ((with_reducible refine gate_dst (N := 2) rfl ?_); refine box_event ?hg (N := 2) ?hd (cs := #[.int .i64 n, .slice A l.length c]) (t := 30) ?hr ?_; (case hd => rfl); (case hg => rfl); (case hr => first | (go_simp; done) | (go_simp; rfl)); intro gl el wl kl bl; clear el) | ((with_reducible refine gate_dst (N := 3) rfl ?_); refine box_event ?hg (N := 3) ?hd (cs := #[.bool b, .slice A1 ss.length c1, .slice A2 dd.length c2]) (t := 46) ?hr ?_; (case hd => rfl); (case hg => rfl); (case hr => first | (go_simp; done) | (go_simp; rfl)); intro gz ez wz kz bz; clear ez))
  have S0 : Aside0 (StSt w wz gl gz [.int .i64 n, .slice A l.length c] [.bool b, .slice A1 ss.length c1, .slice A2 dd.length c2]) := ⟨⟨below_step bl bz, blk_below kl bz, kz⟩⟩
  clear kl kz bl bz
  try simp only [Act.put, List.setIfInBounds_toArray, List.set_cons_zero, List.set_cons_succ]
  have kl0 : wz.cell? ⟨gl, 0, none⟩ = some (.int .i64 n) := (blk_cell S0.out.hl 0).trans rfl
  have kl1 : wz.cell? ⟨gl, 1, none⟩ = some (.slice A l.length c) := (blk_cell S0.out.hl 1).trans rfl
  by_cases hgood : (lv != 0) = false ∧ b = true ∧ ((ss.length : Int) != n) = false ∧ ((dd.length : Int) != (l.length : Int)) = false
  rotate_left
  · have HF := Aside0.mk (HT4.out.1 hgood)
    cases h1 : (lv != 0) <;> cases b <;> cases h3 : ((ss.length : Int) != n) <;> cases h4 : ((dd.length : Int) != (l.length : Int)) <;>
    rw [h1, h3, h4] at hgood <;>
    first
    | (simp at hgood; done)
    | (clear hgood
       go_wp2_with (go_at_call 23; refine (slay_is (Kd.C_below HR.out S0.out.hB) HC.out).mono ?_; rintro e w1 ⟨h, hb⟩; rw [HLV.out] at h; subst h; have S1 := Aside0.mk (S0.out.up hb); have kl0 : w1.cell? ⟨gl, 0, none⟩ = some (.int .i64 n) := (blk_cell S1.out.hl 0).trans rfl; have kl1 : w1.cell? ⟨gl, 1, none⟩ = some (.slice A l.length c) := (blk_cell S1.out.hl 1).trans rfl; have kz0 : w1.cell? ⟨gz, 0, none⟩ = some (.bool _) := (blk_cell S1.out.hz 0).trans rfl; have kz1 : w1.cell? ⟨gz, 1, none⟩ = some (.slice A1 ss.length c1) := (blk_cell S1.out.hz 1).trans rfl; have kz2 : w1.cell? ⟨gz, 2, none⟩ = some (.slice A2 dd.length c2) := (blk_cell S1.out.hz 2).trans rfl; clear hb)
       go_ret
       exact ⟨by rw [HF.out]; rfl, S1.out.hB⟩)
  obtain ⟨h1, rfl, h3, h4⟩ := hgood
  have HL := Aside0.mk (show layoutOk n l = 0 by rw [HLV.out]; simpa using h1)
  have HN := Aside0.mk (show (ss.length : Int) = n by simpa using h3)
  have HDL := Aside0.mk (show dd.length = l.length by simp at h4; omega)
  have HLL := Aside0.mk (show l.length ≤ 1048576 by have := lay_n HL.out; omega)
  have H60 := Aside0.mk (show ss.length ≤ 60 by have := lay_n HL.out; have := HN.out; omega)
  have HSF := Aside0.mk (show so = secsFrom l dd ss ss.length 0 from HT4.out.2 (by rw [← HLV.out]; exact HL.out) HN.out HDL.out rfl)
  clear HT4 HSO
  go_wp2_with (go_at_call 23; refine (slay_is (Kd.C_below HR.out S0.out.hB) HC.out).mono ?_; rintro e w1 ⟨h, hb⟩; rw [HLV.out] at h; subst h; have S1 := Aside0.mk (S0.out.up hb); have kl0 : w1.cell? ⟨gl, 0, none⟩ = some (.int .i64 n) := (blk_cell S1.out.hl 0).trans rfl; have kl1 : w1.cell? ⟨gl, 1, none⟩ = some (.slice A l.length c) := (blk_cell S1.out.hl 1).trans rfl; have kz0 : w1.cell? ⟨gz, 0, none⟩ = some (.bool true) := (blk_cell S1.out.hz 0).trans rfl; have kz1 : w1.cell? ⟨gz, 1, none⟩ = some (.slice A1 ss.length c1) := (blk_cell S1.out.hz 1).trans rfl; have kz2 : w1.cell? ⟨gz, 2, none⟩ = some (.slice A2 dd.length c2) := (blk_cell S1.out.hz 2).trans rfl; clear hb)
  clear S0 kl0 kl1 kz0 kz1 kz2 h1 h3 h4
  go_loopg [35] ss.length (fun kq v35 w' => ∃ j : Nat, v35 = .int .i64 j ∧ Aside0 (j + kq = ss.length) ∧ Aside0 (so = secsFrom l dd ss kq j) ∧ Aside0 (StSt w w' gl gz [.int .i64 n, .slice A l.length c] [.bool true, .slice A1 ss.length c1, .slice A2 dd.length c2]))
  case atStart => exact ⟨0, rfl, ⟨by omega⟩, HSF, S1⟩
  case round =>
    clear S1 HSF
    obtain ⟨j, rfl, HJ, HSF, SL⟩ := hrel
    by_cases hlt : j < ss.length
    · cases gk with
      | zero => exact absurd HJ.out (by omega)
      | succ gk =>
      have hlt' : decide ((j : Int) < (ss.length : Int)) = true := decide_eq_true (by omega)
      have q0 : (0 : Int) ≤ (j : Int) := by omega
      have q1 : (j : Int) < (ss.length : Int) := by omega
      have HJN := Aside0.mk (show (j : Int) < n by have := HN.out; omega)
      have HSF := Aside0.mk (show so = (secOk l dd (j : Int) (rd_T50 ss (j : Int)) && secsFrom l dd ss gk (j + 1)) from HSF.out)
      obtain ⟨ad, e, x0, x1, x2, x3, x4⟩ := at_T50 HR1.out (j : Int) q0 q1
      cases e
      rw [Int.toNat_natCast] at x0 x1 x2 x3 x4
      obtain ⟨tv, htv⟩ : ∃ tv, toldC l dd (j : Int) (rd_T50 ss (j : Int)) = tv := ⟨_, rfl⟩
      have HTV := Aside0.mk htv
      have HSK := Aside0.mk (secOk_parts l dd (j : Int) (rd_T50 ss (j : Int)))
      rw [htv] at HSK
      clear htv
      generalize rd_T50 ss (j : Int) = x at x0 x1 x2 x3 x4 HSF HSK HTV
      have y0 := pw_cell_below SL.out.hB x0
      have y1 := pw_cell_below SL.out.hB x1
      have y2 := pw_cell_below SL.out.hB x2
      have y3 := pw_cell_below SL.out.hB x3
      have y4 := pw_cell_below SL.out.hB x4
      clear x0 x1 x2 x3 x4
      go_upto_region 6 with ((with_reducible refine gate_dst (N := 6) rfl ?_); refine box_event ?hg (N := 6) ?hd (cs := #[.int .i64 0, .int .i64 0, .bool false, .bool false, .int .i64 0]) (t := 50) ?hr ?_; (case hd => rfl); (case hg => rfl); (case hr => first | (go_simp; done) | (go_simp; rfl)); intro gx ex wx kx bx; have EX := Aside0.mk ex; have KX := Aside0.mk kx; have BX := Aside0.mk bx; have kx0 : wx.cell? ⟨gx, 0, none⟩ = some (.int .i64 0) := (blk_cell KX.out 0).trans rfl; have kx1 : wx.cell? ⟨gx, 1, none⟩ = some (.int .i64 0) := (blk_cell KX.out 1).trans rfl; have kx2 : wx.cell? ⟨gx, 2, none⟩ = some (.bool false) := (blk_cell KX.out 2).trans rfl; have kx3 : wx.cell? ⟨gx, 3, none⟩ = some (.bool false) := (blk_cell KX.out 3).trans rfl; have kx4 : wx.cell? ⟨gx, 4, none⟩ = some (.int .i64 0) := (blk_cell KX.out 4).trans rfl; have zx0 := blk_frozen KX.out 0; have zx1 := blk_frozen KX.out 1; have zx2 := blk_frozen KX.out 2; have zx3 := blk_frozen KX.out 3; have zx4 := blk_frozen KX.out 4; clear ex kx bx)
      have S2 := Aside0.mk (SL.out.fill (y0 := .int .i64 x.f0) (y1 := .int .i64 x.f1) (y2 := .bool x.f2) (y3 := .bool x.f3) (y4 := .int .i64 x.f4) KX.out BX.out (Nat.le_of_eq EX.out.symm))
      clear kx0 kx1 kx2 kx3 kx4 zx0 zx1 zx2 zx3 zx4 KX BX y0 y1 y2 y3 y4
      generalize ((((wx.setCell ⟨gx, 0, none⟩ (.int .i64 x.f0)).setCell ⟨gx, 1, none⟩ (.int .i64 x.f1)).setCell ⟨gx, 2, none⟩ (.bool x.f2)).setCell ⟨gx, 3, none⟩ (.bool x.f3)).setCell ⟨gx, 4, none⟩ (.int .i64 x.f4) = w2 at S2 ⊢
      obtain ⟨r1, hr1v⟩ : ∃ r1, (decide (-1000000 ≤ x.f1) && decide (x.f1 ≤ 1000000)) = r1 := ⟨_, rfl⟩
      obtain ⟨r2, hr2v⟩ : ∃ r2, (decide (-1 ≤ x.f4) && decide (x.f4 ≤ 1)) = r2 := ⟨_, rfl⟩
      have HR1V := Aside0.mk hr1v
      have HR2V := Aside0.mk hr2v
      clear hr1v hr2v
      go_cut [60] from 36 to 100 (fun y wx => ∃ r, y = .bool r ∧ Aside0 (r = (!r1 || !r2 || (x.f0 != tv))) ∧ Aside0 (SeSt w wx gl gz gx [.int .i64 n, .slice A l.length c] [.bool true, .slice (some ad) ss.length c1, .slice A2 dd.length c2] [.int .i64 x.f0, .int .i64 x.f1, .bool x.f2, .bool x.f3, .int .i64 x.f4]))
      case first =>
        have SD := Aside0.mk (S2.out.up (below_drew1 (Below.refl w2.heap.size w2)))
        have kl0 : w2.drew.cell? ⟨gl, 0, none⟩ = some (.int .i64 n) := (blk_cell SD.out.S.hl 0).trans rfl
        have kl1 : w2.drew.cell? ⟨gl, 1, none⟩ = some (.slice A l.length c) := (blk_cell SD.out.S.hl 1).trans rfl
        have kz0 : w2.drew.cell? ⟨gz, 0, none⟩ = some (.bool true) := (blk_cell SD.out.S.hz 0).trans rfl
        have kz1 : w2.drew.cell? ⟨gz, 1, none⟩ = some (.slice (some ad) ss.length c1) := (blk_cell SD.out.S.hz 1).trans rfl
        have kz2 : w2.drew.cell? ⟨gz, 2, none⟩ = some (.slice A2 dd.length c2) := (blk_cell SD.out.S.hz 2).trans rfl
        have kx0 : w2.drew.cell? ⟨gx, 0, none⟩ = some (.int .i64 x.f0) := (blk_cell SD.out.hx 0).trans rfl
        have kx1 : w2.drew.cell? ⟨gx, 1, none⟩ = some (.int .i64 x.f1) := (blk_cell SD.out.hx 1).trans rfl
        have kx2 : w2.drew.cell? ⟨gx, 2, none⟩ = some (.bool x.f2) := (blk_cell SD.out.hx 2).trans rfl
        have kx3 : w2.drew.cell? ⟨gx, 3, none⟩ = some (.bool x.f3) := (blk_cell SD.out.hx 3).trans rfl
        have kx4 : w2.drew.cell? ⟨gx, 4, none⟩ = some (.int .i64 x.f4) := (blk_cell SD.out.hx 4).trans rfl
        have hways : r1 = false ∨ (r1 = true ∧ r2 = false) ∨ (r1 = true ∧ r2 = true) := by cases r1 <;> cases r2 <;> simp
        rcases hways with rfl | ⟨rfl, rfl⟩ | ⟨rfl, rfl⟩
        all_goals
          refine startK 21 (S := fun w' => w'.cell? ⟨gl, 0, none⟩ = some (.int .i64 n) ∧ w'.cell? ⟨gl, 1, none⟩ = some (.slice A l.length c) ∧ w'.cell? ⟨gz, 0, none⟩ = some (.bool true) ∧ w'.cell? ⟨gz, 1, none⟩ = some (.slice (some ad) ss.length c1) ∧ w'.cell? ⟨gz, 2, none⟩ = some (.slice A2 dd.length c2) ∧ w'.cell? ⟨gx, 0, none⟩ = some (.int .i64 x.f0) ∧ w'.cell? ⟨gx, 1, none⟩ = some (.int .i64 x.f1) ∧ w'.cell? ⟨gx, 2, none⟩ = some (.bool x.f2) ∧ w'.cell? ⟨gx, 3, none⟩ = some (.bool x.f3) ∧ w'.cell? ⟨gx, 4, none⟩ = some (.int .i64 x.f4)) (ds := []) (by kernel_rfl) rfl ⟨kl0, kl1, kz0, kz1, kz2, kx0, kx1, kx2, kx3, kx4⟩ (fun hHeld => ?_)
          refine with_tabW st_tab6 st_bits6 (fun HT_ HW_ => ?_)
          repeat (first
            | (refine take0 (v := ?_) (a' := ?_) (by simp only [Nat.reduceAdd]; rfl) (by rfl) HT_.out HW_.out (by kernel_rfl) (by exact fun _ _ _ h => h) hHeld ?_ ?_ ?_; rotate_left 2; (· rintro w' ⟨s0, s1, s2, s3, s4, s5, s6, s7, s8, s9⟩; go_simp; with_reducible rfl); (· simp only [Act.put, List.setIfInBounds_toArray, List.set_cons_zero, List.set_cons_succ, i64_w, i32_w]; rfl))
            | (refine takeG (v := ?_) (a' := ?_) (by simp only [Nat.reduceAdd]; rfl) (by rfl) (by rfl) HT_.out HW_.out (by kernel_rfl) (by exact fun _ _ _ h => h) hHeld ?_ ?_ ?_; rotate_left 2; (· first | (rw [if_neg (by decide)]; done) | (rw [if_pos (by decide)]; rintro w' ⟨s0, s1, s2, s3, s4, s5, s6, s7, s8, s9⟩; go_simp; with_reducible rfl)); (· simp only [Act.put, List.setIfInBounds_toArray, List.set_cons_zero, List.set_cons_succ, i64_w, i32_w]; rfl))
            | (refine oneK (by simp only [Nat.reduceAdd]; rfl) (by rfl) HT_.out (by kernel_rfl) (by decide) (fun K hK => ?_); refine goes_ Try.func87 (by kernel_rfl) rfl #[.int .i64 x.f1, .int .i64 (-1000000), .int .i64 1000000] (by rfl) rfl rfl (by (try simp only [List.map_toArray, List.map_cons, List.map_nil]); first | done | rfl | (simp only [List.length_drop, List.length_take]; rfl)) ?_; ((with_reducible refine (in_v HR1V.out _).mono ?_); rintro e w' ⟨rfl, hb⟩); refine ⟨_, rfl, ?_⟩; have SD := Aside0.mk (SD.out.up hb); refine hK.out _ _ ⟨pw_cell_below hb hHeld.1, pw_cell_below hb hHeld.2.1, pw_cell_below hb hHeld.2.2.1, pw_cell_below hb hHeld.2.2.2.1, pw_cell_below hb hHeld.2.2.2.2.1, pw_cell_below hb hHeld.2.2.2.2.2.1, pw_cell_below hb hHeld.2.2.2.2.2.2.1, pw_cell_below hb hHeld.2.2.2.2.2.2.2.1, pw_cell_below hb hHeld.2.2.2.2.2.2.2.2.1, pw_cell_below hb hHeld.2.2.2.2.2.2.2.2.2⟩ (fun hHeld => ?_); clear hK K; refine norm_ (a' := ?_) ?_ ?_; rotate_left; (· simp only [Act.put, List.setIfInBounds_toArray, List.set_cons_zero, List.set_cons_succ, i64_w, i32_w]; rfl))
            | (refine oneK (by simp only [Nat.reduceAdd]; rfl) (by rfl) HT_.out (by kernel_rfl) (by decide) (fun K hK => ?_); refine goes_ Try.func87 (by kernel_rfl) rfl #[.int .i64 x.f4, .int .i64 (-1), .int .i64 1] (by rfl) rfl rfl (by (try simp only [List.map_toArray, List.map_cons, List.map_nil]); first | done | rfl | (simp only [List.length_drop, List.length_take]; rfl)) ?_; ((with_reducible refine (in_v HR2V.out _).mono ?_); rintro e w' ⟨rfl, hb⟩); refine ⟨_, rfl, ?_⟩; have SD := Aside0.mk (SD.out.up hb); refine hK.out _ _ ⟨pw_cell_below hb hHeld.1, pw_cell_below hb hHeld.2.1, pw_cell_below hb hHeld.2.2.1, pw_cell_below hb hHeld.2.2.2.1, pw_cell_below hb hHeld.2.2.2.2.1, pw_cell_below hb hHeld.2.2.2.2.2.1, pw_cell_below hb hHeld.2.2.2.2.2.2.1, pw_cell_below hb hHeld.2.2.2.2.2.2.2.1, pw_cell_below hb hHeld.2.2.2.2.2.2.2.2.1, pw_cell_below hb hHeld.2.2.2.2.2.2.2.2.2⟩ (fun hHeld => ?_); clear hK K; refine norm_ (a' := ?_) ?_ ?_; rotate_left; (· simp only [Act.put, List.setIfInBounds_toArray, List.set_cons_zero, List.set_cons_succ, i64_w, i32_w]; rfl))
            | (refine oneK (by simp only [Nat.reduceAdd]; rfl) (by rfl) HT_.out (by kernel_rfl) (by decide) (fun K hK => ?_); refine goes_ Try.func113 (by kernel_rfl) rfl #[.agg #[.int .i64 n, .slice A l.length c], .slice A2 dd.length c2, .int .i64 (j : Int), .agg #[.int .i64 x.f0, .int .i64 x.f1, .bool x.f2, .bool x.f3, .int .i64 x.f4]] (by rfl) rfl rfl (by (try simp only [List.map_toArray, List.map_cons, List.map_nil]); first | done | rfl | (simp only [List.length_drop, List.length_take]; rfl)) ?_; ((with_reducible refine (stold_v (j : Int) HTV.out (Kd.C_below HR.out SD.out.S.hB) HC.out (Kd.C_below HR2.out SD.out.S.hB) HC2.out HL.out q0 HJN.out HDL.out).mono ?_); rintro e w' ⟨rfl, hb⟩); refine ⟨_, rfl, ?_⟩; have SD := Aside0.mk (SD.out.up hb); refine hK.out _ _ ⟨pw_cell_below hb hHeld.1, pw_cell_below hb hHeld.2.1, pw_cell_below hb hHeld.2.2.1, pw_cell_below hb hHeld.2.2.2.1, pw_cell_below hb hHeld.2.2.2.2.1, pw_cell_below hb hHeld.2.2.2.2.2.1, pw_cell_below hb hHeld.2.2.2.2.2.2.1, pw_cell_below hb hHeld.2.2.2.2.2.2.2.1, pw_cell_below hb hHeld.2.2.2.2.2.2.2.2.1, pw_cell_below hb hHeld.2.2.2.2.2.2.2.2.2⟩ (fun hHeld => ?_); clear hK K; refine norm_ (a' := ?_) ?_ ?_; rotate_left; (· simp only [Act.put, List.setIfInBounds_toArray, List.set_cons_zero, List.set_cons_succ, i64_w, i32_w]; rfl)))
          refine done_ (done_of HT_.out (by kernel_rfl)) ?_
          go_wp2_with fail
          go_meet
          exact ⟨_, rfl, ⟨by simp only [Bool.or_true, Bool.true_or, Bool.false_or, Bool.or_false, Bool.not_true, Bool.not_false]⟩, SD⟩
      case rest =>
        obtain ⟨r6, rfl, H6, SD⟩ := hcut
        clear S2
        have W1 := Aside0.mk (show wrap64 ((j : Int) + 1) = ((j + 1 : Nat) : Int) from (wrap_id (by omega) (by have := H60.out; omega)).trans (by omega))
        cases r6 with
        | true =>
          have HFF := Aside0.mk (show so = false by rw [HSF.out, HSK.out.1 (bad_of HR1V.out HR2V.out H6.out.symm)]; rfl)
          go_wp2_with fail
          go_ret
          exact ⟨by rw [HFF.out]; rfl, SD.out.S.hB⟩
        | false =>
          have HRV := Aside0.mk (HSK.out.2 (bad_of HR1V.out HR2V.out H6.out.symm))
          clear HSK H6 HTV
          have kl0 : wc.cell? ⟨gl, 0, none⟩ = some (.int .i64 n) := (blk_cell SD.out.S.hl 0).trans rfl
          have kl1 : wc.cell? ⟨gl, 1, none⟩ = some (.slice A l.length c) := (blk_cell SD.out.S.hl 1).trans rfl
          have kz0 : wc.cell? ⟨gz, 0, none⟩ = some (.bool true) := (blk_cell SD.out.S.hz 0).trans rfl
          have kz1 : wc.cell? ⟨gz, 1, none⟩ = some (.slice (some ad) ss.length c1) := (blk_cell SD.out.S.hz 1).trans rfl
          have kz2 : wc.cell? ⟨gz, 2, none⟩ = some (.slice A2 dd.length c2) := (blk_cell SD.out.S.hz 2).trans rfl
          have kx0 : wc.cell? ⟨gx, 0, none⟩ = some (.int .i64 x.f0) := (blk_cell SD.out.hx 0).trans rfl
          have kx1 : wc.cell? ⟨gx, 1, none⟩ = some (.int .i64 x.f1) := (blk_cell SD.out.hx 1).trans rfl
          have kx2 : wc.cell? ⟨gx, 2, none⟩ = some (.bool x.f2) := (blk_cell SD.out.hx 2).trans rfl
          have kx3 : wc.cell? ⟨gx, 3, none⟩ = some (.bool x.f3) := (blk_cell SD.out.hx 3).trans rfl
          have kx4 : wc.cell? ⟨gx, 4, none⟩ = some (.int .i64 x.f4) := (blk_cell SD.out.hx 4).trans rfl
          rw [HRV.out] at HSF
          clear HRV
          cases hp : decide (x.f1 < 0) <;> cases hq : x.f2 <;> cases hd : deadAt l dd (j : Int) <;> cases hr : x.f3 <;> cases hz : (x.f1 == 0) <;> cases hm : (x.f4 == -1) <;> rw [hp, hq, hd, hr, hz, hm] at HSF <;>
          (rw [hq] at kx2
           rw [hr] at kx3
           have HD := Aside0.mk hd
           clear hd
           go_wp2_with (go_at_call 114; refine (sdeadv (j : Int) HD.out (Kd.C_below HR.out SD.out.S.hB) HC.out (Kd.C_below HR2.out SD.out.S.hB) HC2.out HL.out q0 HJN.out HDL.out).mono ?_; rintro e w9 ⟨rfl, hb⟩; have SD := Aside0.mk (SD.out.up hb); have kx0 := pw_cell_below hb kx0; have kx1 := pw_cell_below hb kx1; have kx2 := pw_cell_below hb kx2; have kx3 := pw_cell_below hb kx3; have kx4 := pw_cell_below hb kx4; clear hb)
           first
           | (go_roundg gk
              case measure => omega
              case rel => exact ⟨j + 1, congrArg (Value.int .i64) W1.out, ⟨by have := HJ.out; omega⟩, ⟨HSF.out.trans rfl⟩, ⟨SD.out.S⟩⟩)
           | (go_ret
              exact ⟨by rw [HSF.out]; rfl, SD.out.S.hB⟩))
    · have hlt' : decide ((j : Int) < (ss.length : Int)) = false := decide_eq_false (by omega)
      have HFT := Aside0.mk (show so = true by rw [HSF.out, show gk = 0 by have := HJ.out; omega]; rfl)
      go_wp2
      go_ret
      exact ⟨by rw [HFT.out]; rfl, SL.out.hB⟩
theorem sst_ok {n : Int} {A : Option Addr} {c : Nat} {l : List S88} {b : Bool} {A1 : Option Addr} {c1 : Nat} {ss : List S50} {A2 : Option Addr} {c2 : Nat} {dd : List Bool} {w : World}
    (hst : stateOk n l b ss dd = true) (hr : Kd.C k88 w A l.length l) (hc : l.length ≤ c) (hr1 : Kd.C k50 w A1 ss.length ss) (hc1 : ss.length ≤ c1) (hr2 : Kd.C Kd.bool w A2 dd.length dd) (hc2 : dd.length ≤ c2) :
    Calls Try.prog 56 #[.agg #[.int .i64 n, .slice A l.length c], .agg #[.bool b, .slice A1 ss.length c1, .slice A2 dd.length c2]] w fun e w' => e = .returned (.bool true) ∧ Below w.heap.size w w' := by
  have h := sst_any (n := n) (b := b) hr hc hr1 hc1 hr2 hc2
  rwa [hst] at h
end Go.Proofs.Ytpdnabhpkdchjaa.P
