/- The statement FnSweep holds of the given program, for every argument; there are no conditions. (Part 2 of 6.) -/
import Derived.Test.YtpdnabhpkdchjaaBFnSweep1
import Derived.Test.YtpdnabhpkdchjaaProg
import Derived.Test.YtpdnabhpkdchjaaRows
import Derived.JoinedOf
import Derived.DataElems
import Derived.ChangeArms
import Derived.WideShapes
import Derived.ProofKit
import Derived.OpenShut
import Derived.ChangeOld
import Derived.SizedLaws
import Derived.Lib.SliceRun
namespace Go.Proofs.Ytpdnabhpkdchjaa.P
open Go.RowKit Go.Proofs.YtpdnabhpkdchjaaW.PrintWords Go.Proofs.YtpdnabhpkdchjaaW.PrintLast Go.Proofs.YtpdnabhpkdchjaaW.PrintMore
attribute [local go_sem] max2_int min2_int max_two min_two max_three min_three max_four min_four
set_option linter.unusedVariables false
set_option linter.unusedSimpArgs false
def errW:Option Int→Value
 | none=>.nilIface
 | some c=>.iface 0 (.int .i64 c)
theorem errW_none:errW none=.nilIface:=rfl
theorem errW_some (c:Int):errW (some c)=.iface 0 (.int .i64 c):=rfl
theorem info3:(Try.prog.info? 3).map (fun i=>(i.zero,i.size,i.bytes))=some (some (.int .i64 0),1,8):=by kernel_rfl
theorem info4:(Try.prog.info? 4).map (fun i=>(i.zero,i.size,i.bytes))=some (some (.bool false),1,1):=by kernel_rfl
theorem info48:(Try.prog.info? 48).map (fun i=>(i.zero,i.size,i.bytes))=some (some (.agg #[(.int .i64 0),(.bool false),(.slice none 0 0),(.slice none 0 0)]),4,64):=by kernel_rfl
theorem info50:(Try.prog.info? 50).map (fun i=>(i.zero,i.size,i.bytes))=some (some (.agg #[(.int .i64 0),(.int .i64 0),(.bool false),(.bool false),(.int .i64 0)]),5,32):=by kernel_rfl
theorem info56:(Try.prog.info? 56).map (fun i=>(i.zero,i.size,i.bytes))=some (some (.agg #[(.int .i64 0),(.int .i64 0),(.int .i64 0)]),3,24):=by kernel_rfl
theorem info88:(Try.prog.info? 88).map (fun i=>(i.zero,i.size,i.bytes))=some (some (.agg #[(.int .i64 0),(.int .i64 0)]),2,16):=by kernel_rfl
theorem info143:(Try.prog.info? 143).map (fun i=>(i.zero,i.size,i.bytes))=some (some (.agg #[(.int .i64 0),(.int .i64 0),(.int .i64 0)]),3,24):=by kernel_rfl
structure S88 where
 f0:Int
 f1:Int
def z88:S88:=⟨(0:Int),(0:Int)⟩
def k88:Kd S88:=Kd.iso (Kd.pair (Kd.int .i64) (Kd.int .i64)) (fun x:S88=>(x.f0,x.f1))
theorem k88_open {w:World} {x:S88} {cs:List Value} (h:k88.K w x cs):cs=[.int .i64 x.f0,.int .i64 x.f1]:=by
 obtain ⟨_,_,rfl,rfl,rfl⟩:=h
 exact rfl
theorem k88_mkM (w:World) (base:Nat) (ok:Nat→Prop) (x:S88) :k88.M w base ok x [.int .i64 x.f0,.int .i64 x.f1]:=⟨[.int .i64 x.f0],[.int .i64 x.f1],rfl,rfl,rfl⟩
def rd_T88 (xs:List S88) (i:Int):S88:=xs.getD i.toNat z88
theorem at_T88 {w:World} {A:Option Addr} {n:Nat} {xs:List S88} (h:Kd.C k88 w A n xs) (i:Int) (h0:0≤i) (h1:i<n):∃ ad ,A=some ad∧w.cell? (ad.add (i.toNat * 2))=some (.int .i64 (rd_T88 xs i).f0)∧w.cell? ⟨(ad.add (i.toNat * 2)).block,(ad.add (i.toNat * 2)).off+1,none⟩=some (.int .i64 (rd_T88 xs i).f1):=by
 obtain ⟨ad,c,e,_,hK,hc0⟩:=Kd.C_get h z88 i h0 h1
 have hc:∀ j u,c[j]?=some u→w.cell? (ad.add (i.toNat * 2+j))=some u:=hc0
 obtain rfl:=k88_open hK
 exact ⟨ad,e,hc 0 _ rfl,by rw [← add_field _ _ 1 (by omega)];exact hc 1 _ rfl⟩
structure S56 where
 f0:Int
 f1:Int
 f2:Int
def z56:S56:=⟨(0:Int),(0:Int),(0:Int)⟩
def k56:Kd S56:=Kd.iso (Kd.pair (Kd.int .i64) (Kd.pair (Kd.int .i64) (Kd.int .i64))) (fun x:S56=>(x.f0,x.f1,x.f2))
theorem k56_open {w:World} {x:S56} {cs:List Value} (h:k56.K w x cs):cs=[.int .i64 x.f0,.int .i64 x.f1,.int .i64 x.f2]:=by
 obtain ⟨_,_,rfl,rfl,⟨_,_,rfl,rfl,rfl⟩⟩:=h
 exact rfl
theorem k56_mkM (w:World) (base:Nat) (ok:Nat→Prop) (x:S56) :k56.M w base ok x [.int .i64 x.f0,.int .i64 x.f1,.int .i64 x.f2]:=⟨[.int .i64 x.f0],[.int .i64 x.f1,.int .i64 x.f2],rfl,rfl,⟨[.int .i64 x.f1],[.int .i64 x.f2],rfl,rfl,rfl⟩⟩
def rd_T56 (xs:List S56) (i:Int):S56:=xs.getD i.toNat z56
theorem at_T56 {w:World} {A:Option Addr} {n:Nat} {xs:List S56} (h:Kd.C k56 w A n xs) (i:Int) (h0:0≤i) (h1:i<n):∃ ad ,A=some ad∧w.cell? (ad.add (i.toNat * 3))=some (.int .i64 (rd_T56 xs i).f0)∧w.cell? ⟨(ad.add (i.toNat * 3)).block,(ad.add (i.toNat * 3)).off+1,none⟩=some (.int .i64 (rd_T56 xs i).f1)∧w.cell? ⟨(ad.add (i.toNat * 3)).block,(ad.add (i.toNat * 3)).off+2,none⟩=some (.int .i64 (rd_T56 xs i).f2):=by
 obtain ⟨ad,c,e,_,hK,hc0⟩:=Kd.C_get h z56 i h0 h1
 have hc:∀ j u,c[j]?=some u→w.cell? (ad.add (i.toNat * 3+j))=some u:=hc0
 obtain rfl:=k56_open hK
 exact ⟨ad,e,hc 0 _ rfl,by rw [← add_field _ _ 1 (by omega)];exact hc 1 _ rfl,by rw [← add_field _ _ 2 (by omega)];exact hc 2 _ rfl⟩
structure S50 where
 f0:Int
 f1:Int
 f2:Bool
 f3:Bool
 f4:Int
def z50:S50:=⟨(0:Int),(0:Int),false,false,(0:Int)⟩
def k50:Kd S50:=Kd.iso (Kd.pair (Kd.int .i64) (Kd.pair (Kd.int .i64) (Kd.pair Kd.bool (Kd.pair Kd.bool (Kd.int .i64))))) (fun x:S50=>(x.f0,x.f1,x.f2,x.f3,x.f4))
theorem k50_open {w:World} {x:S50} {cs:List Value} (h:k50.K w x cs):cs=[.int .i64 x.f0,.int .i64 x.f1,.bool x.f2,.bool x.f3,.int .i64 x.f4]:=by
 obtain ⟨_,_,rfl,rfl,⟨_,_,rfl,rfl,⟨_,_,rfl,rfl,⟨_,_,rfl,rfl,rfl⟩⟩⟩⟩:=h
 exact rfl
theorem k50_openM {w:World} {base:Nat} {ok:Nat→Prop} {x:S50} {cs:List Value} (h:k50.M w base ok x cs):cs=[.int .i64 x.f0,.int .i64 x.f1,.bool x.f2,.bool x.f3,.int .i64 x.f4]:=by
 obtain ⟨_,_,rfl,rfl,⟨_,_,rfl,rfl,⟨_,_,rfl,rfl,⟨_,_,rfl,rfl,rfl⟩⟩⟩⟩:=h
 exact rfl
theorem k50_mkM (w:World) (base:Nat) (ok:Nat→Prop) (x:S50) :k50.M w base ok x [.int .i64 x.f0,.int .i64 x.f1,.bool x.f2,.bool x.f3,.int .i64 x.f4]:=⟨[.int .i64 x.f0],[.int .i64 x.f1,.bool x.f2,.bool x.f3,.int .i64 x.f4],rfl,rfl,⟨[.int .i64 x.f1],[.bool x.f2,.bool x.f3,.int .i64 x.f4],rfl,rfl,⟨[.bool x.f2],[.bool x.f3,.int .i64 x.f4],rfl,rfl,⟨[.bool x.f3],[.int .i64 x.f4],rfl,rfl,rfl⟩⟩⟩⟩
def rd_T50 (xs:List S50) (i:Int):S50:=xs.getD i.toNat z50
theorem at_T50 {w:World} {A:Option Addr} {n:Nat} {xs:List S50} (h:Kd.C k50 w A n xs) (i:Int) (h0:0≤i) (h1:i<n):∃ ad ,A=some ad∧w.cell? (ad.add (i.toNat * 5))=some (.int .i64 (rd_T50 xs i).f0)∧w.cell? ⟨(ad.add (i.toNat * 5)).block,(ad.add (i.toNat * 5)).off+1,none⟩=some (.int .i64 (rd_T50 xs i).f1)∧w.cell? ⟨(ad.add (i.toNat * 5)).block,(ad.add (i.toNat * 5)).off+2,none⟩=some (.bool (rd_T50 xs i).f2)∧w.cell? ⟨(ad.add (i.toNat * 5)).block,(ad.add (i.toNat * 5)).off+3,none⟩=some (.bool (rd_T50 xs i).f3)∧w.cell? ⟨(ad.add (i.toNat * 5)).block,(ad.add (i.toNat * 5)).off+4,none⟩=some (.int .i64 (rd_T50 xs i).f4):=by
 obtain ⟨ad,c,e,_,hK,hc0⟩:=Kd.C_get h z50 i h0 h1
 have hc:∀ j u,c[j]?=some u→w.cell? (ad.add (i.toNat * 5+j))=some u:=hc0
 obtain rfl:=k50_open hK
 exact ⟨ad,e,hc 0 _ rfl,by rw [← add_field _ _ 1 (by omega)];exact hc 1 _ rfl,by rw [← add_field _ _ 2 (by omega)];exact hc 2 _ rfl,by rw [← add_field _ _ 3 (by omega)];exact hc 3 _ rfl,by rw [← add_field _ _ 4 (by omega)];exact hc 4 _ rfl⟩
structure S46 where
 f0:Bool
 f1:(List S50)
 f2:(List Bool)
def z46:S46:=⟨false,([]:List S50),([]:List Bool)⟩
def k46:Kd S46:=Kd.iso (Kd.pair Kd.bool (Kd.pair (Kd.slice 50 k50) (Kd.slice 4 Kd.bool))) (fun x:S46=>(x.f0,x.f1,x.f2))
theorem k46_open {w:World} {x:S46} {cs:List Value} (h:k46.K w x cs):∃ A1 c1 A2 c2,cs=[.bool x.f0,.slice A1 x.f1.length c1,.slice A2 x.f2.length c2]∧x.f1.length≤c1∧k50.C w A1 x.f1.length x.f1∧x.f2.length≤c2∧Kd.bool.C w A2 x.f2.length x.f2:=by
 obtain ⟨_,_,rfl,rfl,⟨_,_,rfl,⟨A1,c1,rfl,l1,g1⟩,⟨A2,c2,rfl,l2,g2⟩⟩⟩:=h
 exact ⟨A1,c1,A2,c2,rfl,l1,g1,l2,g2⟩
theorem k46_mkM (w:World) (base:Nat) (ok:Nat→Prop) (x:S46) {v1:Value} (g1:k50.R 50 w base ok v1 x.f1) {v2:Value} (g2:Kd.bool.R 4 w base ok v2 x.f2):k46.M w base ok x [.bool x.f0,v1,v2]:=⟨[.bool x.f0],[v1,v2],rfl,rfl,⟨[v1],[v2],rfl,⟨v1,rfl,g1⟩,⟨v2,rfl,g2⟩⟩⟩
structure S48 where
 f0:Int
 f1:S46
def z48:S48:=⟨(0:Int),z46⟩
def k48:Kd S48:=Kd.iso (Kd.pair (Kd.int .i64) k46) (fun x:S48=>(x.f0,x.f1))
theorem k48_open {w:World} {x:S48} {cs:List Value} (h:k48.K w x cs):∃ A2 c2 A3 c3,cs=[.int .i64 x.f0,.bool x.f1.f0,.slice A2 x.f1.f1.length c2,.slice A3 x.f1.f2.length c3]∧x.f1.f1.length≤c2∧k50.C w A2 x.f1.f1.length x.f1.f1∧x.f1.f2.length≤c3∧Kd.bool.C w A3 x.f1.f2.length x.f1.f2:=by
 obtain ⟨_,_,rfl,rfl,s1⟩:=h
 obtain ⟨A2,c2,A3,c3,rfl,l2,g2,l3,g3⟩:=k46_open s1
 exact ⟨A2,c2,A3,c3,rfl,l2,g2,l3,g3⟩
theorem k48_mkM (w:World) (base:Nat) (ok:Nat→Prop) (x:S48) {v2:Value} (g2:k50.R 50 w base ok v2 x.f1.f1) {v3:Value} (g3:Kd.bool.R 4 w base ok v3 x.f1.f2):k48.M w base ok x [.int .i64 x.f0,.bool x.f1.f0,v2,v3]:=⟨[.int .i64 x.f0],[.bool x.f1.f0,v2,v3],rfl,rfl,(k46_mkM w base ok x.f1 g2 g3)⟩
def rd_T48 (xs:List S48) (i:Int):S48:=xs.getD i.toNat z48
theorem at_T48 {w:World} {A:Option Addr} {n:Nat} {xs:List S48} (h:Kd.C k48 w A n xs) (i:Int) (h0:0≤i) (h1:i<n):∃ ad A2 c2 A3 c3,A=some ad∧w.cell? (ad.add (i.toNat * 4))=some (.int .i64 (rd_T48 xs i).f0)∧w.cell? ⟨(ad.add (i.toNat * 4)).block,(ad.add (i.toNat * 4)).off+1,none⟩=some (.bool (rd_T48 xs i).f1.f0)∧w.cell? ⟨(ad.add (i.toNat * 4)).block,(ad.add (i.toNat * 4)).off+2,none⟩=some (.slice A2 (rd_T48 xs i).f1.f1.length c2)∧w.cell? ⟨(ad.add (i.toNat * 4)).block,(ad.add (i.toNat * 4)).off+3,none⟩=some (.slice A3 (rd_T48 xs i).f1.f2.length c3)∧(rd_T48 xs i).f1.f1.length≤c2∧k50.C w A2 (rd_T48 xs i).f1.f1.length (rd_T48 xs i).f1.f1∧(rd_T48 xs i).f1.f2.length≤c3∧Kd.bool.C w A3 (rd_T48 xs i).f1.f2.length (rd_T48 xs i).f1.f2:=by
 obtain ⟨ad,c,e,_,hK,hc0⟩:=Kd.C_get h z48 i h0 h1
 have hc:∀ j u,c[j]?=some u→w.cell? (ad.add (i.toNat * 4+j))=some u:=hc0
 obtain ⟨A2,c2,A3,c3,rfl,l2,g2,l3,g3⟩:=k48_open hK
 exact ⟨ad,A2,c2,A3,c3,e,hc 0 _ rfl,by rw [← add_field _ _ 1 (by omega)];exact hc 1 _ rfl,by rw [← add_field _ _ 2 (by omega)];exact hc 2 _ rfl,by rw [← add_field _ _ 3 (by omega)];exact hc 3 _ rfl,l2,g2,l3,g3⟩
structure S143 where
 f0:Int
 f1:Int
 f2:Int
def z143:S143:=⟨(0:Int),(0:Int),(0:Int)⟩
def k143:Kd S143:=Kd.iso (Kd.pair (Kd.int .i64) (Kd.pair (Kd.int .i64) (Kd.int .i64))) (fun x:S143=>(x.f0,x.f1,x.f2))
theorem k143_open {w:World} {x:S143} {cs:List Value} (h:k143.K w x cs):cs=[.int .i64 x.f0,.int .i64 x.f1,.int .i64 x.f2]:=by
 obtain ⟨_,_,rfl,rfl,⟨_,_,rfl,rfl,rfl⟩⟩:=h
 exact rfl
theorem k143_mkM (w:World) (base:Nat) (ok:Nat→Prop) (x:S143) :k143.M w base ok x [.int .i64 x.f0,.int .i64 x.f1,.int .i64 x.f2]:=⟨[.int .i64 x.f0],[.int .i64 x.f1,.int .i64 x.f2],rfl,rfl,⟨[.int .i64 x.f1],[.int .i64 x.f2],rfl,rfl,rfl⟩⟩
def rd_T143 (xs:List S143) (i:Int):S143:=xs.getD i.toNat z143
theorem at_T143 {w:World} {A:Option Addr} {n:Nat} {xs:List S143} (h:Kd.C k143 w A n xs) (i:Int) (h0:0≤i) (h1:i<n):∃ ad ,A=some ad∧w.cell? (ad.add (i.toNat * 3))=some (.int .i64 (rd_T143 xs i).f0)∧w.cell? ⟨(ad.add (i.toNat * 3)).block,(ad.add (i.toNat * 3)).off+1,none⟩=some (.int .i64 (rd_T143 xs i).f1)∧w.cell? ⟨(ad.add (i.toNat * 3)).block,(ad.add (i.toNat * 3)).off+2,none⟩=some (.int .i64 (rd_T143 xs i).f2):=by
 obtain ⟨ad,c,e,_,hK,hc0⟩:=Kd.C_get h z143 i h0 h1
 have hc:∀ j u,c[j]?=some u→w.cell? (ad.add (i.toNat * 3+j))=some u:=hc0
 obtain rfl:=k143_open hK
 exact ⟨ad,e,hc 0 _ rfl,by rw [← add_field _ _ 1 (by omega)];exact hc 1 _ rfl,by rw [← add_field _ _ 2 (by omega)];exact hc 2 _ rfl⟩
structure S154 where
 f0:Int
 f1:Int
 f2:Int
def z154:S154:=⟨(0:Int),(0:Int),(0:Int)⟩
def k154:Kd S154:=Kd.iso (Kd.pair (Kd.int .i64) (Kd.pair (Kd.int .i64) (Kd.int .i64))) (fun x:S154=>(x.f0,x.f1,x.f2))
theorem k154_open {w:World} {x:S154} {cs:List Value} (h:k154.K w x cs):cs=[.int .i64 x.f0,.int .i64 x.f1,.int .i64 x.f2]:=by
 obtain ⟨_,_,rfl,rfl,⟨_,_,rfl,rfl,rfl⟩⟩:=h
 exact rfl
theorem k154_openM {w:World} {base:Nat} {ok:Nat→Prop} {x:S154} {cs:List Value} (h:k154.M w base ok x cs):cs=[.int .i64 x.f0,.int .i64 x.f1,.int .i64 x.f2]:=by
 obtain ⟨_,_,rfl,rfl,⟨_,_,rfl,rfl,rfl⟩⟩:=h
 exact rfl
theorem k154_mkM (w:World) (base:Nat) (ok:Nat→Prop) (x:S154) :k154.M w base ok x [.int .i64 x.f0,.int .i64 x.f1,.int .i64 x.f2]:=⟨[.int .i64 x.f0],[.int .i64 x.f1,.int .i64 x.f2],rfl,rfl,⟨[.int .i64 x.f1],[.int .i64 x.f2],rfl,rfl,rfl⟩⟩
def rd_T154 (xs:List S154) (i:Int):S154:=xs.getD i.toNat z154
theorem at_T154 {w:World} {A:Option Addr} {n:Nat} {xs:List S154} (h:Kd.C k154 w A n xs) (i:Int) (h0:0≤i) (h1:i<n):∃ ad ,A=some ad∧w.cell? (ad.add (i.toNat * 3))=some (.int .i64 (rd_T154 xs i).f0)∧w.cell? ⟨(ad.add (i.toNat * 3)).block,(ad.add (i.toNat * 3)).off+1,none⟩=some (.int .i64 (rd_T154 xs i).f1)∧w.cell? ⟨(ad.add (i.toNat * 3)).block,(ad.add (i.toNat * 3)).off+2,none⟩=some (.int .i64 (rd_T154 xs i).f2):=by
 obtain ⟨ad,c,e,_,hK,hc0⟩:=Kd.C_get h z154 i h0 h1
 have hc:∀ j u,c[j]?=some u→w.cell? (ad.add (i.toNat * 3+j))=some u:=hc0
 obtain rfl:=k154_open hK
 exact ⟨ad,e,hc 0 _ rfl,by rw [← add_field _ _ 1 (by omega)];exact hc 1 _ rfl,by rw [← add_field _ _ 2 (by omega)];exact hc 2 _ rfl⟩
end Go.Proofs.Ytpdnabhpkdchjaa.P
namespace Go.Proofs.Ytpdnabhpkdchjaa.Facts
def sg (l : List Nat) : List Char := l.map Char.ofNat
theorem words_cons (c : Char) (hc : c ≠ Char.ofNat 32) (r : List Char) : wordsSigns (c :: r) = match wordsSigns r with | w :: ws => (c :: w) :: ws | [] => [[c]] := by
  rw [wordsSigns.eq_3 c r (fun h => hc h)]
  cases wordsSigns r <;> rfl
theorem words_blank (r : List Char) : wordsSigns (Char.ofNat 32 :: r) = [] :: wordsSigns r := rfl
theorem words_word (a r : List Char) (ha : ∀ c ∈ a, c ≠ Char.ofNat 32) : wordsSigns (a ++ Char.ofNat 32 :: r) = a :: wordsSigns r := by
  induction a with
  | nil => exact words_blank r
  | cons c a ih =>
    have h := ih (fun x hx => ha x (List.mem_cons_of_mem _ hx))
    show wordsSigns (c :: (a ++ Char.ofNat 32 :: r)) = _
    rw [words_cons c (ha c List.mem_cons_self), h]
def w1 : List Nat := [104, 97, 114, 110, 101, 115, 115]
def w2 : List Nat := [99, 98, 100, 51, 97, 55, 55, 98, 49, 48, 100, 98, 52, 102, 101, 102, 49, 101, 52, 51, 98, 57, 101, 100, 100, 49, 99, 98, 52, 98, 97, 48, 51, 53, 101, 98, 56, 53, 99, 55, 98, 97, 57, 57, 53, 52, 49, 57, 56, 56, 102, 51, 50, 55, 49, 52, 54, 99, 55, 50, 55, 52, 102, 98]
def w3 : List Nat := [99, 117, 116]
def w4 : List Nat := [97, 116, 32, 108, 111, 111, 112, 46, 101, 120, 97, 109, 112, 108, 101, 47, 116, 114, 101, 97, 100, 108, 101, 47, 108, 97, 119, 115, 46, 70, 110, 69, 120, 97, 99, 116, 67, 111, 110, 115, 116, 97, 110, 116, 115, 32, 108, 111, 111, 112, 46, 101, 120, 97, 109, 112, 108, 101, 47, 116,
  114, 101, 97, 100, 108, 101, 47, 108, 97, 119, 115, 46, 70, 110, 69, 120, 97, 99, 116, 76, 97, 121, 111, 117, 116, 79, 107, 32, 108, 111, 111, 112, 46, 101, 120, 97, 109, 112, 108, 101, 47, 116, 114, 101, 97, 100, 108, 101, 47, 108, 97, 119, 115, 46, 70, 110, 84, 111, 112, 32,
  108, 111, 111, 112, 46, 101, 120, 97, 109, 112, 108, 101, 47, 116, 114, 101, 97, 100, 108, 101, 47, 108, 97, 119, 115, 46, 70, 110, 69, 120, 97, 99, 116, 69, 118, 101, 110, 116, 79, 107, 32, 108, 111, 111, 112, 46, 101, 120, 97, 109, 112, 108, 101, 47, 116, 114, 101, 97, 100, 108,
  101, 47, 108, 97, 119, 115, 46, 70, 110, 69, 120, 97, 99, 116, 65, 114, 111, 117, 110, 100, 32, 108, 111, 111, 112, 46, 101, 120, 97, 109, 112, 108, 101, 47, 116, 114, 101, 97, 100, 108, 101, 47, 108, 97, 119, 115, 46, 70, 110, 69, 120, 97, 99, 116, 66, 101, 103, 105, 110, 32,
  108, 111, 111, 112, 46, 101, 120, 97, 109, 112, 108, 101, 47, 116, 114, 101, 97, 100, 108, 101, 47, 108, 97, 119, 115, 46, 70, 110, 69, 120, 97, 99, 116, 72, 111, 110, 101, 115, 116, 32, 108, 111, 111, 112, 46, 101, 120, 97, 109, 112, 108, 101, 47, 116, 114, 101, 97, 100, 108, 101,
  47, 108, 97, 119, 115, 46, 70, 110, 83, 112, 111, 105, 108, 116, 32, 108, 111, 111, 112, 46, 101, 120, 97, 109, 112, 108, 101, 47, 116, 114, 101, 97, 100, 108, 101, 47, 108, 97, 119, 115, 46, 70, 110, 69, 120, 97, 99, 116, 83, 116, 97, 116, 101, 79, 107, 32, 108, 111, 111, 112,
  46, 101, 120, 97, 109, 112, 108, 101, 47, 116, 114, 101, 97, 100, 108, 101, 47, 108, 97, 119, 115, 46, 70, 110, 69, 120, 97, 99, 116, 84, 114, 117, 116, 104, 32, 108, 111, 111, 112, 46, 101, 120, 97, 109, 112, 108, 101, 47, 116, 114, 101, 97, 100, 108, 101, 47, 108, 97, 119, 115,
  46, 70, 110, 74, 117, 115, 116, 32, 108, 111, 111, 112, 46, 101, 120, 97, 109, 112, 108, 101, 47, 116, 114, 101, 97, 100, 108, 101, 47, 108, 97, 119, 115, 46, 70, 110, 83, 97, 102, 101, 32, 108, 111, 111, 112, 46, 101, 120, 97, 109, 112, 108, 101, 47, 116, 114, 101, 97, 100, 108,
  101, 47, 108, 97, 119, 115, 46, 70, 110, 83, 119, 97, 112, 32, 108, 111, 111, 112, 46, 101, 120, 97, 109, 112, 108, 101, 47, 116, 114, 101, 97, 100, 108, 101, 47, 108, 97, 119, 115, 46, 70, 110, 69, 120, 97, 99, 116, 71, 97, 112, 115, 32, 108, 111, 111, 112, 46, 101, 120, 97,
  109, 112, 108, 101, 47, 116, 114, 101, 97, 100, 108, 101, 47, 108, 97, 119, 115, 46, 70, 110, 69, 120, 97, 99, 116, 68, 111, 32, 108, 111, 111, 112, 46, 101, 120, 97, 109, 112, 108, 101, 47, 116, 114, 101, 97, 100, 108, 101, 47, 108, 97, 119, 115, 46, 70, 110, 84, 114, 97, 105,
  110, 32, 108, 111, 111, 112, 46, 101, 120, 97, 109, 112, 108, 101, 47, 116, 114, 101, 97, 100, 108, 101, 47, 108, 97, 119, 115, 46, 70, 110, 69, 120, 97, 99, 116, 82, 117, 110, 32, 108, 111, 111, 112, 46, 101, 120, 97, 109, 112, 108, 101, 47, 116, 114, 101, 97, 100, 108, 101, 47,
  108, 97, 119, 115, 46, 70, 110, 69, 120, 97, 99, 116, 80, 97, 115, 115, 105, 110, 103, 32, 108, 111, 111, 112, 46, 101, 120, 97, 109, 112, 108, 101, 47, 116, 114, 101, 97, 100, 108, 101, 47, 108, 97, 119, 115, 46, 70, 110, 83, 119, 101, 101, 112]
theorem init_is : Try.prog.initOrder = String.ofList (sg (w1 ++ 32 :: (w2 ++ 32 :: (w3 ++ 32 :: w4)))) := by kernel_rfl
theorem init_list : Try.prog.initOrder.toList = sg w1 ++ Char.ofNat 32 :: (sg w2 ++ Char.ofNat 32 :: (sg w3 ++ Char.ofNat 32 :: sg w4)) := by
  rw [init_is, String.toList_ofList]
  simp [sg]
theorem w1_is : sg w1 = "harness".toList := by kernel_rfl
theorem w2_sum : isSumSigns (sg w2) = true := by kernel_rfl
theorem w3_is : sg w3 = "cut".toList := by kernel_rfl
theorem w1_nb : (sg w1).all (· != Char.ofNat 32) = true := by kernel_rfl
theorem w2_nb : (sg w2).all (· != Char.ofNat 32) = true := by kernel_rfl
theorem w3_nb : (sg w3).all (· != Char.ofNat 32) = true := by kernel_rfl
theorem nb {l : List Char} (h : l.all (· != Char.ofNat 32) = true) : ∀ c ∈ l, c ≠ Char.ofNat 32 := by
  intro c hc
  have := List.all_eq_true.1 h c hc
  simpa using this
theorem words_init : behindMainWord (wordsSigns Try.prog.initOrder.toList) = "cut".toList :: wordsSigns (sg w4) := by
  rw [init_list, words_word _ _ (nb w1_nb), words_word _ _ (nb w2_nb), words_word _ _ (nb w3_nb), w1_is, w3_is]
  simp only [behindMainWord]
  rw [if_pos]
  rw [w2_sum]
  rfl
theorem may_of (P : Program) (r : List (List Char)) (h : behindMainWord (wordsSigns P.initOrder.toList) = "cut".toList :: r) (h1 : P.laysLater = false) (h2 : P.bearsReflect = false) (h3 : P.doorRows = []) : P.mayEnter = true := by
  unfold Program.mayEnter
  rw [h]
  unfold Program.doorFits
  rw [h1, h2, h3]
  kernel_rfl
theorem lifts_of (P : Program) (r : List (List Char)) (h : behindMainWord (wordsSigns P.initOrder.toList) = "cut".toList :: r) : P.headLifts = [] := by
  unfold Program.headLifts
  rw [h]
  kernel_rfl
theorem final_of (P : Program) (r : List (List Char)) (h : behindMainWord (wordsSigns P.initOrder.toList) = "cut".toList :: r) : P.liftsFinal = false := by
  unfold Program.liftsFinal
  rw [lifts_of P r h, h]
  kernel_rfl
theorem make_of (P : Program) (r : List (List Char)) (h : behindMainWord (wordsSigns P.initOrder.toList) = "cut".toList :: r) : P.make = some .cut := by
  unfold Program.make
  rw [h]
  generalize P.headLifts = x
  kernel_rfl
theorem laysLater : Try.prog.laysLater = false := by kernel_rfl
theorem bearsReflect : Try.prog.bearsReflect = false := by kernel_rfl
theorem doorRows : Try.prog.doorRows = [] := by kernel_rfl
theorem mayEnter : Try.prog.mayEnter = true := may_of _ _ words_init laysLater bearsReflect doorRows
theorem liftsFinal : Try.prog.liftsFinal = false := final_of _ _ words_init
theorem make : Try.prog.make = some .cut := make_of _ _ words_init
theorem laidOut : laidOutB Try.prog = true := by kernel_rfl
theorem mapsRowed : Go.mapsRowed Try.prog = true := by kernel_rfl
theorem stops : (Try.prog.stops == []) = true := by kernel_rfl
theorem stopKnobs : (Try.prog.stopKnobs == []) = true := by kernel_rfl
theorem plainKeys : Try.prog.plainKeys = true := by kernel_rfl
theorem stopsHeard : Try.prog.stopsHeard = true := by kernel_rfl
theorem own : ownKnob Try.prog.godebug = none := by kernel_rfl
end Go.Proofs.Ytpdnabhpkdchjaa.Facts
namespace Go.Proofs.Ytpdnabhpkdchjaa.Open
open Go.RowKit Go.Proofs.YtpdnabhpkdchjaaW.PrintWords Go.Proofs.YtpdnabhpkdchjaaW.PrintLast Go.Proofs.YtpdnabhpkdchjaaW.PrintMore
open Go.WideShapes
set_option linter.unusedVariables false
def Opens {α : Type} (P : Program) (t : TypeId) (d : Kd α) : Prop :=
  ∀ (H : Type) (enc : TypeId × Value → H) (w : World) (base : Nat) (spare : Nat → Bool) (held : Bool) (fuel : Nat) (cs : List Value) (x : DataW H × List MemPlace),
    DataW.trod enc P w base spare held fuel t cs = some x → ∃ a, d.K w a cs
variable {P : Program} {t : TypeId}
theorem mapM_get {α β : Type} {f : α → Option β} : ∀ {l : List α} {r : List β}, l.mapM f = some r → r.length = l.length ∧ ∀ (i : Nat) u, r[i]? = some u → ∃ y, l[i]? = some y ∧ f y = some u
  | [], r, h => by
    simp at h
    subst h
    exact ⟨rfl, fun i u hu => by simp at hu⟩
  | y :: l, r, h => by
    simp only [List.mapM_cons] at h
    cases hy : f y with
    | none => simp [hy] at h
    | some b =>
      cases hl : l.mapM f with
      | none => simp [hy, hl] at h
      | some r' =>
        simp [hy, hl] at h
        subst h
        obtain ⟨h1, h2⟩ := mapM_get hl
        refine ⟨by simp [h1], fun i u hu => ?_⟩
        cases i with
        | zero =>
          simp at hu
          subst hu
          exact ⟨y, rfl, hy⟩
        | succ i =>
          simp at hu
          obtain ⟨z, hz, hf⟩ := h2 i u hu
          exact ⟨z, by simpa using hz, hf⟩
theorem opens_slice {α : Type} {d : Kd α} {e : TypeId} (ht : P.underlying t = some (.slice e)) (hc : P.cellsOf e = d.sz) (he : Opens P e d) : Opens P t (Kd.slice e d) := by
  intro H enc w base spare held fuel cs x h
  rcases DataW.trod_slice ht h with ⟨rfl, _⟩ | ⟨a, len, cap, elems, rest, n, _, rfl, _, hb, hl, hm, hlen, hel, _, _⟩
  · exact ⟨[], none, 0, rfl, Nat.le_refl _, rfl, by simp, fun hp => absurd hp (by simp)⟩
  · have each : ∀ i : Fin len, ∃ q : α × List Value, d.K w q.1 q.2 ∧ q.2.length = d.sz ∧ ∀ j u, q.2[j]? = some u → w.cell? (a.add (i.1 * d.sz + j)) = some u := by
      intro i
      have h1 := hel i.1 i.2
      rw [hc] at h1
      obtain ⟨y, hy⟩ : ∃ y, elems[i.1]? = some y := ⟨_, List.getElem?_eq_getElem (by rw [hlen]; exact i.2)⟩
      rw [hy, Option.bind_eq_some_iff] at h1
      obtain ⟨c, h2, h3⟩ := h1
      obtain ⟨v, hv⟩ := he H enc w base spare held n c y h3
      refine ⟨(v, c), hv, d.K_len hv, fun j u hu => ?_⟩
      unfold World.cells? at h2
      rw [if_pos (by unfold Addr.add; split <;> exact hb)] at h2
      obtain ⟨_, h4⟩ := mapM_get h2
      obtain ⟨z, hz, hz2⟩ := h4 j u hu
      have : z = j := by
        have := List.getElem?_eq_some_iff.1 hz
        obtain ⟨hlt, hz'⟩ := this
        simpa using hz'.symm
      subst this
      rw [Addr.add_add] at hz2
      exact hz2
    have hmx : maxLen = 9223372036854775807 := by unfold maxLen; rfl
    refine ⟨List.ofFn fun i : Fin len => (Classical.choose (each i)).1, some a, cap, by simp, by simpa using hl, ?_, by simp; omega, fun hp => ⟨a, rfl, fun j p hj => ?_⟩⟩
    · rfl
    · have hj' : j < len := by
        have := (List.getElem?_eq_some_iff.1 hj).1
        simpa using this
      have hp' : p = (Classical.choose (each ⟨j, hj'⟩)).1 := by
        rw [List.getElem?_ofFn, dif_pos hj'] at hj
        exact (Option.some.inj hj).symm
      obtain ⟨h1, h2, h3⟩ := Classical.choose_spec (each ⟨j, hj'⟩)
      exact ⟨_, h2, by rw [hp']; exact h1, h3⟩
theorem open_arg {α : Type} {d : Kd α} (h : Opens P t d) {H : Type} {enc : TypeId × Value → H} {w : World} {base : Nat} {spare : Nat → Bool} {held : Bool} {v : Value} {x : DataW H} {ps : List MemPlace}
    (hx : DataW.Trod enc P w base spare held t v x ps) : ∃ a, d.K w a v.cells.toList := by
  obtain ⟨fuel, hf⟩ := hx
  exact h H enc w base spare held fuel _ _ hf
end Go.Proofs.Ytpdnabhpkdchjaa.Open
namespace Go.Proofs.Ytpdnabhpkdchjaa.Open
open Go.RowKit Go.Proofs.YtpdnabhpkdchjaaW.PrintWords Go.Proofs.YtpdnabhpkdchjaaW.PrintLast Go.Proofs.YtpdnabhpkdchjaaW.PrintMore
open Go.ChangeShapes Go.WideShapes Go.ChangeAt P
set_option maxRecDepth 100000
set_option linter.unusedVariables false
section
variable {H : Type} {enc : TypeId × Value → H} {W : World} {base b0 : Nat} {spare : Nat → Bool} {held : Bool} {v : Value} {x : DataW H} {ps : List MemPlace} {r : Reach}
theorem arg_slice {α : Type} {d : Kd α} {t e : TypeId} (ht : Try.prog.underlying t = some (.slice e)) (hd : Opens Try.prog t (Kd.slice e d)) (hv : Value.okWide Try.prog W r b0 t v) (h : DataW.Trod enc Try.prog W base spare held t v x ps) :
    ∃ A c l, v = .slice A l.length c ∧ Kd.C d W A l.length l ∧ l.length ≤ c := by
  obtain ⟨a, len, cap, rfl⟩ := okWide_slice ht hv
  obtain ⟨l, A, c, h1, hl, hr⟩ := open_arg hd h
  have h1' : [Value.slice a len cap] = [.slice A l.length c] := h1
  injection h1' with h2 _
  injection h2 with h3 h4 h5
  subst h3 h4 h5
  exact ⟨_, _, l, rfl, hr, hl⟩
end
theorem joined_of (f : FuncId) (fn : Func) (s : ChangeSpec) (c : OpenClaim) (k1 : c.wf (OpenSpec.ofChange s) = true) (k4 : fn.params.all (Try.prog.readableRec ·) = true) (k5 : namedTie Try.prog c.named s.vars = true)
    (k6 : (c.stops == []) = true) (k8 : (c.knobs == []) = true) (k9 : (Try.prog.stopKnobs == []) = true) (k10 : (c.inPlace == Try.prog.inPlace f) = true) (k11 : (c.unfollowed == Try.prog.unfollowed f) = true) (k12 : (c.recurses == Try.prog.recurses f) = true) (k13 : (c.named == Try.prog.varsNamed f) = true)
    (k14 : (c.maps == (fn.params.toList ++ s.plain.varTypes Try.prog).any (Try.prog.mapsRec ·)) = true) (k15 : (c.ifaces == (fn.params.toList ++ s.plain.varTypes Try.prog).any (Try.prog.ifacesRec ·)) = true) (k16 : (c.mapsOut == Try.prog.mapsAmong fn.resultTypes.toList) = true)
    (k17 : (c.loops == (fn.params.toList ++ s.plain.varTypes Try.prog).any (Try.prog.loopsFrom ·)) = true) (k17b : (c.wideKeys == (fn.params.toList ++ s.plain.varTypes Try.prog ++ fn.resultTypes.toList).any (Try.prog.wideKeysFrom ·)) = true)
    (k18 : s.vars.all (Try.prog.varReadable ·) = true) (k19 : fn.resultTypes.all (fun t => Try.prog.readableRec t && decide (t < Try.prog.types.size)) = true) (k20 : (c.ifacesOut == fn.resultTypes.toList.any (Try.prog.ifacesRec ·)) = true) (k21 : (c.loopsOut == fn.resultTypes.toList.any (Try.prog.loopsFrom ·)) = true)
    (k22 : c.plainKeys = true) (k23 : c.shortTexts.isNone = true) (k24 : c.lifted = false) (k25 : c.make = .cut)
    (k26a : c.domain.isEmpty = true) (k26b : c.kinds = []) (k27 : (c.pinned == c.pinnedBy) = true)
    (k28 : (c.veiled == (fn.params.toList ++ s.plain.varTypes Try.prog ++ fn.resultTypes.toList).any (Try.prog.veiledRec ·)) = true) (k29 : c.veiledFits Try.prog fn.params.toList (fn.params.toList ++ s.plain.varTypes Try.prog ++ fn.resultTypes.toList) = true) :
    joinedFacts Try.prog f fn s c = true := by
  have q1 := Facts.laidOut
  have q2 := Facts.mapsRowed
  have q3 := Facts.stops
  have q4 := Facts.plainKeys
  have q5 := Facts.stopsHeard
  have q6 := Facts.mayEnter
  have q7 := Facts.liftsFinal
  have q8 := Facts.make
  generalize Try.prog = P at *
  unfold joinedFacts
  rw [k22, q4, k24, q7, k25, q8, k1, q1, q2, k4, k5, k6, q3, k8, k9, k10, k11, k12, k13, k14, k15, k16, k17, k17b, k18, k19, k20, k21, k23, q5, q6, k26a, k26b, if_pos rfl, k27, k28, k29]
  rfl
end Go.Proofs.Ytpdnabhpkdchjaa.Open
namespace Go.Proofs.Ytpdnabhpkdchjaa.P
open Go.RowKit Go.Proofs.YtpdnabhpkdchjaaW.PrintWords Go.Proofs.YtpdnabhpkdchjaaW.PrintLast
set_option linter.unusedVariables false
set_option linter.unusedSimpArgs false
instance dec154 : DecidableEq S154 := fun x y => decidable_of_iff (x.f0 = y.f0 ∧ x.f1 = y.f1 ∧ x.f2 = y.f2) (by cases x; cases y; simp)
def metAt (ps : List S143) (a i fr tt : Int) (k : Nat) : List S154 :=
  if fr < (rd_T143 ps (k : Int)).f0 + a ∧ (rd_T143 ps (k : Int)).f0 + a ≤ tt then [⟨(rd_T143 ps (k : Int)).f0 + a, i, (k : Int)⟩] else []
def rowTo (ps : List S143) (a i fr tt : Int) : Nat → List S154
  | 0 => []
  | k + 1 => rowTo ps a i fr tt k ++ metAt ps a i fr tt k
def metTo (ps : List S143) (ax : List Int) (fr tt : Int) : Nat → List S154
  | 0 => []
  | i + 1 => metTo ps ax fr tt i ++ rowTo ps (rd ax (i : Int)) (i : Int) fr tt ps.length
def mets (ps : List S143) (ax : List Int) (fr tt : Int) : List S154 := metTo ps ax fr tt ax.length
theorem mem_metAt {ps : List S143} {a i fr tt : Int} {k : Nat} {x : S154} : x ∈ metAt ps a i fr tt k ↔ x = ⟨(rd_T143 ps (k : Int)).f0 + a, i, (k : Int)⟩ ∧ fr < x.f0 ∧ x.f0 ≤ tt := by
  unfold metAt
  by_cases h : fr < (rd_T143 ps (k : Int)).f0 + a ∧ (rd_T143 ps (k : Int)).f0 + a ≤ tt
  · rw [if_pos h, List.mem_singleton]
    exact ⟨fun e => ⟨e, by rw [e]; exact h⟩, fun e => e.1⟩
  · rw [if_neg h]
    refine ⟨fun e => absurd e List.not_mem_nil, fun e => absurd ?_ h⟩
    have := e.2
    rw [e.1] at this
    exact this
theorem mem_rowTo {ps : List S143} {a i fr tt : Int} {x : S154} : ∀ {n : Nat}, x ∈ rowTo ps a i fr tt n ↔ ∃ k, k < n ∧ x = ⟨(rd_T143 ps (k : Int)).f0 + a, i, (k : Int)⟩ ∧ fr < x.f0 ∧ x.f0 ≤ tt
  | 0 => ⟨fun h => absurd h List.not_mem_nil, fun ⟨k, h, _⟩ => absurd h (Nat.not_lt_zero k)⟩
  | n + 1 => by
    rw [rowTo, List.mem_append, mem_rowTo (n := n), mem_metAt]
    constructor
    · rintro (⟨k, h, r⟩ | r)
      · exact ⟨k, Nat.lt_succ_of_lt h, r⟩
      · exact ⟨n, Nat.lt_succ_self n, r⟩
    · rintro ⟨k, h, r⟩
      by_cases e : k = n
      · subst e; exact Or.inr r
      · exact Or.inl ⟨k, by omega, r⟩
theorem mem_metTo {ps : List S143} {ax : List Int} {fr tt : Int} {x : S154} : ∀ {n : Nat}, x ∈ metTo ps ax fr tt n ↔ ∃ i k, i < n ∧ k < ps.length ∧ x = ⟨(rd_T143 ps ((k : Nat) : Int)).f0 + rd ax ((i : Nat) : Int), (i : Int), (k : Int)⟩ ∧ fr < x.f0 ∧ x.f0 ≤ tt
  | 0 => ⟨fun h => absurd h List.not_mem_nil, fun ⟨i, _, h, _⟩ => absurd h (Nat.not_lt_zero i)⟩
  | n + 1 => by
    rw [metTo, List.mem_append, mem_metTo (n := n), mem_rowTo]
    constructor
    · rintro (⟨i, k, h, r⟩ | ⟨k, r⟩)
      · exact ⟨i, k, Nat.lt_succ_of_lt h, r⟩
      · exact ⟨n, k, Nat.lt_succ_self n, r⟩
    · rintro ⟨i, k, h, r⟩
      by_cases e : i = n
      · subst e; exact Or.inr ⟨k, r⟩
      · exact Or.inl ⟨i, k, by omega, r⟩
theorem mem_mets {ps : List S143} {ax : List Int} {fr tt : Int} {x : S154} : x ∈ mets ps ax fr tt ↔ ∃ i k, i < ax.length ∧ k < ps.length ∧ x = ⟨(rd_T143 ps ((k : Nat) : Int)).f0 + rd ax ((i : Nat) : Int), (i : Int), (k : Int)⟩ ∧ fr < x.f0 ∧ x.f0 ≤ tt := mem_metTo
def ixLt (x y : S154) : Prop := x.f1 < y.f1 ∨ (x.f1 = y.f1 ∧ x.f2 < y.f2)
theorem metAt_ix (ps : List S143) (a i fr tt : Int) (k : Nat) : (metAt ps a i fr tt k).Pairwise ixLt := by
  unfold metAt
  split <;> simp
theorem rowTo_ix (ps : List S143) (a i fr tt : Int) : ∀ n, (rowTo ps a i fr tt n).Pairwise ixLt
  | 0 => List.Pairwise.nil
  | n + 1 => by
    rw [rowTo, List.pairwise_append]
    refine ⟨rowTo_ix ps a i fr tt n, metAt_ix .., fun x hx y hy => ?_⟩
    obtain ⟨k, hk, ex, _⟩ := mem_rowTo.1 hx
    have ey := (mem_metAt.1 hy).1
    rw [ex, ey]
    exact Or.inr ⟨rfl, by show (k : Int) < (n : Int); omega⟩
theorem metTo_ix (ps : List S143) (ax : List Int) (fr tt : Int) : ∀ n, (metTo ps ax fr tt n).Pairwise ixLt
  | 0 => List.Pairwise.nil
  | n + 1 => by
    rw [metTo, List.pairwise_append]
    refine ⟨metTo_ix ps ax fr tt n, rowTo_ix .., fun x hx y hy => ?_⟩
    obtain ⟨i, k, hi, hk, ex, _⟩ := mem_metTo.1 hx
    obtain ⟨k', hk', ey, _⟩ := mem_rowTo.1 hy
    rw [ex, ey]
    exact Or.inl (by show (i : Int) < (n : Int); omega)
theorem metAt_len (ps : List S143) (a i fr tt : Int) (k : Nat) : (metAt ps a i fr tt k).length ≤ 1 := by
  unfold metAt
  split <;> simp
theorem rowTo_len (ps : List S143) (a i fr tt : Int) : ∀ n, (rowTo ps a i fr tt n).length ≤ n
  | 0 => Nat.le_refl _
  | n + 1 => by rw [rowTo, List.length_append]; have := rowTo_len ps a i fr tt n; have := metAt_len ps a i fr tt n; omega
theorem metTo_len (ps : List S143) (ax : List Int) (fr tt : Int) : ∀ n, (metTo ps ax fr tt n).length ≤ n * ps.length
  | 0 => Nat.zero_le _
  | n + 1 => by rw [metTo, List.length_append, Nat.succ_mul]; have := metTo_len ps ax fr tt n; have := rowTo_len ps (rd ax (n : Int)) (n : Int) fr tt ps.length; omega
def lexLt (x y : S154) : Bool := decide (x.f0 < y.f0 ∨ (x.f0 = y.f0 ∧ (x.f1 < y.f1 ∨ (x.f1 = y.f1 ∧ x.f2 < y.f2))))
theorem lexLt_iff {x y : S154} : lexLt x y = true ↔ (x.f0 < y.f0 ∨ (x.f0 = y.f0 ∧ (x.f1 < y.f1 ∨ (x.f1 = y.f1 ∧ x.f2 < y.f2)))) := by unfold lexLt; exact decide_eq_true_iff
theorem lexLt_not {x y : S154} : lexLt x y = false ↔ ¬ (x.f0 < y.f0 ∨ (x.f0 = y.f0 ∧ (x.f1 < y.f1 ∨ (x.f1 = y.f1 ∧ x.f2 < y.f2)))) := by unfold lexLt; exact decide_eq_false_iff_not
theorem lexLt_irrefl (x : S154) : lexLt x x = false := lexLt_not.2 (by omega)
theorem lexLt_trans {x y z : S154} (h1 : lexLt x y = true) (h2 : lexLt y z = true) : lexLt x z = true := by rw [lexLt_iff] at *; omega
theorem lexLt_asymm {x y : S154} (h1 : lexLt x y = true) : lexLt y x = false := by rw [lexLt_iff] at h1; rw [lexLt_not]; omega
theorem lexLt_total {x y : S154} (h1 : lexLt x y = false) (h2 : lexLt y x = false) : x = y := by
  rw [lexLt_not] at h1 h2
  obtain ⟨a, b, c⟩ := x
  obtain ⟨d, e, f⟩ := y
  dsimp only at h1 h2
  obtain rfl : a = d := by omega
  obtain rfl : b = e := by omega
  obtain rfl : c = f := by omega
  rfl
theorem snoc_ind {α : Type} {P : List α → Prop} (h0 : P []) (h1 : ∀ xs y, P xs → P (xs ++ [y])) (xs : List α) : P xs := by
  have h : ∀ ys : List α, P ys.reverse := by
    intro ys
    induction ys with
    | nil => exact h0
    | cons y ys ih => rw [List.reverse_cons]; exact h1 _ _ ih
  have := h xs.reverse
  rwa [List.reverse_reverse] at this
theorem lex_unique {xs ys : List S154} (hp : xs.Perm ys) (hx : xs.Pairwise (fun a b => lexLt a b = true)) (hy : ys.Pairwise (fun a b => lexLt a b = true)) : xs = ys :=
  List.Perm.eq_of_pairwise (le := fun a b => lexLt a b = true) (fun a b _ _ h1 h2 => absurd (lexLt_asymm h1) (by rw [h2]; decide)) hx hy hp
def insM (y : S154) (acc : List S154) : List S154 := acc.filter (fun x => !lexLt y x) ++ y :: acc.filter (fun x => lexLt y x)
def sortM (xs : List S154) : List S154 := xs.foldl (fun acc y => insM y acc) []
theorem sortM_snoc (xs : List S154) (y : S154) : sortM (xs ++ [y]) = insM y (sortM xs) := by rw [sortM, List.foldl_append]; rfl
theorem insM_perm (y : S154) (acc : List S154) : (insM y acc).Perm (y :: acc) := by
  unfold insM
  refine List.perm_middle.trans (List.Perm.cons y ?_)
  refine List.perm_append_comm.trans ?_
  have := List.filter_append_perm (fun x => lexLt y x) acc
  exact this
theorem sortM_perm : ∀ (xs : List S154), (sortM xs).Perm xs := by
  refine snoc_ind (List.Perm.refl _) fun xs y ih => ?_
  · rw [sortM_snoc]
    exact (insM_perm y _).trans ((List.Perm.cons y ih).trans (List.perm_append_comm (l₁ := [y])))
theorem insM_sorted {y : S154} {acc : List S154} (ha : acc.Pairwise (fun a b => lexLt a b = true)) (hy : y ∉ acc) : (insM y acc).Pairwise (fun a b => lexLt a b = true) := by
  unfold insM
  rw [List.pairwise_append, List.pairwise_cons]
  refine ⟨ha.filter _, ⟨fun b hb => (List.mem_filter.1 hb).2, ha.filter _⟩, fun a h b hb => ?_⟩
  have h1 := List.mem_filter.1 h
  have hny : lexLt y a = false := by have := h1.2; simpa using this
  have hay : lexLt a y = true := by
    cases hq : lexLt a y
    · exact absurd (lexLt_total hny hq ▸ h1.1) hy
    · rfl
  rcases List.mem_cons.1 hb with rfl | hb
  · exact hay
  · exact lexLt_trans hay (List.mem_filter.1 hb).2
theorem sortM_sorted (xs : List S154) : xs.Nodup → (sortM xs).Pairwise (fun a b => lexLt a b = true) := by
  refine snoc_ind (P := fun xs => xs.Nodup → (sortM xs).Pairwise (fun a b => lexLt a b = true)) (fun _ => List.Pairwise.nil) (fun xs y ih hx => ?_) xs
  rw [List.nodup_append] at hx
  rw [sortM_snoc]
  exact insM_sorted (ih hx.1) (fun h => hx.2.2 _ ((sortM_perm xs).mem_iff.1 h) _ List.mem_cons_self rfl)
theorem ix_nodup {xs : List S154} (h : xs.Pairwise ixLt) : xs.Nodup := h.imp (fun {a b} h e => by subst e; unfold ixLt at h; omega)
theorem mets_nodup (ps : List S143) (ax : List Int) (fr tt : Int) : (mets ps ax fr tt).Nodup := ix_nodup (metTo_ix ps ax fr tt _)
def evOf (ps : List S143) (x : S154) : S56 := ⟨1, (rd_T143 ps x.f2).f1, (rd_T143 ps x.f2).f2⟩
def trainEvs (ps : List S143) (ax : List Int) (fr tt : Int) : List S56 := (sortM (mets ps ax fr tt)).map (evOf ps)
theorem mem_sortM {xs : List S154} {x : S154} : x ∈ sortM xs ↔ x ∈ xs := (sortM_perm xs).mem_iff
theorem sortM_len (xs : List S154) : (sortM xs).length = xs.length := (sortM_perm xs).length_eq
theorem mets_cut (ps : List S143) (ax : List Int) {fr mid tt : Int} (h1 : fr ≤ mid) (h2 : mid ≤ tt) :
    sortM (mets ps ax fr mid) ++ sortM (mets ps ax mid tt) = sortM (mets ps ax fr tt) := by
  have hs : (sortM (mets ps ax fr mid) ++ sortM (mets ps ax mid tt)).Pairwise (fun a b => lexLt a b = true) := by
    rw [List.pairwise_append]
    refine ⟨sortM_sorted _ (mets_nodup ..), sortM_sorted _ (mets_nodup ..), fun x hx y hy => ?_⟩
    obtain ⟨_, _, _, _, _, _, hx2⟩ := mem_mets.1 (mem_sortM.1 hx)
    obtain ⟨_, _, _, _, _, hy2, _⟩ := mem_mets.1 (mem_sortM.1 hy)
    exact lexLt_iff.2 (Or.inl (by omega))
  refine lex_unique ?_ hs (sortM_sorted _ (mets_nodup ..))
  refine (List.perm_ext_iff_of_nodup (hs.imp (fun {a b} h e => by subst e; rw [lexLt_irrefl] at h; exact absurd h (by decide))) ((sortM_sorted _ (mets_nodup ps ax fr tt)).imp (fun {a b} h e => by subst e; rw [lexLt_irrefl] at h; exact absurd h (by decide)))).2 (fun x => ?_)
  rw [List.mem_append, mem_sortM, mem_sortM, mem_sortM, mem_mets, mem_mets, mem_mets]
  constructor
  · rintro (⟨i, k, hi, hk, e, r⟩ | ⟨i, k, hi, hk, e, r⟩)
    · exact ⟨i, k, hi, hk, e, by omega⟩
    · exact ⟨i, k, hi, hk, e, by omega⟩
  · rintro ⟨i, k, hi, hk, e, r⟩
    by_cases hm : x.f0 ≤ mid
    · exact Or.inl ⟨i, k, hi, hk, e, by omega⟩
    · exact Or.inr ⟨i, k, hi, hk, e, by omega⟩
theorem trainEvs_cut (ps : List S143) (ax : List Int) {fr mid tt : Int} (h1 : fr ≤ mid) (h2 : mid ≤ tt) : trainEvs ps ax fr mid ++ trainEvs ps ax mid tt = trainEvs ps ax fr tt := by
  rw [trainEvs, trainEvs, trainEvs, ← List.map_append, mets_cut ps ax h1 h2]
def atPost (xs : List S154) (c : Int) : Nat := xs.countP (fun x => x.f2 == c)
def metOf (ps : List S143) (ax : List Int) (i k : Nat) : S154 := ⟨(rd_T143 ps (k : Int)).f0 + rd ax (i : Int), (i : Int), (k : Int)⟩
theorem metOf_inj {ps : List S143} {ax : List Int} {i k i' k' : Nat} (h : metOf ps ax i k = metOf ps ax i' k') : i = i' ∧ k = k' := by
  unfold metOf at h
  injection h with h0 h1 h2
  omega
theorem nodup_map {α β : Type} {f : α → β} {l : List α} (hl : l.Nodup) (hf : ∀ a ∈ l, ∀ b ∈ l, f a = f b → a = b) : (l.map f).Nodup := by
  rw [List.Nodup, List.pairwise_map]
  exact hl.imp_of_mem (fun {a b} ha hb hne e => hne (hf a ha b hb e))
theorem atPost_axles {ps : List S143} {ax : List Int} {xs : List S154} (hn : xs.Nodup) (hm : ∀ x ∈ xs, ∃ i k : Nat, i < ax.length ∧ k < ps.length ∧ x = metOf ps ax i k) (c : Nat) :
    atPost xs (c : Int) = (List.range ax.length).countP (fun i => decide (metOf ps ax i c ∈ xs)) := by
  unfold atPost
  rw [List.countP_eq_length_filter, List.countP_eq_length_filter, ← List.length_map (f := fun i => metOf ps ax i c)]
  refine (List.perm_ext_iff_of_nodup (hn.filter _) (nodup_map (List.nodup_range.filter _) (fun a _ b _ e => (metOf_inj e).1)) |>.2 (fun x => ?_)).length_eq
  rw [List.mem_filter, List.mem_map]
  constructor
  · rintro ⟨hx, hc⟩
    obtain ⟨i, k, hi, hk, rfl⟩ := hm x hx
    have e : k = c := by
      have : ((k : Nat) : Int) = (c : Int) := by simpa [metOf] using hc
      omega
    subst e
    exact ⟨i, List.mem_filter.2 ⟨List.mem_range.2 hi, by simpa using hx⟩, rfl⟩
  · rintro ⟨i, hi, rfl⟩
    have h2 := (List.mem_filter.1 hi).2
    exact ⟨by simpa using h2, by simp [metOf]⟩
theorem countP_le {α : Type} {p q : α → Bool} {l : List α} (h : ∀ a ∈ l, p a = true → q a = true) : l.countP p ≤ l.countP q := List.countP_mono_left h
theorem sorted_take {ys : List S154} (hs : ys.Pairwise (fun a b => lexLt a b = true)) (m : Nat) {x y : S154} (hx : x ∈ ys.take m) (hy : y ∈ ys) (h : lexLt y x = true) : y ∈ ys.take m := by
  rw [← List.take_append_drop m ys, List.mem_append] at hy
  rcases hy with hy | hy
  · exact hy
  · rw [← List.take_append_drop m ys, List.pairwise_append] at hs
    have := hs.2.2 x hx y hy
    rw [lexLt_asymm this] at h
    cases h
theorem sort_nodup {ys : List S154} (hs : ys.Pairwise (fun a b => lexLt a b = true)) : ys.Nodup := hs.imp (fun {a b} h e => by subst e; rw [lexLt_irrefl] at h; exact absurd h (by decide))
theorem atPost_mono {ps : List S143} {ax : List Int} {fr tt : Int} (m : Nat) (c : Nat) (hc : c + 1 < ps.length) (hp : (rd_T143 ps (c : Int)).f0 < (rd_T143 ps ((c + 1 : Nat) : Int)).f0) (h0 : ∀ i : Nat, i < ax.length → fr < (rd_T143 ps (c : Int)).f0 + rd ax (i : Int)) :
    atPost ((sortM (mets ps ax fr tt)).take m) ((c + 1 : Nat) : Int) ≤ atPost ((sortM (mets ps ax fr tt)).take m) (c : Int) := by
  have hs := sortM_sorted _ (mets_nodup ps ax fr tt)
  have hn : ((sortM (mets ps ax fr tt)).take m).Nodup := (List.take_sublist m _).nodup (sort_nodup hs)
  have hm : ∀ x ∈ (sortM (mets ps ax fr tt)).take m, ∃ i k : Nat, i < ax.length ∧ k < ps.length ∧ x = metOf ps ax i k := by
    intro x hx
    obtain ⟨i, k, hi, hk, e, _⟩ := mem_mets.1 (mem_sortM.1 (List.mem_of_mem_take hx))
    exact ⟨i, k, hi, hk, e⟩
  rw [atPost_axles hn hm, atPost_axles hn hm]
  refine countP_le (fun i hi h => ?_)
  have hi' := List.mem_range.1 hi
  simp only [decide_eq_true_eq] at h ⊢
  refine sorted_take hs m h (mem_sortM.2 (mem_mets.2 ⟨i, c, hi', by omega, rfl, h0 i hi', ?_⟩)) (lexLt_iff.2 (Or.inl ?_))
  · obtain ⟨i2, k2, _, _, e, _, h2⟩ := mem_mets.1 (mem_sortM.1 (List.mem_of_mem_take h))
    have h3 : (metOf ps ax i (c + 1)).f0 ≤ tt := h2
    simp only [metOf] at h3 ⊢
    omega
  · simp only [metOf]; omega
theorem atPost_all {ps : List S143} {ax : List Int} {fr tt : Int} (c : Nat) (hc : c < ps.length) (h0 : ∀ i : Nat, i < ax.length → fr < (rd_T143 ps (c : Int)).f0 + rd ax (i : Int)) :
    atPost (sortM (mets ps ax fr tt)) (c : Int) = (List.range ax.length).countP (fun i : Nat => decide ((rd_T143 ps (c : Int)).f0 + rd ax (i : Int) ≤ tt)) := by
  have hs := sortM_sorted _ (mets_nodup ps ax fr tt)
  rw [atPost_axles (ps := ps) (ax := ax) (sort_nodup hs) (fun x hx => by obtain ⟨i, k, hi, hk, e, _⟩ := mem_mets.1 (mem_sortM.1 hx); exact ⟨i, k, hi, hk, e⟩)]
  refine List.countP_congr (fun i hi => ?_)
  have hi' := List.mem_range.1 hi
  simp only [decide_eq_true_eq, mem_sortM, mem_mets]
  constructor
  · rintro ⟨i2, k2, _, _, e, _, h2⟩
    exact h2
  · intro h
    exact ⟨i, c, hi', hc, rfl, h0 i hi', h⟩
end Go.Proofs.Ytpdnabhpkdchjaa.P
namespace Go.Proofs.Ytpdnabhpkdchjaa.P
open Go.RowKit Go.Proofs.YtpdnabhpkdchjaaW.PrintWords Go.Proofs.YtpdnabhpkdchjaaW.PrintLast Go.Proofs.YtpdnabhpkdchjaaW.PrintMore
set_option linter.unusedVariables false
set_option linter.unusedSimpArgs false
theorem ret_int {k : IntKind} {a b : Int} (h : a = b) : Ending.returned (.int k a) = .returned (.int k b) := by rw [h]
theorem ret_bool {a b : Bool} (h : a = b) : Ending.returned (.bool a) = .returned (.bool b) := by rw [h]
def inB (n x : Int) : Bool := decide (-1 ≤ x) && decide (x < n)
def ctrOk (n : Int) (x : S88) : Bool := inB n x.f0 && inB n x.f1 && !(x.f0 == x.f1)
def layoutOk (n : Int) (l : List S88) : Int := if n < 1 then 1 else if 60 < n then 1 else if 120 < l.length then 1 else if l.all (ctrOk n) then 0 else 2
def impl_LayoutOk.f (a0_0 : Int) (l0_1 : List S88) : Option Int := some (layoutOk a0_0 l0_1)
theorem in_calls (x n : Int) (v : Value) (g : Nat) (w : World) (hb : w.heap[g]? = some (.cells #[.int .i64 n, v] 30 (0, 0))) :
    Calls Try.prog 89 #[.int .i64 x, .pointer (some ⟨g, 0, none⟩)] w fun e w' => e = .returned (.bool (inB n x)) ∧ w = w' := by
  have hc : w.cell? ⟨g, 0, none⟩ = some (.int .i64 n) := (blk_cell hb 0).trans rfl
  by_cases h : -1 ≤ x
  · have h1 : decide (x ≥ -1) = true := decide_eq_true h
    go_enter Try.func89, Try.ntmps89
    go_wp2
    go_ret
    exact ⟨ret_bool (by simp [inB, h]), rfl⟩
  · have h1 : decide (x ≥ -1) = false := decide_eq_false h
    go_enter Try.func89, Try.ntmps89
    go_wp2
    go_ret
    exact ⟨ret_bool (by simp only [inB, decide_eq_false (show ¬ (-1 ≤ x) by omega), Bool.false_and]), rfl⟩
theorem layoutOk_bad {n : Int} {l : List S88} (h : ¬ (n < 1) ∧ ¬ (60 < n) ∧ ¬ (120 < l.length)) {i : Nat} (hi : i < l.length) (hb : ctrOk n (rd_T88 l i) = false) : layoutOk n l = 2 := by
  unfold layoutOk
  rw [if_neg h.1, if_neg h.2.1, if_neg h.2.2, if_neg]
  intro ha
  have := List.all_eq_true.1 ha (l.getD i z88) (by rw [List.getD_eq_getElem?_getD, List.getElem?_eq_getElem hi]; exact List.getElem_mem hi)
  simp only [rd_T88, Int.toNat_natCast] at hb
  rw [hb] at this
  cases this
theorem lay_b {n : Int} {m : Nat} (h : 1 ≤ n ∧ n ≤ 60 ∧ ¬ 120 < m) : ¬ (n < 1) ∧ ¬ (60 < n) ∧ ¬ (120 < m) := ⟨by omega, by omega, h.2.2⟩
theorem layoutOk_good {n : Int} {l : List S88} (h : ¬ (n < 1) ∧ ¬ (60 < n) ∧ ¬ (120 < l.length)) {i : Nat} (hi : ¬ i < l.length) (ht : (l.take i).all (ctrOk n) = true) : layoutOk n l = 0 := by
  rw [List.take_of_length_le (by omega)] at ht
  unfold layoutOk
  rw [if_neg h.1, if_neg h.2.1, if_neg h.2.2, if_pos ht]
theorem take_all {n : Int} {l : List S88} {i : Nat} (hi : i < l.length) (ht : (l.take i).all (ctrOk n) = true) (hb : ctrOk n (rd_T88 l i) = true) : (l.take (i + 1)).all (ctrOk n) = true := by
  rw [List.take_succ_eq_append_getElem hi, List.all_append, ht]
  simp only [rd_T88, Int.toNat_natCast, List.getD_eq_getElem?_getD, List.getElem?_eq_getElem hi, Option.getD_some] at hb
  simp [hb]
set_option maxHeartbeats 2000000 in
set_option maxRecDepth 100000 in
theorem impl_LayoutOk.calls (a0_0 : Int) (A0_1 : Option Addr) (c0_1 : Nat) (l0_1 : List (S88)) (r : Int) (w : World) (hr0_1 : Kd.C k88 w A0_1 l0_1.length l0_1) (hc0_1 : l0_1.length ≤ c0_1) (h : impl_LayoutOk.f a0_0 l0_1 = some r) :
    Calls Try.prog 25 #[.agg #[.int .i64 a0_0, .slice A0_1 l0_1.length c0_1]] w fun e w' => e = .returned (.int .i64 r) ∧ Below w.heap.size w w' := by
  obtain rfl := Option.some.inj h
  clear h
  have HR := Aside0.mk hr0_1
  clear hr0_1 hc0_1
  by_cases h1 : a0_0 < 1
  · have e : Aside0 (layoutOk a0_0 l0_1 = 1) := ⟨by unfold layoutOk; rw [if_pos h1]⟩
    have h1b : decide (a0_0 < 1) = true := decide_eq_true h1
    clear h1
    go_enter Try.func25, Try.ntmps25
    go_wp2
    go_ret
    exact ⟨ret_int e.out.symm, below_alloc (Below.refl _ _) _⟩
  · have h1b : decide (a0_0 < 1) = false := decide_eq_false h1
    by_cases h2 : 60 < a0_0
    · have e : Aside0 (layoutOk a0_0 l0_1 = 1) := ⟨by unfold layoutOk; rw [if_neg h1, if_pos h2]⟩
      have h2b : decide (a0_0 > 60) = true := decide_eq_true h2
      clear h1 h2
      go_enter Try.func25, Try.ntmps25
      go_wp2
      go_ret
      exact ⟨ret_int e.out.symm, below_alloc (Below.refl _ _) _⟩
    · have h2b : decide (a0_0 > 60) = false := decide_eq_false h2
      by_cases h3 : 120 < l0_1.length
      · have e : Aside0 (layoutOk a0_0 l0_1 = 1) := ⟨by unfold layoutOk; rw [if_neg h1, if_neg h2, if_pos h3]⟩
        have h3b : decide ((l0_1.length : Int) > 120) = true := decide_eq_true (by omega)
        have h3c : decide (120 < l0_1.length) = true := decide_eq_true h3
        clear h1 h2 h3
        go_enter Try.func25, Try.ntmps25
        go_wp2
        go_ret
        exact ⟨ret_int e.out.symm, below_alloc (Below.refl _ _) _⟩
      · have h3b : decide ((l0_1.length : Int) > 120) = false := decide_eq_false (by omega)
        have h3c : decide (120 < l0_1.length) = false := decide_eq_false h3
        have HH : Aside0 (¬ (a0_0 < 1) ∧ ¬ (60 < a0_0) ∧ ¬ (120 < l0_1.length)) := ⟨h1, h2, h3⟩
        clear h1 h2 h3
        go_enter Try.func25, Try.ntmps25
        go_wp2
        go_loopw [24] (fun v wr => ∃ i : Nat, v = .int .i64 i ∧ Aside0 (i ≤ l0_1.length ∧ (l0_1.take i).all (ctrOk a0_0) = true) ∧ Aside0 (wr.heap[w.heap.size]? = some (.cells #[.int .i64 a0_0, .slice A0_1 l0_1.length c0_1] 30 (0, 0))) ∧ Aside0 (Below w.heap.size w wr)) (fun v _ => l0_1.length - (intOf v).toNat)
        case atStart => exact ⟨0, rfl, ⟨Nat.zero_le _, by simp⟩, ⟨heap_alloc_new _ _⟩, ⟨below_alloc (Below.refl _ _) _⟩⟩
        case round =>
          obtain ⟨i, rfl, HI, BK, HB⟩ := hrel
          have hgt : Aside0 (¬ (a0_0 < 1) ∧ ¬ (60 < a0_0) ∧ ¬ (120 < l0_1.length)) := by
            have := HH.out
            exact ⟨by omega, by omega, by omega⟩
          clear HH
          have hcz0 : wr.cell? ⟨w.heap.size, 0, none⟩ = some (.int .i64 a0_0) := (blk_cell BK.out 0).trans rfl
          have hcz1 : wr.cell? ⟨w.heap.size, 1, none⟩ = some (.slice A0_1 l0_1.length c0_1) := (blk_cell BK.out 1).trans rfl
          by_cases hlt : i < l0_1.length
          · have hlt1 : decide ((i : Int) < (l0_1.length : Int)) = true := decide_eq_true (by omega)
            have hlt2 : decide (i < l0_1.length) = true := decide_eq_true hlt
            obtain ⟨ad, e, hx0, hx1⟩ := at_T88 HR.out (i : Int) (by omega) (by omega)
            subst e
            replace hx0 := (HB.out.cell (World.block_lt_of_cell? w _ hx0)).trans hx0
            replace hx1 := (HB.out.cell (World.block_lt_of_cell? w _ hx1)).trans hx1
            rw [Int.toNat_natCast] at hx0 hx1
            generalize hv : rd_T88 l0_1 i = v at hx0 hx1
            have HV := Aside0.mk hv
            clear hv
            have HLT := Aside0.mk hlt
            have hsz := Aside0.mk HB.out.size
            have hp0 : 0 ≤ (i : Int) := by omega
            have hp1 : (i : Int) < 120 := by have := hgt.out; omega
            by_cases t1 : inB a0_0 v.f0 = true
            · have T1 : Aside0 (true = inB a0_0 v.f0) := ⟨t1.symm⟩
              clear t1
              by_cases t2 : inB a0_0 v.f1 = true
              · have T2 : Aside0 (true = inB a0_0 v.f1) := ⟨t2.symm⟩
                clear t2
                by_cases t3 : v.f0 = v.f1
                · have t3b : (v.f0 == v.f1) = true := beq_iff_eq.mpr t3
                  have T3 : Aside0 (true = (v.f0 == v.f1)) := ⟨t3b.symm⟩
                  clear t3
                  go_wp2_with (go_at_call 89; refine (in_calls _ a0_0 _ w.heap.size _ (blk_alloc BK.out _)).mono ?_; rintro e w' ⟨rfl, rfl⟩; (first | rw [← T1.out] | rw [← T2.out]))
                  go_ret
                  exact ⟨ret_int (layoutOk_bad (lay_b hgt.out) HLT.out (by rw [HV.out]; simp [ctrOk, ← T3.out])).symm, below_alloc HB.out _⟩
                · have t3b : (v.f0 == v.f1) = false := beq_eq_false_iff_ne.mpr t3
                  have T3 : Aside0 (false = (v.f0 == v.f1)) := ⟨t3b.symm⟩
                  clear t3
                  go_wp2_with (go_at_call 89; refine (in_calls _ a0_0 _ w.heap.size _ (blk_alloc BK.out _)).mono ?_; rintro e w' ⟨rfl, rfl⟩; (first | rw [← T1.out] | rw [← T2.out]))
                  go_roundw
                  case rel => exact ⟨i + 1, by go_num, ⟨HLT.out, take_all HLT.out HI.out.2 (by rw [HV.out]; simp [ctrOk, ← T1.out, ← T2.out, ← T3.out])⟩, ⟨blk_alloc BK.out _⟩, ⟨below_alloc HB.out _⟩⟩
                  case measure => have := HLT.out; simp [intOf]; omega
              · have T2 : Aside0 (false = inB a0_0 v.f1) := ⟨by simpa using t2⟩
                clear t2
                go_wp2_with (go_at_call 89; refine (in_calls _ a0_0 _ w.heap.size _ (blk_alloc BK.out _)).mono ?_; rintro e w' ⟨rfl, rfl⟩; (first | rw [← T1.out] | rw [← T2.out]))
                go_ret
                exact ⟨ret_int (layoutOk_bad (lay_b hgt.out) HLT.out (by rw [HV.out]; simp [ctrOk, ← T2.out])).symm, below_alloc HB.out _⟩
            · have T1 : Aside0 (false = inB a0_0 v.f0) := ⟨by simpa using t1⟩
              clear t1
              go_wp2_with (go_at_call 89; refine (in_calls _ a0_0 _ w.heap.size _ (blk_alloc BK.out _)).mono ?_; rintro e w' ⟨rfl, rfl⟩; rw [← T1.out])
              go_ret
              exact ⟨ret_int (layoutOk_bad (lay_b hgt.out) HLT.out (by rw [HV.out]; simp [ctrOk, ← T1.out])).symm, below_alloc HB.out _⟩
          · have hlt1 : decide ((i : Int) < (l0_1.length : Int)) = false := decide_eq_false (by omega)
            have hlt2 : decide (i < l0_1.length) = false := decide_eq_false hlt
            have HLT := Aside0.mk hlt
            clear hlt
            go_wp2
            go_ret
            exact ⟨ret_int (layoutOk_good (lay_b hgt.out) HLT.out HI.out.2).symm, HB.out⟩
end Go.Proofs.Ytpdnabhpkdchjaa.P
namespace Go.Proofs.Ytpdnabhpkdchjaa.P
open Go.RowKit Go.Proofs.YtpdnabhpkdchjaaW.PrintWords Go.Proofs.YtpdnabhpkdchjaaW.PrintLast Go.Proofs.YtpdnabhpkdchjaaW.PrintMore
attribute [local go_sem] max2_int min2_int max_two min_two max_three min_three max_four min_four
set_option linter.unusedVariables false
set_option linter.unusedSimpArgs false
def spec_l1in.f (a0:Int) (a1:Int) (a2:Int):Option (Bool):=if a0 ≥ a1 then (some (decide (a0≤a2))) else (some false)
set_option maxHeartbeats 8000000 in
set_option maxRecDepth 100000 in
theorem spec_l1in.calls (a0:Int) (a1:Int) (a2:Int) (r:Bool) (w:World) (h:spec_l1in.f a0 a1 a2=some r) :
  Calls Try.prog 87 #[.int .i64 a0,.int .i64 a1,.int .i64 a2] w fun e w'=>e=.returned (.bool r)∧Drawn0 w w':=by
 have H:(if a0 ≥ a1 then (some (decide (a0≤a2))) else (some false))=some r:=h
 clear h
 by_cases c4:a0 ≥ a1
 ·rw [if_pos c4] at H
  have c4b0:decide (a1≤a0)=true:=decide_eq_true c4
  clear c4
  obtain rfl:=Option.some.inj H
  go_enter Try.func87,Try.ntmps87
  go_wp2
  go_ret
  exact ⟨by first|rfl|(simp;done)|(simp [*];done),by repeat (first|exact Drawn0.refl _|apply Drawn0.step)⟩
 rw [if_neg c4] at H
 have c4b0:decide (a1≤a0)=false:=decide_eq_false c4
 clear c4
 obtain rfl:=Option.some.inj H
 go_enter Try.func87,Try.ntmps87
 go_wp2
 go_ret
 exact ⟨by first|rfl|(simp;done)|(simp [*];done),by repeat (first|exact Drawn0.refl _|apply Drawn0.step)⟩
end Go.Proofs.Ytpdnabhpkdchjaa.P
namespace Go.Proofs.Ytpdnabhpkdchjaa.P
open Go.RowKit Go.Proofs.YtpdnabhpkdchjaaW.PrintWords Go.Proofs.YtpdnabhpkdchjaaW.PrintLast Go.Proofs.YtpdnabhpkdchjaaW.PrintMore
attribute [local go_sem] max2_int min2_int max_two min_two max_three min_three max_four min_four
set_option linter.unusedVariables false
set_option linter.unusedSimpArgs false
mutual
def spec_LayoutOk.j0:Nat→Bool→Int→List (S88)→Option (Int)
 | 0,_,_,_=>none
 | k+1,x14,x104000,x104001=>if x14=true then (some 1) else (spec_LayoutOk.l0 k x104001 (x104001.length:Int) 0 x104000 x104001)
def spec_LayoutOk.l0:Nat→List (S88)→Int→Int→Int→List (S88)→Option (Int)
 | 0,_,_,_,_,_=>none
 | k+1,x16,x17,x18,x104000,x104001=>if x18<x17 then (if 0≤x18 then (if x18<(x16.length:Int) then ((spec_l1in.f ((rd_T88 x16 x18).f0) (-1) (wrap64 (x104000 - 1))).bind fun t107=>(if t107=true then ((spec_l1in.f ((rd_T88 x16 x18).f1) (-1) (wrap64 (x104000 - 1))).bind fun t108=>(if t108=true then (if ((rd_T88 x16 x18).f0)=((rd_T88 x16 x18).f1) then (some 2) else (spec_LayoutOk.l0 k x16 x17 (wrap64 (x18+1)) x104000 x104001)) else (some 2))) else (some 2))) else (none)) else (none)) else (some 0)
end
def spec_LayoutOk.f (k:Nat) (a0_0:Int) (l0_1:List (S88)):Option (Int):=(spec_l1in.f a0_0 1 60).bind fun t104=>(if t104=true then (spec_LayoutOk.j0 k (decide ((l0_1.length:Int) > 120)) a0_0 l0_1) else (spec_LayoutOk.j0 k true a0_0 l0_1))
set_option maxHeartbeats 8000000 in
set_option maxRecDepth 100000 in
theorem spec_LayoutOk.calls (k:Nat) (a0_0:Int) (A0_1:Option Addr) (c0_1:Nat) (l0_1:List (S88)) (r:Int) (w:World) (hr0_1:Kd.C k88 w A0_1 l0_1.length l0_1) (hc0_1:l0_1.length≤c0_1) (h:spec_LayoutOk.f k a0_0 l0_1=some r) :
  Calls Try.prog 23 #[.agg #[.int .i64 a0_0,.slice A0_1 l0_1.length c0_1]] w fun e w'=>e=.returned (.int .i64 r)∧Below w.heap.size w w':=by
 have hu30:=Try.underlying30
 have hu88:=Try.underlying88
 have HR0_1:=Aside0.mk hr0_1
 have HC0_1:=Aside0.mk hc0_1
 clear hr0_1 hc0_1
 have HB:=Aside0.mk (Below.refl w.heap.size w)
 have H:((spec_l1in.f a0_0 1 60).bind fun t104=>(if t104=true then (spec_LayoutOk.j0 k (decide ((l0_1.length:Int) > 120)) a0_0 l0_1) else (spec_LayoutOk.j0 k true a0_0 l0_1)))=some r:=h
 clear h
 have HC2:=Aside0.mk H
 clear H
 go_enter Try.func23,Try.ntmps23
 go_upto_region 1 with (first|((with_reducible refine gate_dst (N:=1) rfl ?_);refine box_event ?hg (N:=1) ?hd (cs:=#[.int .i64 a0_0,.slice A0_1 l0_1.length c0_1]) (t:=30) ?hr ?_;(case hd=>rfl);(case hg=>rfl);(case hr=>first|(go_simp;done)|(go_simp;rfl));intro gb103 hg w3 hbox hb;have n0_:=Aside0.mk (below_step (by exact HB.out) hb);have n1_:=Aside0.mk (hbox);have n2_:=Aside0.mk ((by rw [hg];exact (below_size (by exact HB.out)):w.heap.size≤gb103));have n3_:=Aside0.mk ((by rw [hg];exact (below_size (by exact HB.out)):w.heap.size≤gb103));clear HB;have HB:=n0_;have BK103:=n1_;have GW103:=n2_;have GE103:=n3_;clear n0_ n1_ n2_ n3_;clear hb hbox hg))
 (try simp only [Act.put,List.setIfInBounds_toArray,List.set_cons_zero,List.set_cons_succ])
 go_cut [14] (fun v14 wc=>∃ (kq:Nat) (x14_1:Bool),v14=.bool x14_1∧Aside0 (spec_LayoutOk.j0 kq x14_1 a0_0 l0_1=some r)∧Aside0 (kq≤k)∧Aside0 (wc.heap[gb103]?=some (.cells #[.int .i64 a0_0,(.slice A0_1 l0_1.length c0_1)] 30 (0,0)))∧Aside0 (Below w.heap.size w wc))
 case first =>
  have H:=HC2.out
  clear HC2
  replace H:=Option.bind_eq_some_iff.mp H
  obtain ⟨t104,A40,H⟩:=H
  replace H:(if t104=true then (spec_LayoutOk.j0 k (decide ((l0_1.length:Int) > 120)) a0_0 l0_1) else (spec_LayoutOk.j0 k true a0_0 l0_1))=some r:=H
  have A4:=Aside0.mk A40
  clear A40
  by_cases c5:t104=true
  ·subst c5
   have H1:(spec_LayoutOk.j0 k (decide ((l0_1.length:Int) > 120)) a0_0 l0_1)=some r:=by rw [if_pos rfl] at H;exact H
   clear H
   have H:=H1
   clear H1
   have H':=Aside0.mk H
   clear H
   have hcz6_0:w3.cell? ⟨gb103,0,none⟩=some (.int .i64 a0_0):=(blk_cell BK103.out 0).trans rfl
   have hcz6_1:w3.cell? ⟨gb103,1,none⟩=some (.slice A0_1 l0_1.length c0_1):=(blk_cell BK103.out 1).trans rfl
   have hfz6_0:=blk_frozen BK103.out 0
   have hfz6_1:=blk_frozen BK103.out 1
   go_wp2_with (first|((with_reducible refine gate_callee (f:=87) rfl ?_);refine goesL_ (some 7) rfl rfl Try.func87 (by kernel_rfl) rfl #[.int .i64 a0_0,.int .i64 1,.int .i64 60] rfl (by (try simp only [List.map_toArray,List.map_cons,List.map_nil]);first|done|rfl|(simp only [List.length_drop,List.length_take];rfl)) ?_;(with_reducible refine (spec_l1in.calls a0_0 1 60 true _ A4.out).mono ?_);rintro e w' ⟨rfl,⟨nd,rfl⟩⟩;refine ⟨_,rfl,?_⟩))
   go_meet
   case rel=>exact ⟨_,(decide ((l0_1.length:Int) > 120)),(by first|rfl|(simp;done)|(simp [*];done)),H',⟨by first|omega|exact Nat.le_refl _⟩,⟨by exact BK103.out⟩,⟨by repeat (first|(with_reducible first|exact HB.out|apply below_alloc|apply pw_below_drewN|apply below_drew1|refine below_set ?_ GE103.out)|exact HB.out)⟩⟩
  replace c5:=Bool.eq_false_iff.mpr c5
  subst c5
  have H1:(spec_LayoutOk.j0 k true a0_0 l0_1)=some r:=by rw [if_neg (show ¬ (false=true) by decide)] at H;exact H
  clear H
  have H:=H1
  clear H1
  have H':=Aside0.mk H
  clear H
  have hcz7_0:w3.cell? ⟨gb103,0,none⟩=some (.int .i64 a0_0):=(blk_cell BK103.out 0).trans rfl
  have hcz7_1:w3.cell? ⟨gb103,1,none⟩=some (.slice A0_1 l0_1.length c0_1):=(blk_cell BK103.out 1).trans rfl
  have hfz7_0:=blk_frozen BK103.out 0
  have hfz7_1:=blk_frozen BK103.out 1
  go_wp2_with (first|((with_reducible refine gate_callee (f:=87) rfl ?_);refine goesL_ (some 7) rfl rfl Try.func87 (by kernel_rfl) rfl #[.int .i64 a0_0,.int .i64 1,.int .i64 60] rfl (by (try simp only [List.map_toArray,List.map_cons,List.map_nil]);first|done|rfl|(simp only [List.length_drop,List.length_take];rfl)) ?_;(with_reducible refine (spec_l1in.calls a0_0 1 60 false _ A4.out).mono ?_);rintro e w' ⟨rfl,⟨nd,rfl⟩⟩;refine ⟨_,rfl,?_⟩))
  go_meet
  case rel=>exact ⟨_,(true),(by first|rfl|(simp;done)|(simp [*];done)),H',⟨by first|omega|exact Nat.le_refl _⟩,⟨by exact BK103.out⟩,⟨by repeat (first|(with_reducible first|exact HB.out|apply below_alloc|apply pw_below_drewN|apply below_drew1|refine below_set ?_ GE103.out)|exact HB.out)⟩⟩
 case rest =>
  clear HC2
  try clear c2
  try clear p2
  try clear c5
  try clear hcz6_0
  try clear hcz6_1
  try clear hcz7_0
  try clear hcz7_1
  try clear hfz6_0
  try clear hfz6_1
  try clear hfz7_0
  try clear hfz7_1
  obtain ⟨kq,x14_1,rfl,HA,HJ1,BK103,HB⟩:=hcut
  cases kq with
  | zero=>exact absurd HA.out (by simp [spec_LayoutOk.j0])
  | succ kj1 =>
   have H:=HA.out
   clear HA
   simp only [spec_LayoutOk.j0] at H
   by_cases c8:x14_1=true
   ·subst c8
    have H1:(some 1)=some r:=by rw [if_pos rfl] at H;exact H
    clear H
    have H:=H1
    clear H1
    obtain rfl:=Option.some.inj H
    go_wp2
    go_ret
    exact ⟨by first|rfl|(simp [errW_none,errW_some] <;> rfl)|(simp [*,errW_none,errW_some] <;> rfl),by exact HB.out⟩
   replace c8:=Bool.eq_false_iff.mpr c8
   subst c8
   have H1:(spec_LayoutOk.l0 kj1 l0_1 (l0_1.length:Int) 0 a0_0 l0_1)=some r:=by rw [if_neg (show ¬ (false=true) by decide)] at H;exact H
   clear H
   have H:=H1
   clear H1
   have H':=Aside0.mk H
   clear H
   have hcz9_0:wc.cell? ⟨gb103,0,none⟩=some (.int .i64 a0_0):=(blk_cell BK103.out 0).trans rfl
   have hcz9_1:wc.cell? ⟨gb103,1,none⟩=some (.slice A0_1 l0_1.length c0_1):=(blk_cell BK103.out 1).trans rfl
   have hfz9_0:=blk_frozen BK103.out 0
   have hfz9_1:=blk_frozen BK103.out 1
   go_wp2
   go_loopg [18] kj1 (fun kq v18 w'=>∃ (x18_2:Int),v18=.int .i64 x18_2∧Aside0 (spec_LayoutOk.l0 kq l0_1 (l0_1.length:Int) x18_2 a0_0 l0_1=some r)∧Aside0 (kq≤kj1)∧Aside0 (w'.heap[gb103]?=some (.cells #[.int .i64 a0_0,(.slice A0_1 l0_1.length c0_1)] 30 (0,0)))∧Aside0 (Below w.heap.size w w'))
   case atStart=>exact ⟨(0),(by first|rfl|(simp;done)|(simp [*];done)),H',⟨Nat.le_refl _⟩,⟨by exact BK103.out⟩,⟨by exact HB.out⟩⟩
   case round =>
    clear H'
    try clear c2
    try clear p2
    try clear c5
    try clear c8
    try clear hcz6_0
    try clear hcz6_1
    try clear hcz7_0
    try clear hcz7_1
    try clear hcz9_0
    try clear hcz9_1
    try clear hfz6_0
    try clear hfz6_1
    try clear hfz7_0
    try clear hfz7_1
    try clear hfz9_0
    try clear hfz9_1
    try clear p2
    obtain ⟨x18_2,rfl,HA,HK2,BK103,HB⟩:=hrel
    cases gk with
    | zero=>exact absurd HA.out (by simp [spec_LayoutOk.l0])
    | succ k2 =>
     have H:=HA.out
     clear HA
     simp only [spec_LayoutOk.l0] at H
     by_cases c10:x18_2<(l0_1.length:Int)
     ·rw [if_pos c10] at H
      have c10b0:decide (x18_2<(l0_1.length:Int))=true:=decide_eq_true c10
      clear c10
      by_cases c11:0≤x18_2
      ·rw [if_pos c11] at H
       have c11b0:decide (0≤x18_2)=true:=decide_eq_true c11
       clear c11
       by_cases c12:x18_2<(l0_1.length:Int)
       ·rw [if_pos c12] at H
        have c12b0:decide (x18_2<(l0_1.length:Int))=true:=decide_eq_true c12
        clear c12
        replace H:=Option.bind_eq_some_iff.mp H
        obtain ⟨t107,A130,H⟩:=H
        replace H:(if t107=true then ((spec_l1in.f ((rd_T88 l0_1 x18_2).f1) (-1) (wrap64 (a0_0 - 1))).bind fun t108=>(if t108=true then (if ((rd_T88 l0_1 x18_2).f0)=((rd_T88 l0_1 x18_2).f1) then (some 2) else (spec_LayoutOk.l0 k2 l0_1 (l0_1.length:Int) (wrap64 (x18_2+1)) a0_0 l0_1)) else (some 2))) else (some 2))=some r:=H
        have A13:=Aside0.mk A130
        clear A130
        by_cases c14:t107=true
        ·subst c14
         have H1:((spec_l1in.f ((rd_T88 l0_1 x18_2).f1) (-1) (wrap64 (a0_0 - 1))).bind fun t108=>(if t108=true then (if ((rd_T88 l0_1 x18_2).f0)=((rd_T88 l0_1 x18_2).f1) then (some 2) else (spec_LayoutOk.l0 k2 l0_1 (l0_1.length:Int) (wrap64 (x18_2+1)) a0_0 l0_1)) else (some 2)))=some r:=by rw [if_pos rfl] at H;exact H
         clear H
         have H:=H1
         clear H1
         replace H:=Option.bind_eq_some_iff.mp H
         obtain ⟨t108,A150,H⟩:=H
         replace H:(if t108=true then (if ((rd_T88 l0_1 x18_2).f0)=((rd_T88 l0_1 x18_2).f1) then (some 2) else (spec_LayoutOk.l0 k2 l0_1 (l0_1.length:Int) (wrap64 (x18_2+1)) a0_0 l0_1)) else (some 2))=some r:=H
         have A15:=Aside0.mk A150
         clear A150
         by_cases c16:t108=true
         ·subst c16
          have H1:(if ((rd_T88 l0_1 x18_2).f0)=((rd_T88 l0_1 x18_2).f1) then (some 2) else (spec_LayoutOk.l0 k2 l0_1 (l0_1.length:Int) (wrap64 (x18_2+1)) a0_0 l0_1))=some r:=by rw [if_pos rfl] at H;exact H
          clear H
          have H:=H1
          clear H1
          by_cases c17:((rd_T88 l0_1 x18_2).f0)=((rd_T88 l0_1 x18_2).f1)
          ·rw [if_pos c17] at H
           have c17b0:(((rd_T88 l0_1 x18_2).f0)==((rd_T88 l0_1 x18_2).f1))=true:=beq_iff_eq.mpr c17
           have c17b1:(((rd_T88 l0_1 x18_2).f0) != ((rd_T88 l0_1 x18_2).f1))=false:=bne_eq_false_iff_eq.mpr c17
           clear c17
           obtain rfl:=Option.some.inj H
           have p105:0≤(x18_2:Int):=of_decide_eq_true (by first|(with_reducible assumption)|assumption)
           have q105:x18_2<(l0_1.length:Int):=of_decide_eq_true (by first|(with_reducible assumption)|assumption)
           obtain ⟨ad105,e105,hx105_0,hx105_1⟩:=at_T88 HR0_1.out x18_2 p105 q105
           cases e105
           replace hx105_0:=(HB.out.cell (World.block_lt_of_cell? w _ hx105_0)).trans hx105_0
           replace hx105_1:=(HB.out.cell (World.block_lt_of_cell? w _ hx105_1)).trans hx105_1
           replace p105:=eq_true p105
           replace q105:=eq_true q105
           go_wp2_with (first|((with_reducible refine gate_dst (N:=4) rfl ?_);refine box_event ?hg (N:=4) ?hd (cs:=#[.int .i64 0,.int .i64 0]) (t:=88) ?hr ?_;(case hd=>rfl);(case hg=>rfl);(case hr=>first|(go_simp;done)|(go_simp;rfl));intro gb106 hg w18 hbox hb;have n0_:=Aside0.mk (blk_below (g:=gb103) (o:=.cells #[.int .i64 a0_0,.slice (some ad105) l0_1.length c0_1] 30 (0,0)) (by exact BK103.out) hb);have n1_:=Aside0.mk (below_step (by exact HB.out) hb);have n2_:=Aside0.mk (hbox);have n3_:=Aside0.mk ((by rw [hg];exact (below_size (by exact HB.out)):w.heap.size≤gb106));have n4_:=Aside0.mk ((by rw [hg];exact (below_size (by exact HB.out)):w.heap.size≤gb106));have n5_:=Aside0.mk ((by rw [hg];exact Nat.ne_of_lt (blk_lt (g:=gb103) (o:=.cells #[.int .i64 a0_0,.slice (some ad105) l0_1.length c0_1] 30 (0,0)) (by exact BK103.out)):gb103 ≠ gb106));have n6_:=Aside0.mk ((by rw [hg];exact Nat.ne_of_gt (blk_lt (g:=gb103) (o:=.cells #[.int .i64 a0_0,.slice (some ad105) l0_1.length c0_1] 30 (0,0)) (by exact BK103.out)):gb106 ≠ gb103));clear BK103;clear HB;have BK103:=n0_;have HB:=n1_;have BK106:=n2_;have GW106:=n3_;have GE106:=n4_;have NB103_106:=n5_;have NB106_103:=n6_;clear n0_ n1_ n2_ n3_ n4_ n5_ n6_;clear hb hbox hg;have hnb19:=NB106_103.out;have hnc19:=NB103_106.out;have hcz20_0:w18.cell? ⟨gb106,0,none⟩=some (.int .i64 0):=(blk_cell BK106.out 0).trans rfl;have hcz20_1:w18.cell? ⟨gb106,1,none⟩=some (.int .i64 0):=(blk_cell BK106.out 1).trans rfl;have hfz20_0:=blk_frozen BK106.out 0;have hfz20_1:=blk_frozen BK106.out 1;have hcz21_0:w18.cell? ⟨gb103,0,none⟩=some (.int .i64 a0_0):=(blk_cell BK103.out 0).trans rfl;have hcz21_1:w18.cell? ⟨gb103,1,none⟩=some (.slice (some ad105) l0_1.length c0_1):=(blk_cell BK103.out 1).trans rfl;have hfz21_0:=blk_frozen BK103.out 0;have hfz21_1:=blk_frozen BK103.out 1)|((with_reducible refine gate_callee (f:=87) rfl ?_);refine goesL_ (some 27) rfl rfl Try.func87 (by kernel_rfl) rfl #[.int .i64 ((rd_T88 l0_1 x18_2).f0),.int .i64 (-1),.int .i64 (wrap64 (a0_0 - 1))] rfl (by (try simp only [List.map_toArray,List.map_cons,List.map_nil]);first|done|rfl|(simp only [List.length_drop,List.length_take];rfl)) ?_;(with_reducible refine (spec_l1in.calls ((rd_T88 l0_1 x18_2).f0) (-1) (wrap64 (a0_0 - 1)) true _ A13.out).mono ?_);rintro e w' ⟨rfl,⟨nd,rfl⟩⟩;refine ⟨_,rfl,?_⟩)|(go_at_call 87;(with_reducible refine (spec_l1in.calls ((rd_T88 l0_1 x18_2).f1) (-1) (wrap64 (a0_0 - 1)) true _ A15.out).mono ?_);rintro e w' ⟨rfl,⟨nd,rfl⟩⟩))
           go_ret
           exact ⟨by first|rfl|(simp [errW_none,errW_some] <;> rfl)|(simp [*,errW_none,errW_some] <;> rfl),by repeat (first|(with_reducible first|exact HB.out|apply below_alloc|apply pw_below_drewN|apply below_drew1|refine below_set ?_ GE103.out|refine below_set ?_ GE106.out)|exact HB.out)⟩
          rw [if_neg c17] at H
          have c17b0:(((rd_T88 l0_1 x18_2).f0)==((rd_T88 l0_1 x18_2).f1))=false:=beq_eq_false_iff_ne.mpr c17
          have c17b1:(((rd_T88 l0_1 x18_2).f0) != ((rd_T88 l0_1 x18_2).f1))=true:=bne_iff_ne.mpr c17
          have H':=Aside0.mk H
          clear H
          have p105:0≤(x18_2:Int):=of_decide_eq_true (by first|(with_reducible assumption)|assumption)
          have q105:x18_2<(l0_1.length:Int):=of_decide_eq_true (by first|(with_reducible assumption)|assumption)
          obtain ⟨ad105,e105,hx105_0,hx105_1⟩:=at_T88 HR0_1.out x18_2 p105 q105
          cases e105
          replace hx105_0:=(HB.out.cell (World.block_lt_of_cell? w _ hx105_0)).trans hx105_0
          replace hx105_1:=(HB.out.cell (World.block_lt_of_cell? w _ hx105_1)).trans hx105_1
          replace p105:=eq_true p105
          replace q105:=eq_true q105
          go_wp2_with (first|((with_reducible refine gate_dst (N:=4) rfl ?_);refine box_event ?hg (N:=4) ?hd (cs:=#[.int .i64 0,.int .i64 0]) (t:=88) ?hr ?_;(case hd=>rfl);(case hg=>rfl);(case hr=>first|(go_simp;done)|(go_simp;rfl));intro gb106 hg w22 hbox hb;have n0_:=Aside0.mk (blk_below (g:=gb103) (o:=.cells #[.int .i64 a0_0,.slice (some ad105) l0_1.length c0_1] 30 (0,0)) (by exact BK103.out) hb);have n1_:=Aside0.mk (below_step (by exact HB.out) hb);have n2_:=Aside0.mk (hbox);have n3_:=Aside0.mk ((by rw [hg];exact (below_size (by exact HB.out)):w.heap.size≤gb106));have n4_:=Aside0.mk ((by rw [hg];exact (below_size (by exact HB.out)):w.heap.size≤gb106));have n5_:=Aside0.mk ((by rw [hg];exact Nat.ne_of_lt (blk_lt (g:=gb103) (o:=.cells #[.int .i64 a0_0,.slice (some ad105) l0_1.length c0_1] 30 (0,0)) (by exact BK103.out)):gb103 ≠ gb106));have n6_:=Aside0.mk ((by rw [hg];exact Nat.ne_of_gt (blk_lt (g:=gb103) (o:=.cells #[.int .i64 a0_0,.slice (some ad105) l0_1.length c0_1] 30 (0,0)) (by exact BK103.out)):gb106 ≠ gb103));clear BK103;clear HB;have BK103:=n0_;have HB:=n1_;have BK106:=n2_;have GW106:=n3_;have GE106:=n4_;have NB103_106:=n5_;have NB106_103:=n6_;clear n0_ n1_ n2_ n3_ n4_ n5_ n6_;clear hb hbox hg;have hnb23:=NB106_103.out;have hnc23:=NB103_106.out;have hcz24_0:w22.cell? ⟨gb106,0,none⟩=some (.int .i64 0):=(blk_cell BK106.out 0).trans rfl;have hcz24_1:w22.cell? ⟨gb106,1,none⟩=some (.int .i64 0):=(blk_cell BK106.out 1).trans rfl;have hfz24_0:=blk_frozen BK106.out 0;have hfz24_1:=blk_frozen BK106.out 1;have hcz25_0:w22.cell? ⟨gb103,0,none⟩=some (.int .i64 a0_0):=(blk_cell BK103.out 0).trans rfl;have hcz25_1:w22.cell? ⟨gb103,1,none⟩=some (.slice (some ad105) l0_1.length c0_1):=(blk_cell BK103.out 1).trans rfl;have hfz25_0:=blk_frozen BK103.out 0;have hfz25_1:=blk_frozen BK103.out 1)|((with_reducible refine gate_callee (f:=87) rfl ?_);refine goesL_ (some 27) rfl rfl Try.func87 (by kernel_rfl) rfl #[.int .i64 ((rd_T88 l0_1 x18_2).f0),.int .i64 (-1),.int .i64 (wrap64 (a0_0 - 1))] rfl (by (try simp only [List.map_toArray,List.map_cons,List.map_nil]);first|done|rfl|(simp only [List.length_drop,List.length_take];rfl)) ?_;(with_reducible refine (spec_l1in.calls ((rd_T88 l0_1 x18_2).f0) (-1) (wrap64 (a0_0 - 1)) true _ A13.out).mono ?_);rintro e w' ⟨rfl,⟨nd,rfl⟩⟩;refine ⟨_,rfl,?_⟩)|(go_at_call 87;(with_reducible refine (spec_l1in.calls ((rd_T88 l0_1 x18_2).f1) (-1) (wrap64 (a0_0 - 1)) true _ A15.out).mono ?_);rintro e w' ⟨rfl,⟨nd,rfl⟩⟩))
          go_roundg k2
          case measure=>have:=HJ1.out;have:=HK2.out;omega
          case rel=>exact ⟨(wrap64 (x18_2+1)),(by first|rfl|(simp;done)|(simp [*];done)),H',⟨by have:=HJ1.out;have:=HK2.out;omega⟩,⟨by refine blk_far ?_ NB103_106.out _;refine blk_far ?_ NB103_106.out _;exact BK103.out⟩,⟨by repeat (first|(with_reducible first|exact HB.out|apply below_alloc|apply pw_below_drewN|apply below_drew1|refine below_set ?_ GE103.out|refine below_set ?_ GE106.out)|exact HB.out)⟩⟩
         replace c16:=Bool.eq_false_iff.mpr c16
         subst c16
         have H1:(some 2)=some r:=by rw [if_neg (show ¬ (false=true) by decide)] at H;exact H
         clear H
         have H:=H1
         clear H1
         obtain rfl:=Option.some.inj H
         have p105:0≤(x18_2:Int):=of_decide_eq_true (by first|(with_reducible assumption)|assumption)
         have q105:x18_2<(l0_1.length:Int):=of_decide_eq_true (by first|(with_reducible assumption)|assumption)
         obtain ⟨ad105,e105,hx105_0,hx105_1⟩:=at_T88 HR0_1.out x18_2 p105 q105
         cases e105
         replace hx105_0:=(HB.out.cell (World.block_lt_of_cell? w _ hx105_0)).trans hx105_0
         replace hx105_1:=(HB.out.cell (World.block_lt_of_cell? w _ hx105_1)).trans hx105_1
         replace p105:=eq_true p105
         replace q105:=eq_true q105
         go_wp2_with (first|((with_reducible refine gate_dst (N:=4) rfl ?_);refine box_event ?hg (N:=4) ?hd (cs:=#[.int .i64 0,.int .i64 0]) (t:=88) ?hr ?_;(case hd=>rfl);(case hg=>rfl);(case hr=>first|(go_simp;done)|(go_simp;rfl));intro gb106 hg w26 hbox hb;have n0_:=Aside0.mk (blk_below (g:=gb103) (o:=.cells #[.int .i64 a0_0,.slice (some ad105) l0_1.length c0_1] 30 (0,0)) (by exact BK103.out) hb);have n1_:=Aside0.mk (below_step (by exact HB.out) hb);have n2_:=Aside0.mk (hbox);have n3_:=Aside0.mk ((by rw [hg];exact (below_size (by exact HB.out)):w.heap.size≤gb106));have n4_:=Aside0.mk ((by rw [hg];exact (below_size (by exact HB.out)):w.heap.size≤gb106));have n5_:=Aside0.mk ((by rw [hg];exact Nat.ne_of_lt (blk_lt (g:=gb103) (o:=.cells #[.int .i64 a0_0,.slice (some ad105) l0_1.length c0_1] 30 (0,0)) (by exact BK103.out)):gb103 ≠ gb106));have n6_:=Aside0.mk ((by rw [hg];exact Nat.ne_of_gt (blk_lt (g:=gb103) (o:=.cells #[.int .i64 a0_0,.slice (some ad105) l0_1.length c0_1] 30 (0,0)) (by exact BK103.out)):gb106 ≠ gb103));clear BK103;clear HB;have BK103:=n0_;have HB:=n1_;have BK106:=n2_;have GW106:=n3_;have GE106:=n4_;have NB103_106:=n5_;have NB106_103:=n6_;clear n0_ n1_ n2_ n3_ n4_ n5_ n6_;clear hb hbox hg;have hnb27:=NB106_103.out;have hnc27:=NB103_106.out;have hcz28_0:w26.cell? ⟨gb106,0,none⟩=some (.int .i64 0):=(blk_cell BK106.out 0).trans rfl;have hcz28_1:w26.cell? ⟨gb106,1,none⟩=some (.int .i64 0):=(blk_cell BK106.out 1).trans rfl;have hfz28_0:=blk_frozen BK106.out 0;have hfz28_1:=blk_frozen BK106.out 1;have hcz29_0:w26.cell? ⟨gb103,0,none⟩=some (.int .i64 a0_0):=(blk_cell BK103.out 0).trans rfl;have hcz29_1:w26.cell? ⟨gb103,1,none⟩=some (.slice (some ad105) l0_1.length c0_1):=(blk_cell BK103.out 1).trans rfl;have hfz29_0:=blk_frozen BK103.out 0;have hfz29_1:=blk_frozen BK103.out 1)|((with_reducible refine gate_callee (f:=87) rfl ?_);refine goesL_ (some 27) rfl rfl Try.func87 (by kernel_rfl) rfl #[.int .i64 ((rd_T88 l0_1 x18_2).f0),.int .i64 (-1),.int .i64 (wrap64 (a0_0 - 1))] rfl (by (try simp only [List.map_toArray,List.map_cons,List.map_nil]);first|done|rfl|(simp only [List.length_drop,List.length_take];rfl)) ?_;(with_reducible refine (spec_l1in.calls ((rd_T88 l0_1 x18_2).f0) (-1) (wrap64 (a0_0 - 1)) true _ A13.out).mono ?_);rintro e w' ⟨rfl,⟨nd,rfl⟩⟩;refine ⟨_,rfl,?_⟩)|(go_at_call 87;(with_reducible refine (spec_l1in.calls ((rd_T88 l0_1 x18_2).f1) (-1) (wrap64 (a0_0 - 1)) false _ A15.out).mono ?_);rintro e w' ⟨rfl,⟨nd,rfl⟩⟩))
         go_ret
         exact ⟨by first|rfl|(simp [errW_none,errW_some] <;> rfl)|(simp [*,errW_none,errW_some] <;> rfl),by repeat (first|(with_reducible first|exact HB.out|apply below_alloc|apply pw_below_drewN|apply below_drew1|refine below_set ?_ GE103.out|refine below_set ?_ GE106.out)|exact HB.out)⟩
        replace c14:=Bool.eq_false_iff.mpr c14
        subst c14
        have H1:(some 2)=some r:=by rw [if_neg (show ¬ (false=true) by decide)] at H;exact H
        clear H
        have H:=H1
        clear H1
        obtain rfl:=Option.some.inj H
        have p105:0≤(x18_2:Int):=of_decide_eq_true (by first|(with_reducible assumption)|assumption)
        have q105:x18_2<(l0_1.length:Int):=of_decide_eq_true (by first|(with_reducible assumption)|assumption)
        obtain ⟨ad105,e105,hx105_0,hx105_1⟩:=at_T88 HR0_1.out x18_2 p105 q105
        cases e105
        replace hx105_0:=(HB.out.cell (World.block_lt_of_cell? w _ hx105_0)).trans hx105_0
        replace hx105_1:=(HB.out.cell (World.block_lt_of_cell? w _ hx105_1)).trans hx105_1
        replace p105:=eq_true p105
        replace q105:=eq_true q105
        go_wp2_with (first|((with_reducible refine gate_dst (N:=4) rfl ?_);refine box_event ?hg (N:=4) ?hd (cs:=#[.int .i64 0,.int .i64 0]) (t:=88) ?hr ?_;(case hd=>rfl);(case hg=>rfl);(case hr=>first|(go_simp;done)|(go_simp;rfl));intro gb106 hg w30 hbox hb;have n0_:=Aside0.mk (blk_below (g:=gb103) (o:=.cells #[.int .i64 a0_0,.slice (some ad105) l0_1.length c0_1] 30 (0,0)) (by exact BK103.out) hb);have n1_:=Aside0.mk (below_step (by exact HB.out) hb);have n2_:=Aside0.mk (hbox);have n3_:=Aside0.mk ((by rw [hg];exact (below_size (by exact HB.out)):w.heap.size≤gb106));have n4_:=Aside0.mk ((by rw [hg];exact (below_size (by exact HB.out)):w.heap.size≤gb106));have n5_:=Aside0.mk ((by rw [hg];exact Nat.ne_of_lt (blk_lt (g:=gb103) (o:=.cells #[.int .i64 a0_0,.slice (some ad105) l0_1.length c0_1] 30 (0,0)) (by exact BK103.out)):gb103 ≠ gb106));have n6_:=Aside0.mk ((by rw [hg];exact Nat.ne_of_gt (blk_lt (g:=gb103) (o:=.cells #[.int .i64 a0_0,.slice (some ad105) l0_1.length c0_1] 30 (0,0)) (by exact BK103.out)):gb106 ≠ gb103));clear BK103;clear HB;have BK103:=n0_;have HB:=n1_;have BK106:=n2_;have GW106:=n3_;have GE106:=n4_;have NB103_106:=n5_;have NB106_103:=n6_;clear n0_ n1_ n2_ n3_ n4_ n5_ n6_;clear hb hbox hg;have hnb31:=NB106_103.out;have hnc31:=NB103_106.out;have hcz32_0:w30.cell? ⟨gb106,0,none⟩=some (.int .i64 0):=(blk_cell BK106.out 0).trans rfl;have hcz32_1:w30.cell? ⟨gb106,1,none⟩=some (.int .i64 0):=(blk_cell BK106.out 1).trans rfl;have hfz32_0:=blk_frozen BK106.out 0;have hfz32_1:=blk_frozen BK106.out 1;have hcz33_0:w30.cell? ⟨gb103,0,none⟩=some (.int .i64 a0_0):=(blk_cell BK103.out 0).trans rfl;have hcz33_1:w30.cell? ⟨gb103,1,none⟩=some (.slice (some ad105) l0_1.length c0_1):=(blk_cell BK103.out 1).trans rfl;have hfz33_0:=blk_frozen BK103.out 0;have hfz33_1:=blk_frozen BK103.out 1)|((with_reducible refine gate_callee (f:=87) rfl ?_);refine goesL_ (some 27) rfl rfl Try.func87 (by kernel_rfl) rfl #[.int .i64 ((rd_T88 l0_1 x18_2).f0),.int .i64 (-1),.int .i64 (wrap64 (a0_0 - 1))] rfl (by (try simp only [List.map_toArray,List.map_cons,List.map_nil]);first|done|rfl|(simp only [List.length_drop,List.length_take];rfl)) ?_;(with_reducible refine (spec_l1in.calls ((rd_T88 l0_1 x18_2).f0) (-1) (wrap64 (a0_0 - 1)) false _ A13.out).mono ?_);rintro e w' ⟨rfl,⟨nd,rfl⟩⟩;refine ⟨_,rfl,?_⟩))
        go_ret
        exact ⟨by first|rfl|(simp [errW_none,errW_some] <;> rfl)|(simp [*,errW_none,errW_some] <;> rfl),by repeat (first|(with_reducible first|exact HB.out|apply below_alloc|apply pw_below_drewN|apply below_drew1|refine below_set ?_ GE103.out|refine below_set ?_ GE106.out)|exact HB.out)⟩
       rw [if_neg c12] at H
       exact absurd H (by simp)
      rw [if_neg c11] at H
      exact absurd H (by simp)
     rw [if_neg c10] at H
     have c10b0:decide (x18_2<(l0_1.length:Int))=false:=decide_eq_false c10
     clear c10
     obtain rfl:=Option.some.inj H
     go_wp2
     go_ret
     exact ⟨by first|rfl|(simp [errW_none,errW_some] <;> rfl)|(simp [*,errW_none,errW_some] <;> rfl),by exact HB.out⟩
end Go.Proofs.Ytpdnabhpkdchjaa.P
namespace Go.Proofs.Ytpdnabhpkdchjaa.P
open Go.RowKit Go.Proofs.YtpdnabhpkdchjaaW.PrintWords Go.Proofs.YtpdnabhpkdchjaaW.PrintLast
set_option linter.unusedVariables false
set_option linter.unusedSimpArgs false
theorem wrap_id {x : Int} (h0 : -9223372036854775808 ≤ x) (h1 : x ≤ 9223372036854775807) : wrap64 x = x := by unfold wrap64; omega
theorem wrap_succ {i : Nat} (h : i < 9223372036854775807) : wrap64 ((i : Int) + 1) = ((i + 1 : Nat) : Int) := by rw [wrap_id (by omega) (by omega)]; omega
theorem Ev.step1 {α : Type} {g : Nat → Option α} {r : α} (h : ∀ k, g (k + 1) = some r) : Ev g r := Ev.step (f := fun _ => some r) h (Ev.now _)
theorem Ev.call {α β : Type} {x : Option α} {a : α} {f : Nat → α → Option β} {r : β} (h : x = some a) (k : Ev (fun n => f n a) r) : Ev (fun n => x.bind (f n)) r := by
  subst h
  exact k
theorem Ev.ite_pos {β : Type} {c : Prop} [Decidable c] {f g : Nat → Option β} {r : β} (h : c) (k : Ev f r) : Ev (fun n => if c then f n else g n) r := by
  simp only [if_pos h]; exact k
theorem Ev.ite_neg {β : Type} {c : Prop} [Decidable c] {f g : Nat → Option β} {r : β} (h : ¬ c) (k : Ev g r) : Ev (fun n => if c then f n else g n) r := by
  simp only [if_neg h]; exact k
theorem rd88 (l : List S88) (i : Nat) (h : i < l.length) : rd_T88 l (i : Int) = l[i] := by simp [rd_T88, h]
theorem l1in_eq (x a b : Int) : spec_l1in.f x a b = some (decide (a ≤ x) && decide (x ≤ b)) := by
  unfold spec_l1in.f
  by_cases h : x ≥ a
  · rw [if_pos h]; simp [h]
  · rw [if_neg h]; simp [show ¬ a ≤ x from h]
theorem layoutOk_l0 (n : Int) (l : List S88) (hn : ¬ (n < 1) ∧ ¬ (60 < n) ∧ ¬ (120 < l.length)) (d : Nat) : ∀ (i : Nat), i + d = l.length → (l.take i).all (ctrOk n) = true → Ev (fun k => spec_LayoutOk.l0 k l (l.length : Int) i n l) (layoutOk n l) := by
  obtain ⟨h1, h2, h3⟩ := hn
  induction d with
  | zero =>
    intro i hi ht
    refine Ev.step (f := fun _ => some (layoutOk n l)) (fun k => ?_) (Ev.now _)
    simp only [spec_LayoutOk.l0]
    rw [if_neg (by omega), layoutOk_good ⟨h1, h2, h3⟩ (i := i) (by omega) ht]
  | succ d ih =>
    intro i hi ht
    have hlt : i < l.length := by omega
    have hw : wrap64 (n - 1) = n - 1 := wrap_id (by omega) (by omega)
    by_cases hc : ctrOk n (rd_T88 l i) = true
    · refine Ev.step (fun k => ?_) (ih (i + 1) (by omega) (take_all hlt ht hc))
      simp only [spec_LayoutOk.l0, l1in_eq, Option.bind_some]
      simp only [ctrOk, inB, Bool.and_eq_true, decide_eq_true_eq, Bool.not_eq_true', beq_eq_false_iff_ne] at hc
      rw [if_pos (by omega), if_pos (by omega), if_pos (by omega), hw, if_pos (by simp; omega), if_pos (by simp; omega), if_neg hc.2, wrap_succ (by omega)]
    · have hb : ctrOk n (rd_T88 l i) = false := by simpa using hc
      rw [layoutOk_bad ⟨h1, h2, h3⟩ hlt hb]
      refine Ev.step (f := fun _ => some 2) (fun k => ?_) (Ev.now _)
      simp only [spec_LayoutOk.l0, l1in_eq, Option.bind_some]
      rw [if_pos (by omega), if_pos (by omega), if_pos (by omega), hw]
      by_cases c1 : (decide (-1 ≤ (rd_T88 l i).f0) && decide ((rd_T88 l i).f0 ≤ n - 1)) = true
      · rw [if_pos c1]
        by_cases c2 : (decide (-1 ≤ (rd_T88 l i).f1) && decide ((rd_T88 l i).f1 ≤ n - 1)) = true
        · rw [if_pos c2]
          by_cases c3 : (rd_T88 l i).f0 = (rd_T88 l i).f1
          · rw [if_pos c3]
          · exfalso
            apply hc
            simp only [Bool.and_eq_true, decide_eq_true_eq] at c1 c2
            simp only [ctrOk, inB, Bool.and_eq_true, decide_eq_true_eq, Bool.not_eq_true', beq_eq_false_iff_ne]
            exact ⟨⟨⟨by omega, by omega⟩, by omega, by omega⟩, c3⟩
        · rw [if_neg c2]
      · rw [if_neg c1]
theorem specLayoutOk_ev (n : Int) (l : List S88) : Ev (fun k => spec_LayoutOk.f k n l) (layoutOk n l) := by
  unfold spec_LayoutOk.f
  refine Ev.call (l1in_eq _ _ _) ?_
  by_cases h1 : n < 1
  · refine Ev.ite_neg (by simp; omega) (Ev.step (f := fun _ => some (layoutOk n l)) (fun k => ?_) (Ev.now _))
    simp only [spec_LayoutOk.j0, if_true]
    rw [layoutOk, if_pos h1]
  · by_cases h2 : 60 < n
    · refine Ev.ite_neg (by simp; omega) (Ev.step (f := fun _ => some (layoutOk n l)) (fun k => ?_) (Ev.now _))
      simp only [spec_LayoutOk.j0, if_true]
      rw [layoutOk, if_neg h1, if_pos h2]
    · refine Ev.ite_pos (by simp; omega) ?_
      by_cases h3 : 120 < l.length
      · refine Ev.step (f := fun _ => some (layoutOk n l)) (fun k => ?_) (Ev.now _)
        simp only [spec_LayoutOk.j0]
        rw [if_pos (by simp; omega), layoutOk, if_neg h1, if_neg h2, if_pos h3]
      · refine Ev.step (fun k => ?_) (layoutOk_l0 n l ⟨h1, h2, h3⟩ l.length 0 (by omega) (by simp))
        simp only [spec_LayoutOk.j0]
        rw [if_neg (by simp; omega)]
        rfl
end Go.Proofs.Ytpdnabhpkdchjaa.P
namespace Go.Proofs.Ytpdnabhpkdchjaa.P
open Go.RowKit Go.Proofs.YtpdnabhpkdchjaaW.PrintWords Go.Proofs.YtpdnabhpkdchjaaW.PrintLast Go.Proofs.YtpdnabhpkdchjaaW.PrintMore
attribute [local go_sem] max2_int min2_int max_two min_two max_three min_three max_four min_four
set_option linter.unusedVariables false
set_option linter.unusedSimpArgs false
mutual
def spec_EventOk.j0:Nat→Int→Bool→Int→List (S88)→Int→Int→Int→Option (Bool)
 | 0,_,_,_,_,_,_,_=>none
 | k+1,x9,x10,x218000,x218001,x219000,x219001,x219002=>if x10=true then ((spec_l1in.f x219001 0 (wrap64 ((x218001.length:Int) - 1))).bind fun t220=>(if t220=true then (if x219002=1 then (some true) else (some (x219002==(-1)))) else (some false))) else (if x9=3 then (spec_EventOk.j1 k x9 (x9==3) x218000 x218001 x219000 x219001 x219002) else (spec_EventOk.j1 k x9 (x9==4) x218000 x218001 x219000 x219001 x219002))
def spec_EventOk.j1:Nat→Int→Bool→Int→List (S88)→Int→Int→Int→Option (Bool)
 | 0,_,_,_,_,_,_,_=>none
 | k+1,x9,x30,x218000,x218001,x219000,x219001,x219002=>if x30=true then ((spec_l1in.f x219001 0 (wrap64 ((x218001.length:Int) - 1))).bind fun t221=>(if t221=true then (some (x219002==0)) else (some false))) else (if x9=5 then ((spec_l1in.f x219001 0 (wrap64 (x218000 - 1))).bind fun t222=>(if t222=true then (some (x219002==0)) else (some false))) else (some false))
end
def spec_EventOk.f (k:Nat) (a0_0:Int) (l0_1:List (S88)) (a1_0:Int) (a1_1:Int) (a1_2:Int):Option (Bool):=(spec_LayoutOk.f k a0_0 l0_1).bind fun t219=>(if t219=0 then (if a1_0=1 then (spec_EventOk.j0 k a1_0 (a1_0==1) a0_0 l0_1 a1_0 a1_1 a1_2) else (spec_EventOk.j0 k a1_0 (a1_0==2) a0_0 l0_1 a1_0 a1_1 a1_2)) else (some false))
set_option maxHeartbeats 8000000 in
set_option maxRecDepth 100000 in
theorem spec_EventOk.calls (k:Nat) (a0_0:Int) (A0_1:Option Addr) (c0_1:Nat) (l0_1:List (S88)) (a1_0:Int) (a1_1:Int) (a1_2:Int) (r:Bool) (w:World) (hr0_1:Kd.C k88 w A0_1 l0_1.length l0_1) (hc0_1:l0_1.length≤c0_1) (h:spec_EventOk.f k a0_0 l0_1 a1_0 a1_1 a1_2=some r) :
  Calls Try.prog 34 #[.agg #[.int .i64 a0_0,.slice A0_1 l0_1.length c0_1],.agg #[.int .i64 a1_0,.int .i64 a1_1,.int .i64 a1_2]] w fun e w'=>e=.returned (.bool r)∧Below w.heap.size w w':=by
 have hu30:=Try.underlying30
 have hu56:=Try.underlying56
 have HR0_1:=Aside0.mk hr0_1
 have HC0_1:=Aside0.mk hc0_1
 clear hr0_1 hc0_1
 have HB:=Aside0.mk (Below.refl w.heap.size w)
 have H:((spec_LayoutOk.f k a0_0 l0_1).bind fun t219=>(if t219=0 then (if a1_0=1 then (spec_EventOk.j0 k a1_0 (a1_0==1) a0_0 l0_1 a1_0 a1_1 a1_2) else (spec_EventOk.j0 k a1_0 (a1_0==2) a0_0 l0_1 a1_0 a1_1 a1_2)) else (some false)))=some r:=h
 clear h
 replace H:=Option.bind_eq_some_iff.mp H
 obtain ⟨t219,A30,H⟩:=H
 replace H:(if t219=0 then (if a1_0=1 then (spec_EventOk.j0 k a1_0 (a1_0==1) a0_0 l0_1 a1_0 a1_1 a1_2) else (spec_EventOk.j0 k a1_0 (a1_0==2) a0_0 l0_1 a1_0 a1_1 a1_2)) else (some false))=some r:=H
 have A3:=Aside0.mk A30
 clear A30
 by_cases c4:t219=0
 ·rw [if_pos c4] at H
  have c4b0:(t219==0)=true:=beq_iff_eq.mpr c4
  have c4b1:(t219 != 0)=false:=bne_eq_false_iff_eq.mpr c4
  clear c4
  have HC5:=Aside0.mk H
  clear H
  go_enter Try.func34,Try.ntmps34
  go_upto_if 10 with (first|((with_reducible refine gate_dst (N:=2) rfl ?_);refine box_event ?hg (N:=2) ?hd (cs:=#[.int .i64 a0_0,.slice A0_1 l0_1.length c0_1]) (t:=30) ?hr ?_;(case hd=>rfl);(case hg=>rfl);(case hr=>first|(go_simp;done)|(go_simp;rfl));intro gb217 hg w6 hbox hb;have n0_:=Aside0.mk (below_step (by exact HB.out) hb);have n1_:=Aside0.mk (hbox);have n2_:=Aside0.mk ((by rw [hg];exact (below_size (by exact HB.out)):w.heap.size≤gb217));have n3_:=Aside0.mk ((by rw [hg];exact (below_size (by exact HB.out)):w.heap.size≤gb217));clear HB;have HB:=n0_;have BK217:=n1_;have GW217:=n2_;have GE217:=n3_;clear n0_ n1_ n2_ n3_;clear hb hbox hg)|((with_reducible refine gate_dst (N:=3) rfl ?_);refine box_event ?hg (N:=3) ?hd (cs:=#[.int .i64 a1_0,.int .i64 a1_1,.int .i64 a1_2]) (t:=56) ?hr ?_;(case hd=>rfl);(case hg=>rfl);(case hr=>first|(go_simp;done)|(go_simp;rfl));intro gb218 hg w7 hbox hb;have n0_:=Aside0.mk (blk_below (g:=gb217) (o:=.cells #[.int .i64 a0_0,.slice A0_1 l0_1.length c0_1] 30 (0,0)) (by exact BK217.out) hb);have n1_:=Aside0.mk (below_step (by exact HB.out) hb);have n2_:=Aside0.mk (hbox);have n3_:=Aside0.mk ((by rw [hg];exact (below_size (by exact HB.out)):w.heap.size≤gb218));have n4_:=Aside0.mk ((by rw [hg];exact (below_size (by exact HB.out)):w.heap.size≤gb218));have n5_:=Aside0.mk ((by rw [hg];exact Nat.ne_of_lt (blk_lt (g:=gb217) (o:=.cells #[.int .i64 a0_0,.slice A0_1 l0_1.length c0_1] 30 (0,0)) (by exact BK217.out)):gb217 ≠ gb218));have n6_:=Aside0.mk ((by rw [hg];exact Nat.ne_of_gt (blk_lt (g:=gb217) (o:=.cells #[.int .i64 a0_0,.slice A0_1 l0_1.length c0_1] 30 (0,0)) (by exact BK217.out)):gb218 ≠ gb217));clear BK217;clear HB;have BK217:=n0_;have HB:=n1_;have BK218:=n2_;have GW218:=n3_;have GE218:=n4_;have NB217_218:=n5_;have NB218_217:=n6_;clear n0_ n1_ n2_ n3_ n4_ n5_ n6_;clear hb hbox hg;have hnb8:=NB217_218.out;have hnc8:=NB218_217.out;have hcz9_0:w7.cell? ⟨gb217,0,none⟩=some (.int .i64 a0_0):=(blk_cell BK217.out 0).trans rfl;have hcz9_1:w7.cell? ⟨gb217,1,none⟩=some (.slice A0_1 l0_1.length c0_1):=(blk_cell BK217.out 1).trans rfl;have hfz9_0:=blk_frozen BK217.out 0;have hfz9_1:=blk_frozen BK217.out 1)|((with_reducible refine gate_callee (f:=23) rfl ?_);refine goesL_ (some 6) rfl rfl Try.func23 (by kernel_rfl) rfl #[.agg #[.int .i64 a0_0,.slice A0_1 l0_1.length c0_1]] rfl (by (try simp only [List.map_toArray,List.map_cons,List.map_nil]);first|done|rfl|(simp only [List.length_drop,List.length_take];rfl)) ?_;(with_reducible refine (spec_LayoutOk.calls k a0_0 _ _ l0_1 t219 _ ?side1 ?side2 A3.out).mono ?_);(case side1=>repeat (first|exact (Kd.C_below HR0_1.out HB.out)|(with_reducible refine Kd.C_alloc ?_ _)|(with_reducible refine Kd.C_drewN ?_ _)|(with_reducible refine Kd.C_drew ?_)));(case side2=>exact HC0_1.out);rintro e w10 ⟨rfl,hb⟩;refine ⟨_,rfl,?_⟩;have n0_:=Aside0.mk (blk_below (g:=gb217) (o:=.cells #[.int .i64 a0_0,.slice A0_1 l0_1.length c0_1] 30 (0,0)) (by exact BK217.out) hb);have n1_:=Aside0.mk (blk_below (g:=gb218) (o:=.cells #[.int .i64 a1_0,.int .i64 a1_1,.int .i64 a1_2] 56 (0,0)) (by exact BK218.out) hb);have n2_:=Aside0.mk (below_step (by exact HB.out) hb);clear BK217;clear BK218;clear HB;have BK217:=n0_;have BK218:=n1_;have HB:=n2_;clear n0_ n1_ n2_;(try clear hb);(try clear hb2);(try clear hk);(try clear hi);have hcz11_0:w10.cell? ⟨gb218,0,none⟩=some (.int .i64 a1_0):=(blk_cell BK218.out 0).trans rfl;have hcz11_1:w10.cell? ⟨gb218,1,none⟩=some (.int .i64 a1_1):=(blk_cell BK218.out 1).trans rfl;have hcz11_2:w10.cell? ⟨gb218,2,none⟩=some (.int .i64 a1_2):=(blk_cell BK218.out 2).trans rfl;have hfz11_0:=blk_frozen BK218.out 0;have hfz11_1:=blk_frozen BK218.out 1;have hfz11_2:=blk_frozen BK218.out 2))
  (try simp only [Act.put,List.setIfInBounds_toArray,List.set_cons_zero,List.set_cons_succ])
  go_cut [10] (fun v10 wc=>∃ (kq:Nat) (x10_4:Bool),v10=.bool x10_4∧Aside0 (spec_EventOk.j0 kq a1_0 x10_4 a0_0 l0_1 a1_0 a1_1 a1_2=some r)∧Aside0 (kq≤k)∧Aside0 (wc.heap[gb217]?=some (.cells #[.int .i64 a0_0,(.slice A0_1 l0_1.length c0_1)] 30 (0,0)))∧Aside0 (wc.heap[gb218]?=some (.cells #[.int .i64 a1_0,.int .i64 a1_1,.int .i64 a1_2] 56 (0,0)))∧Aside0 (Below w.heap.size w wc))
  case first =>
   have H:=HC5.out
   clear HC5
   by_cases c12:a1_0=1
   ·rw [if_pos c12] at H
    have c12b0:(a1_0==1)=true:=beq_iff_eq.mpr c12
    have c12b1:(a1_0 != 1)=false:=bne_eq_false_iff_eq.mpr c12
    clear c12
    (first|rw [c12b0]|(simp only [i64_w,i32_w];rw [c12b0])|skip)
    have H':=Aside0.mk H
    clear H
    go_wp2
    go_meet
    case rel=>exact ⟨_,((a1_0==1)),(by first|rfl|(simp;done)|(simp [*];done)),H',⟨by first|omega|exact Nat.le_refl _⟩,⟨by exact BK217.out⟩,⟨by exact BK218.out⟩,⟨by exact HB.out⟩⟩
   rw [if_neg c12] at H
   have c12b0:(a1_0==1)=false:=beq_eq_false_iff_ne.mpr c12
   have c12b1:(a1_0 != 1)=true:=bne_iff_ne.mpr c12
   (first|rw [c12b0]|(simp only [i64_w,i32_w];rw [c12b0])|skip)
   have H':=Aside0.mk H
   clear H
   go_wp2
   go_meet
   case rel=>exact ⟨_,((a1_0==2)),(by first|rfl|(simp;done)|(simp [*];done)),H',⟨by first|omega|exact Nat.le_refl _⟩,⟨by exact BK217.out⟩,⟨by exact BK218.out⟩,⟨by exact HB.out⟩⟩
  case rest =>
   clear HC5
   try clear c1
   try clear c2
   try clear p2
   try clear c3
   try clear c4
   try clear c4b0
   try clear c4b1
   try clear c8
   try clear c12
   try clear c12b0
   try clear c12b1
   try clear hcz11_0
   try clear hcz11_1
   try clear hcz11_2
   try clear hcz9_0
   try clear hcz9_1
   try clear hfz11_0
   try clear hfz11_1
   try clear hfz11_2
   try clear hfz9_0
   try clear hfz9_1
   obtain ⟨kq,x10_4,rfl,HA,HJ4,BK217,BK218,HB⟩:=hcut
   cases kq with
   | zero=>exact absurd HA.out (by simp [spec_EventOk.j0])
   | succ kj4 =>
    have H:=HA.out
    clear HA
    simp only [spec_EventOk.j0] at H
    by_cases c13:x10_4=true
    ·subst c13
     have H1:((spec_l1in.f a1_1 0 (wrap64 ((l0_1.length:Int) - 1))).bind fun t220=>(if t220=true then (if a1_2=1 then (some true) else (some (a1_2==(-1)))) else (some false)))=some r:=by rw [if_pos rfl] at H;exact H
     clear H
     have H:=H1
     clear H1
     replace H:=Option.bind_eq_some_iff.mp H
     obtain ⟨t220,A140,H⟩:=H
     replace H:(if t220=true then (if a1_2=1 then (some true) else (some (a1_2==(-1)))) else (some false))=some r:=H
     have A14:=Aside0.mk A140
     clear A140
     by_cases c15:t220=true
     ·subst c15
      have H1:(if a1_2=1 then (some true) else (some (a1_2==(-1))))=some r:=by rw [if_pos rfl] at H;exact H
      clear H
      have H:=H1
      clear H1
      by_cases c16:a1_2=1
      ·rw [if_pos c16] at H
       have c16b0:(a1_2==1)=true:=beq_iff_eq.mpr c16
       have c16b1:(a1_2 != 1)=false:=bne_eq_false_iff_eq.mpr c16
       clear c16
       obtain rfl:=Option.some.inj H
       have hnb17:=NB218_217.out
       have hnc17:=NB217_218.out
       have hcz18_0:wc.cell? ⟨gb218,0,none⟩=some (.int .i64 a1_0):=(blk_cell BK218.out 0).trans rfl
       have hcz18_1:wc.cell? ⟨gb218,1,none⟩=some (.int .i64 a1_1):=(blk_cell BK218.out 1).trans rfl
       have hcz18_2:wc.cell? ⟨gb218,2,none⟩=some (.int .i64 a1_2):=(blk_cell BK218.out 2).trans rfl
       have hfz18_0:=blk_frozen BK218.out 0
       have hfz18_1:=blk_frozen BK218.out 1
       have hfz18_2:=blk_frozen BK218.out 2
       have hcz19_0:wc.cell? ⟨gb217,0,none⟩=some (.int .i64 a0_0):=(blk_cell BK217.out 0).trans rfl
       have hcz19_1:wc.cell? ⟨gb217,1,none⟩=some (.slice A0_1 l0_1.length c0_1):=(blk_cell BK217.out 1).trans rfl
       have hfz19_0:=blk_frozen BK217.out 0
       have hfz19_1:=blk_frozen BK217.out 1
       go_wp2_with (first|((with_reducible refine gate_callee (f:=87) rfl ?_);refine goesL_ (some 19) rfl rfl Try.func87 (by kernel_rfl) rfl #[.int .i64 a1_1,.int .i64 0,.int .i64 (wrap64 ((l0_1.length:Int) - 1))] rfl (by (try simp only [List.map_toArray,List.map_cons,List.map_nil]);first|done|rfl|(simp only [List.length_drop,List.length_take];rfl)) ?_;(with_reducible refine (spec_l1in.calls a1_1 0 (wrap64 ((l0_1.length:Int) - 1)) true _ A14.out).mono ?_);rintro e w' ⟨rfl,⟨nd,rfl⟩⟩;refine ⟨_,rfl,?_⟩))
       go_ret
       exact ⟨by first|rfl|(simp [errW_none,errW_some] <;> rfl)|(simp [*,errW_none,errW_some] <;> rfl),by repeat (first|(with_reducible first|exact HB.out|apply below_alloc|apply pw_below_drewN|apply below_drew1|refine below_set ?_ GE217.out|refine below_set ?_ GE218.out)|exact HB.out)⟩
      rw [if_neg c16] at H
      have c16b0:(a1_2==1)=false:=beq_eq_false_iff_ne.mpr c16
      have c16b1:(a1_2 != 1)=true:=bne_iff_ne.mpr c16
      obtain rfl:=Option.some.inj H
      have hnb20:=NB218_217.out
      have hnc20:=NB217_218.out
      have hcz21_0:wc.cell? ⟨gb218,0,none⟩=some (.int .i64 a1_0):=(blk_cell BK218.out 0).trans rfl
      have hcz21_1:wc.cell? ⟨gb218,1,none⟩=some (.int .i64 a1_1):=(blk_cell BK218.out 1).trans rfl
      have hcz21_2:wc.cell? ⟨gb218,2,none⟩=some (.int .i64 a1_2):=(blk_cell BK218.out 2).trans rfl
      have hfz21_0:=blk_frozen BK218.out 0
      have hfz21_1:=blk_frozen BK218.out 1
      have hfz21_2:=blk_frozen BK218.out 2
      have hcz22_0:wc.cell? ⟨gb217,0,none⟩=some (.int .i64 a0_0):=(blk_cell BK217.out 0).trans rfl
      have hcz22_1:wc.cell? ⟨gb217,1,none⟩=some (.slice A0_1 l0_1.length c0_1):=(blk_cell BK217.out 1).trans rfl
      have hfz22_0:=blk_frozen BK217.out 0
      have hfz22_1:=blk_frozen BK217.out 1
      go_wp2_with (first|((with_reducible refine gate_callee (f:=87) rfl ?_);refine goesL_ (some 19) rfl rfl Try.func87 (by kernel_rfl) rfl #[.int .i64 a1_1,.int .i64 0,.int .i64 (wrap64 ((l0_1.length:Int) - 1))] rfl (by (try simp only [List.map_toArray,List.map_cons,List.map_nil]);first|done|rfl|(simp only [List.length_drop,List.length_take];rfl)) ?_;(with_reducible refine (spec_l1in.calls a1_1 0 (wrap64 ((l0_1.length:Int) - 1)) true _ A14.out).mono ?_);rintro e w' ⟨rfl,⟨nd,rfl⟩⟩;refine ⟨_,rfl,?_⟩))
      go_ret
      exact ⟨by first|rfl|(simp [errW_none,errW_some] <;> rfl)|(simp [*,errW_none,errW_some] <;> rfl),by repeat (first|(with_reducible first|exact HB.out|apply below_alloc|apply pw_below_drewN|apply below_drew1|refine below_set ?_ GE217.out|refine below_set ?_ GE218.out)|exact HB.out)⟩
     replace c15:=Bool.eq_false_iff.mpr c15
     subst c15
     have H1:(some false)=some r:=by rw [if_neg (show ¬ (false=true) by decide)] at H;exact H
     clear H
     have H:=H1
     clear H1
     obtain rfl:=Option.some.inj H
     have hnb23:=NB218_217.out
     have hnc23:=NB217_218.out
     have hcz24_0:wc.cell? ⟨gb218,0,none⟩=some (.int .i64 a1_0):=(blk_cell BK218.out 0).trans rfl
     have hcz24_1:wc.cell? ⟨gb218,1,none⟩=some (.int .i64 a1_1):=(blk_cell BK218.out 1).trans rfl
     have hcz24_2:wc.cell? ⟨gb218,2,none⟩=some (.int .i64 a1_2):=(blk_cell BK218.out 2).trans rfl
     have hfz24_0:=blk_frozen BK218.out 0
     have hfz24_1:=blk_frozen BK218.out 1
     have hfz24_2:=blk_frozen BK218.out 2
     have hcz25_0:wc.cell? ⟨gb217,0,none⟩=some (.int .i64 a0_0):=(blk_cell BK217.out 0).trans rfl
     have hcz25_1:wc.cell? ⟨gb217,1,none⟩=some (.slice A0_1 l0_1.length c0_1):=(blk_cell BK217.out 1).trans rfl
     have hfz25_0:=blk_frozen BK217.out 0
     have hfz25_1:=blk_frozen BK217.out 1
     go_wp2_with (first|((with_reducible refine gate_callee (f:=87) rfl ?_);refine goesL_ (some 19) rfl rfl Try.func87 (by kernel_rfl) rfl #[.int .i64 a1_1,.int .i64 0,.int .i64 (wrap64 ((l0_1.length:Int) - 1))] rfl (by (try simp only [List.map_toArray,List.map_cons,List.map_nil]);first|done|rfl|(simp only [List.length_drop,List.length_take];rfl)) ?_;(with_reducible refine (spec_l1in.calls a1_1 0 (wrap64 ((l0_1.length:Int) - 1)) false _ A14.out).mono ?_);rintro e w' ⟨rfl,⟨nd,rfl⟩⟩;refine ⟨_,rfl,?_⟩))
     go_ret
     exact ⟨by first|rfl|(simp [errW_none,errW_some] <;> rfl)|(simp [*,errW_none,errW_some] <;> rfl),by repeat (first|(with_reducible first|exact HB.out|apply below_alloc|apply pw_below_drewN|apply below_drew1|refine below_set ?_ GE217.out|refine below_set ?_ GE218.out)|exact HB.out)⟩
    replace c13:=Bool.eq_false_iff.mpr c13
    subst c13
    have H1:(if a1_0=3 then (spec_EventOk.j1 kj4 a1_0 (a1_0==3) a0_0 l0_1 a1_0 a1_1 a1_2) else (spec_EventOk.j1 kj4 a1_0 (a1_0==4) a0_0 l0_1 a1_0 a1_1 a1_2))=some r:=by rw [if_neg (show ¬ (false=true) by decide)] at H;exact H
    clear H
    have H:=H1
    clear H1
    have HC26:=Aside0.mk H
    clear H
    go_upto_if 30 with (fail)
    go_cut [30] (fun v30 wc=>∃ (kq:Nat) (x30_25:Bool),v30=.bool x30_25∧Aside0 (spec_EventOk.j1 kq a1_0 x30_25 a0_0 l0_1 a1_0 a1_1 a1_2=some r)∧Aside0 (kq≤kj4)∧Aside0 (wc.heap[gb217]?=some (.cells #[.int .i64 a0_0,(.slice A0_1 l0_1.length c0_1)] 30 (0,0)))∧Aside0 (wc.heap[gb218]?=some (.cells #[.int .i64 a1_0,.int .i64 a1_1,.int .i64 a1_2] 56 (0,0)))∧Aside0 (Below w.heap.size w wc))
    case first =>
     have H:=HC26.out
     clear HC26
     by_cases c27:a1_0=3
     ·rw [if_pos c27] at H
      have c27b0:(a1_0==3)=true:=beq_iff_eq.mpr c27
      have c27b1:(a1_0 != 3)=false:=bne_eq_false_iff_eq.mpr c27
      clear c27
      (first|rw [c27b0]|(simp only [i64_w,i32_w];rw [c27b0])|skip)
      have H':=Aside0.mk H
      clear H
      go_wp2
      go_meet
      case rel=>exact ⟨_,((a1_0==3)),(by first|rfl|(simp;done)|(simp [*];done)),H',⟨by have:=HJ4.out;first|omega|exact Nat.le_refl _⟩,⟨by exact BK217.out⟩,⟨by exact BK218.out⟩,⟨by exact HB.out⟩⟩
     rw [if_neg c27] at H
     have c27b0:(a1_0==3)=false:=beq_eq_false_iff_ne.mpr c27
     have c27b1:(a1_0 != 3)=true:=bne_iff_ne.mpr c27
     (first|rw [c27b0]|(simp only [i64_w,i32_w];rw [c27b0])|skip)
     have H':=Aside0.mk H
     clear H
     go_wp2
     go_meet
     case rel=>exact ⟨_,((a1_0==4)),(by first|rfl|(simp;done)|(simp [*];done)),H',⟨by have:=HJ4.out;first|omega|exact Nat.le_refl _⟩,⟨by exact BK217.out⟩,⟨by exact BK218.out⟩,⟨by exact HB.out⟩⟩
    case rest =>
     clear HC26
     try clear c1
     try clear c2
     try clear p2
     try clear c3
     try clear c4
     try clear c4b0
     try clear c4b1
     try clear p6
     try clear c8
     try clear c12
     try clear c12b0
     try clear c12b1
     try clear c13
     try clear c15
     try clear c16
     try clear c16b0
     try clear c16b1
     try clear c17
     try clear c20
     try clear c23
     try clear c27
     try clear c27b0
     try clear c27b1
     try clear hcz11_0
     try clear hcz11_1
     try clear hcz11_2
     try clear hcz18_0
     try clear hcz18_1
     try clear hcz18_2
     try clear hcz19_0
     try clear hcz19_1
     try clear hcz21_0
     try clear hcz21_1
     try clear hcz21_2
     try clear hcz22_0
     try clear hcz22_1
     try clear hcz24_0
     try clear hcz24_1
     try clear hcz24_2
     try clear hcz25_0
     try clear hcz25_1
     try clear hcz9_0
     try clear hcz9_1
     try clear hfz11_0
     try clear hfz11_1
     try clear hfz11_2
     try clear hfz18_0
     try clear hfz18_1
     try clear hfz18_2
     try clear hfz19_0
     try clear hfz19_1
     try clear hfz21_0
     try clear hfz21_1
     try clear hfz21_2
     try clear hfz22_0
     try clear hfz22_1
     try clear hfz24_0
     try clear hfz24_1
     try clear hfz24_2
     try clear hfz25_0
     try clear hfz25_1
     try clear hfz9_0
     try clear hfz9_1
     try clear p2
     obtain ⟨kq,x30_25,rfl,HA,HJ25,BK217,BK218,HB⟩:=hcut
     cases kq with
     | zero=>exact absurd HA.out (by simp [spec_EventOk.j1])
     | succ kj25 =>
      have H:=HA.out
      clear HA
      simp only [spec_EventOk.j1] at H
      by_cases c28:x30_25=true
      ·subst c28
       have H1:((spec_l1in.f a1_1 0 (wrap64 ((l0_1.length:Int) - 1))).bind fun t221=>(if t221=true then (some (a1_2==0)) else (some false)))=some r:=by rw [if_pos rfl] at H;exact H
       clear H
       have H:=H1
       clear H1
       replace H:=Option.bind_eq_some_iff.mp H
       obtain ⟨t221,A290,H⟩:=H
       replace H:(if t221=true then (some (a1_2==0)) else (some false))=some r:=H
       have A29:=Aside0.mk A290
       clear A290
       by_cases c30:t221=true
       ·subst c30
        have H1:(some (a1_2==0))=some r:=by rw [if_pos rfl] at H;exact H
        clear H
        have H:=H1
        clear H1
        obtain rfl:=Option.some.inj H
        have hnb31:=NB218_217.out
        have hnc31:=NB217_218.out
        have hcz32_0:wc.cell? ⟨gb218,0,none⟩=some (.int .i64 a1_0):=(blk_cell BK218.out 0).trans rfl
        have hcz32_1:wc.cell? ⟨gb218,1,none⟩=some (.int .i64 a1_1):=(blk_cell BK218.out 1).trans rfl
        have hcz32_2:wc.cell? ⟨gb218,2,none⟩=some (.int .i64 a1_2):=(blk_cell BK218.out 2).trans rfl
        have hfz32_0:=blk_frozen BK218.out 0
        have hfz32_1:=blk_frozen BK218.out 1
        have hfz32_2:=blk_frozen BK218.out 2
        have hcz33_0:wc.cell? ⟨gb217,0,none⟩=some (.int .i64 a0_0):=(blk_cell BK217.out 0).trans rfl
        have hcz33_1:wc.cell? ⟨gb217,1,none⟩=some (.slice A0_1 l0_1.length c0_1):=(blk_cell BK217.out 1).trans rfl
        have hfz33_0:=blk_frozen BK217.out 0
        have hfz33_1:=blk_frozen BK217.out 1
        go_wp2_with (first|((with_reducible refine gate_callee (f:=87) rfl ?_);refine goesL_ (some 39) rfl rfl Try.func87 (by kernel_rfl) rfl #[.int .i64 a1_1,.int .i64 0,.int .i64 (wrap64 ((l0_1.length:Int) - 1))] rfl (by (try simp only [List.map_toArray,List.map_cons,List.map_nil]);first|done|rfl|(simp only [List.length_drop,List.length_take];rfl)) ?_;(with_reducible refine (spec_l1in.calls a1_1 0 (wrap64 ((l0_1.length:Int) - 1)) true _ A29.out).mono ?_);rintro e w' ⟨rfl,⟨nd,rfl⟩⟩;refine ⟨_,rfl,?_⟩))
        go_ret
        exact ⟨by first|rfl|(simp [errW_none,errW_some] <;> rfl)|(simp [*,errW_none,errW_some] <;> rfl),by repeat (first|(with_reducible first|exact HB.out|apply below_alloc|apply pw_below_drewN|apply below_drew1|refine below_set ?_ GE217.out|refine below_set ?_ GE218.out)|exact HB.out)⟩
       replace c30:=Bool.eq_false_iff.mpr c30
       subst c30
       have H1:(some false)=some r:=by rw [if_neg (show ¬ (false=true) by decide)] at H;exact H
       clear H
       have H:=H1
       clear H1
       obtain rfl:=Option.some.inj H
       have hnb34:=NB218_217.out
       have hnc34:=NB217_218.out
       have hcz35_0:wc.cell? ⟨gb218,0,none⟩=some (.int .i64 a1_0):=(blk_cell BK218.out 0).trans rfl
       have hcz35_1:wc.cell? ⟨gb218,1,none⟩=some (.int .i64 a1_1):=(blk_cell BK218.out 1).trans rfl
       have hcz35_2:wc.cell? ⟨gb218,2,none⟩=some (.int .i64 a1_2):=(blk_cell BK218.out 2).trans rfl
       have hfz35_0:=blk_frozen BK218.out 0
       have hfz35_1:=blk_frozen BK218.out 1
       have hfz35_2:=blk_frozen BK218.out 2
       have hcz36_0:wc.cell? ⟨gb217,0,none⟩=some (.int .i64 a0_0):=(blk_cell BK217.out 0).trans rfl
       have hcz36_1:wc.cell? ⟨gb217,1,none⟩=some (.slice A0_1 l0_1.length c0_1):=(blk_cell BK217.out 1).trans rfl
       have hfz36_0:=blk_frozen BK217.out 0
       have hfz36_1:=blk_frozen BK217.out 1
       go_wp2_with (first|((with_reducible refine gate_callee (f:=87) rfl ?_);refine goesL_ (some 39) rfl rfl Try.func87 (by kernel_rfl) rfl #[.int .i64 a1_1,.int .i64 0,.int .i64 (wrap64 ((l0_1.length:Int) - 1))] rfl (by (try simp only [List.map_toArray,List.map_cons,List.map_nil]);first|done|rfl|(simp only [List.length_drop,List.length_take];rfl)) ?_;(with_reducible refine (spec_l1in.calls a1_1 0 (wrap64 ((l0_1.length:Int) - 1)) false _ A29.out).mono ?_);rintro e w' ⟨rfl,⟨nd,rfl⟩⟩;refine ⟨_,rfl,?_⟩))
       go_ret
       exact ⟨by first|rfl|(simp [errW_none,errW_some] <;> rfl)|(simp [*,errW_none,errW_some] <;> rfl),by repeat (first|(with_reducible first|exact HB.out|apply below_alloc|apply pw_below_drewN|apply below_drew1|refine below_set ?_ GE217.out|refine below_set ?_ GE218.out)|exact HB.out)⟩
      replace c28:=Bool.eq_false_iff.mpr c28
      subst c28
      have H1:(if a1_0=5 then ((spec_l1in.f a1_1 0 (wrap64 (a0_0 - 1))).bind fun t222=>(if t222=true then (some (a1_2==0)) else (some false))) else (some false))=some r:=by rw [if_neg (show ¬ (false=true) by decide)] at H;exact H
      clear H
      have H:=H1
      clear H1
      by_cases c37:a1_0=5
      ·rw [if_pos c37] at H
       have c37b0:(a1_0==5)=true:=beq_iff_eq.mpr c37
       have c37b1:(a1_0 != 5)=false:=bne_eq_false_iff_eq.mpr c37
       clear c37
       replace H:=Option.bind_eq_some_iff.mp H
       obtain ⟨t222,A380,H⟩:=H
       replace H:(if t222=true then (some (a1_2==0)) else (some false))=some r:=H
       have A38:=Aside0.mk A380
       clear A380
       by_cases c39:t222=true
       ·subst c39
        have H1:(some (a1_2==0))=some r:=by rw [if_pos rfl] at H;exact H
        clear H
        have H:=H1
        clear H1
        obtain rfl:=Option.some.inj H
        have hnb40:=NB218_217.out
        have hnc40:=NB217_218.out
        have hcz41_0:wc.cell? ⟨gb218,0,none⟩=some (.int .i64 a1_0):=(blk_cell BK218.out 0).trans rfl
        have hcz41_1:wc.cell? ⟨gb218,1,none⟩=some (.int .i64 a1_1):=(blk_cell BK218.out 1).trans rfl
        have hcz41_2:wc.cell? ⟨gb218,2,none⟩=some (.int .i64 a1_2):=(blk_cell BK218.out 2).trans rfl
        have hfz41_0:=blk_frozen BK218.out 0
        have hfz41_1:=blk_frozen BK218.out 1
        have hfz41_2:=blk_frozen BK218.out 2
        have hcz42_0:wc.cell? ⟨gb217,0,none⟩=some (.int .i64 a0_0):=(blk_cell BK217.out 0).trans rfl
        have hcz42_1:wc.cell? ⟨gb217,1,none⟩=some (.slice A0_1 l0_1.length c0_1):=(blk_cell BK217.out 1).trans rfl
        have hfz42_0:=blk_frozen BK217.out 0
        have hfz42_1:=blk_frozen BK217.out 1
        go_wp2_with (first|((with_reducible refine gate_callee (f:=87) rfl ?_);refine goesL_ (some 52) rfl rfl Try.func87 (by kernel_rfl) rfl #[.int .i64 a1_1,.int .i64 0,.int .i64 (wrap64 (a0_0 - 1))] rfl (by (try simp only [List.map_toArray,List.map_cons,List.map_nil]);first|done|rfl|(simp only [List.length_drop,List.length_take];rfl)) ?_;(with_reducible refine (spec_l1in.calls a1_1 0 (wrap64 (a0_0 - 1)) true _ A38.out).mono ?_);rintro e w' ⟨rfl,⟨nd,rfl⟩⟩;refine ⟨_,rfl,?_⟩))
        go_ret
        exact ⟨by first|rfl|(simp [errW_none,errW_some] <;> rfl)|(simp [*,errW_none,errW_some] <;> rfl),by repeat (first|(with_reducible first|exact HB.out|apply below_alloc|apply pw_below_drewN|apply below_drew1|refine below_set ?_ GE217.out|refine below_set ?_ GE218.out)|exact HB.out)⟩
       replace c39:=Bool.eq_false_iff.mpr c39
       subst c39
       have H1:(some false)=some r:=by rw [if_neg (show ¬ (false=true) by decide)] at H;exact H
       clear H
       have H:=H1
       clear H1
       obtain rfl:=Option.some.inj H
       have hnb43:=NB218_217.out
       have hnc43:=NB217_218.out
       have hcz44_0:wc.cell? ⟨gb218,0,none⟩=some (.int .i64 a1_0):=(blk_cell BK218.out 0).trans rfl
       have hcz44_1:wc.cell? ⟨gb218,1,none⟩=some (.int .i64 a1_1):=(blk_cell BK218.out 1).trans rfl
       have hcz44_2:wc.cell? ⟨gb218,2,none⟩=some (.int .i64 a1_2):=(blk_cell BK218.out 2).trans rfl
       have hfz44_0:=blk_frozen BK218.out 0
       have hfz44_1:=blk_frozen BK218.out 1
       have hfz44_2:=blk_frozen BK218.out 2
       have hcz45_0:wc.cell? ⟨gb217,0,none⟩=some (.int .i64 a0_0):=(blk_cell BK217.out 0).trans rfl
       have hcz45_1:wc.cell? ⟨gb217,1,none⟩=some (.slice A0_1 l0_1.length c0_1):=(blk_cell BK217.out 1).trans rfl
       have hfz45_0:=blk_frozen BK217.out 0
       have hfz45_1:=blk_frozen BK217.out 1
       go_wp2_with (first|((with_reducible refine gate_callee (f:=87) rfl ?_);refine goesL_ (some 52) rfl rfl Try.func87 (by kernel_rfl) rfl #[.int .i64 a1_1,.int .i64 0,.int .i64 (wrap64 (a0_0 - 1))] rfl (by (try simp only [List.map_toArray,List.map_cons,List.map_nil]);first|done|rfl|(simp only [List.length_drop,List.length_take];rfl)) ?_;(with_reducible refine (spec_l1in.calls a1_1 0 (wrap64 (a0_0 - 1)) false _ A38.out).mono ?_);rintro e w' ⟨rfl,⟨nd,rfl⟩⟩;refine ⟨_,rfl,?_⟩))
       go_ret
       exact ⟨by first|rfl|(simp [errW_none,errW_some] <;> rfl)|(simp [*,errW_none,errW_some] <;> rfl),by repeat (first|(with_reducible first|exact HB.out|apply below_alloc|apply pw_below_drewN|apply below_drew1|refine below_set ?_ GE217.out|refine below_set ?_ GE218.out)|exact HB.out)⟩
      rw [if_neg c37] at H
      have c37b0:(a1_0==5)=false:=beq_eq_false_iff_ne.mpr c37
      have c37b1:(a1_0 != 5)=true:=bne_iff_ne.mpr c37
      obtain rfl:=Option.some.inj H
      go_wp2
      go_ret
      exact ⟨by first|rfl|(simp [errW_none,errW_some] <;> rfl)|(simp [*,errW_none,errW_some] <;> rfl),by exact HB.out⟩
 rw [if_neg c4] at H
 have c4b0:(t219==0)=false:=beq_eq_false_iff_ne.mpr c4
 have c4b1:(t219 != 0)=true:=bne_iff_ne.mpr c4
 obtain rfl:=Option.some.inj H
 go_enter Try.func34,Try.ntmps34
 go_wp2_with (first|((with_reducible refine gate_dst (N:=2) rfl ?_);refine box_event ?hg (N:=2) ?hd (cs:=#[.int .i64 a0_0,.slice A0_1 l0_1.length c0_1]) (t:=30) ?hr ?_;(case hd=>rfl);(case hg=>rfl);(case hr=>first|(go_simp;done)|(go_simp;rfl));intro gb217 hg w46 hbox hb;have n0_:=Aside0.mk (below_step (by exact HB.out) hb);have n1_:=Aside0.mk (hbox);have n2_:=Aside0.mk ((by rw [hg];exact (below_size (by exact HB.out)):w.heap.size≤gb217));have n3_:=Aside0.mk ((by rw [hg];exact (below_size (by exact HB.out)):w.heap.size≤gb217));clear HB;have HB:=n0_;have BK217:=n1_;have GW217:=n2_;have GE217:=n3_;clear n0_ n1_ n2_ n3_;clear hb hbox hg)|((with_reducible refine gate_dst (N:=3) rfl ?_);refine box_event ?hg (N:=3) ?hd (cs:=#[.int .i64 a1_0,.int .i64 a1_1,.int .i64 a1_2]) (t:=56) ?hr ?_;(case hd=>rfl);(case hg=>rfl);(case hr=>first|(go_simp;done)|(go_simp;rfl));intro gb218 hg w47 hbox hb;have n0_:=Aside0.mk (blk_below (g:=gb217) (o:=.cells #[.int .i64 a0_0,.slice A0_1 l0_1.length c0_1] 30 (0,0)) (by exact BK217.out) hb);have n1_:=Aside0.mk (below_step (by exact HB.out) hb);have n2_:=Aside0.mk (hbox);have n3_:=Aside0.mk ((by rw [hg];exact (below_size (by exact HB.out)):w.heap.size≤gb218));have n4_:=Aside0.mk ((by rw [hg];exact (below_size (by exact HB.out)):w.heap.size≤gb218));have n5_:=Aside0.mk ((by rw [hg];exact Nat.ne_of_lt (blk_lt (g:=gb217) (o:=.cells #[.int .i64 a0_0,.slice A0_1 l0_1.length c0_1] 30 (0,0)) (by exact BK217.out)):gb217 ≠ gb218));have n6_:=Aside0.mk ((by rw [hg];exact Nat.ne_of_gt (blk_lt (g:=gb217) (o:=.cells #[.int .i64 a0_0,.slice A0_1 l0_1.length c0_1] 30 (0,0)) (by exact BK217.out)):gb218 ≠ gb217));clear BK217;clear HB;have BK217:=n0_;have HB:=n1_;have BK218:=n2_;have GW218:=n3_;have GE218:=n4_;have NB217_218:=n5_;have NB218_217:=n6_;clear n0_ n1_ n2_ n3_ n4_ n5_ n6_;clear hb hbox hg;have hnb48:=NB217_218.out;have hnc48:=NB218_217.out;have hcz49_0:w47.cell? ⟨gb217,0,none⟩=some (.int .i64 a0_0):=(blk_cell BK217.out 0).trans rfl;have hcz49_1:w47.cell? ⟨gb217,1,none⟩=some (.slice A0_1 l0_1.length c0_1):=(blk_cell BK217.out 1).trans rfl;have hfz49_0:=blk_frozen BK217.out 0;have hfz49_1:=blk_frozen BK217.out 1)|((with_reducible refine gate_callee (f:=23) rfl ?_);refine goesL_ (some 6) rfl rfl Try.func23 (by kernel_rfl) rfl #[.agg #[.int .i64 a0_0,.slice A0_1 l0_1.length c0_1]] rfl (by (try simp only [List.map_toArray,List.map_cons,List.map_nil]);first|done|rfl|(simp only [List.length_drop,List.length_take];rfl)) ?_;(with_reducible refine (spec_LayoutOk.calls k a0_0 _ _ l0_1 t219 _ ?side1 ?side2 A3.out).mono ?_);(case side1=>repeat (first|exact (Kd.C_below HR0_1.out HB.out)|(with_reducible refine Kd.C_alloc ?_ _)|(with_reducible refine Kd.C_drewN ?_ _)|(with_reducible refine Kd.C_drew ?_)));(case side2=>exact HC0_1.out);rintro e w50 ⟨rfl,hb⟩;refine ⟨_,rfl,?_⟩;have n0_:=Aside0.mk (blk_below (g:=gb217) (o:=.cells #[.int .i64 a0_0,.slice A0_1 l0_1.length c0_1] 30 (0,0)) (by exact BK217.out) hb);have n1_:=Aside0.mk (blk_below (g:=gb218) (o:=.cells #[.int .i64 a1_0,.int .i64 a1_1,.int .i64 a1_2] 56 (0,0)) (by exact BK218.out) hb);have n2_:=Aside0.mk (below_step (by exact HB.out) hb);clear BK217;clear BK218;clear HB;have BK217:=n0_;have BK218:=n1_;have HB:=n2_;clear n0_ n1_ n2_;(try clear hb);(try clear hb2);(try clear hk);(try clear hi)))
 go_ret
 exact ⟨by first|rfl|(simp [errW_none,errW_some] <;> rfl)|(simp [*,errW_none,errW_some] <;> rfl),by exact HB.out⟩
end Go.Proofs.Ytpdnabhpkdchjaa.P
namespace Go.Proofs.Ytpdnabhpkdchjaa.P
open Go.RowKit Go.Proofs.YtpdnabhpkdchjaaW.PrintWords Go.Proofs.YtpdnabhpkdchjaaW.PrintLast Go.Proofs.YtpdnabhpkdchjaaW.PrintMore
attribute [local go_sem] max2_int min2_int max_two min_two max_three min_three max_four min_four
set_option linter.unusedVariables false
set_option linter.unusedSimpArgs false
mutual
def impl_EventOk.j0:Nat→Bool→Int→List (S88)→Int→Int→Int→Option (Bool)
 | 0,_,_,_,_,_,_=>none
 | k+1,x5,x309000,x309001,x310000,x310001,x310002=>if x310000=1 then (impl_EventOk.j1 k x5 x310000 (x310000==1) x309000 x309001 x310000 x310001 x310002) else (impl_EventOk.j1 k x5 x310000 (x310000==2) x309000 x309001 x310000 x310001 x310002)
def impl_EventOk.j1:Nat→Bool→Int→Bool→Int→List (S88)→Int→Int→Int→Option (Bool)
 | 0,_,_,_,_,_,_,_,_=>none
 | k+1,x5,x21,x22,x309000,x309001,x310000,x310001,x310002=>if x22=true then (if x5=true then (if x310002=1 then (some true) else (some (x310002==(-1)))) else (some false)) else (if x21=3 then (impl_EventOk.j2 k x5 x21 (x21==3) x309000 x309001 x310000 x310001 x310002) else (impl_EventOk.j2 k x5 x21 (x21==4) x309000 x309001 x310000 x310001 x310002))
def impl_EventOk.j2:Nat→Bool→Int→Bool→Int→List (S88)→Int→Int→Int→Option (Bool)
 | 0,_,_,_,_,_,_,_,_=>none
 | k+1,x5,x21,x36,x309000,x309001,x310000,x310001,x310002=>if x36=true then (if x5=true then (some (x310002==0)) else (some false)) else (if x21=5 then (if x310001 ≥ 0 then (if x310001<x309000 then (some (x310002==0)) else (some false)) else (some false)) else (some false))
end
def impl_EventOk.f (k:Nat) (a0_0:Int) (l0_1:List (S88)) (a1_0:Int) (a1_1:Int) (a1_2:Int):Option (Bool):=(impl_LayoutOk.f a0_0 l0_1).bind fun t310=>(if t310=0 then (if a1_1 ≥ 0 then (impl_EventOk.j0 k (decide (a1_1<(l0_1.length:Int))) a0_0 l0_1 a1_0 a1_1 a1_2) else (impl_EventOk.j0 k false a0_0 l0_1 a1_0 a1_1 a1_2)) else (some false))
set_option maxHeartbeats 8000000 in
set_option maxRecDepth 100000 in
theorem impl_EventOk.calls (k:Nat) (a0_0:Int) (A0_1:Option Addr) (c0_1:Nat) (l0_1:List (S88)) (a1_0:Int) (a1_1:Int) (a1_2:Int) (r:Bool) (w:World) (hr0_1:Kd.C k88 w A0_1 l0_1.length l0_1) (hc0_1:l0_1.length≤c0_1) (h:impl_EventOk.f k a0_0 l0_1 a1_0 a1_1 a1_2=some r) :
  Calls Try.prog 36 #[.agg #[.int .i64 a0_0,.slice A0_1 l0_1.length c0_1],.agg #[.int .i64 a1_0,.int .i64 a1_1,.int .i64 a1_2]] w fun e w'=>e=.returned (.bool r)∧Below w.heap.size w w':=by
 have hu30:=Try.underlying30
 have hu56:=Try.underlying56
 have HR0_1:=Aside0.mk hr0_1
 have HC0_1:=Aside0.mk hc0_1
 clear hr0_1 hc0_1
 have HB:=Aside0.mk (Below.refl w.heap.size w)
 have H:((impl_LayoutOk.f a0_0 l0_1).bind fun t310=>(if t310=0 then (if a1_1 ≥ 0 then (impl_EventOk.j0 k (decide (a1_1<(l0_1.length:Int))) a0_0 l0_1 a1_0 a1_1 a1_2) else (impl_EventOk.j0 k false a0_0 l0_1 a1_0 a1_1 a1_2)) else (some false)))=some r:=h
 clear h
 replace H:=Option.bind_eq_some_iff.mp H
 obtain ⟨t310,A30,H⟩:=H
 replace H:(if t310=0 then (if a1_1 ≥ 0 then (impl_EventOk.j0 k (decide (a1_1<(l0_1.length:Int))) a0_0 l0_1 a1_0 a1_1 a1_2) else (impl_EventOk.j0 k false a0_0 l0_1 a1_0 a1_1 a1_2)) else (some false))=some r:=H
 have A3:=Aside0.mk A30
 clear A30
 by_cases c4:t310=0
 ·rw [if_pos c4] at H
  have c4b0:(t310==0)=true:=beq_iff_eq.mpr c4
  have c4b1:(t310 != 0)=false:=bne_eq_false_iff_eq.mpr c4
  clear c4
  have HC5:=Aside0.mk H
  clear H
  go_enter Try.func36,Try.ntmps36
  go_upto_region 3 with (first|((with_reducible refine gate_dst (N:=2) rfl ?_);(try (refine gate_guard (by rfl) ?_;dsimp only));refine box_event ?hg (N:=2) ?hd (cs:=#[.int .i64 a0_0,.slice A0_1 l0_1.length c0_1]) (t:=30) ?hr ?_;(case hd=>rfl);(case hg=>rfl);(case hr=>first|(go_simp;done)|(go_simp;rfl));intro gb308 hg w6 hbox hb;have n0_:=Aside0.mk (below_step (by exact HB.out) hb);have n1_:=Aside0.mk (hbox);have n2_:=Aside0.mk ((by rw [hg];exact (below_size (by exact HB.out)):w.heap.size≤gb308));have n3_:=Aside0.mk ((by rw [hg];exact (below_size (by exact HB.out)):w.heap.size≤gb308));clear HB;have HB:=n0_;have BK308:=n1_;have GW308:=n2_;have GE308:=n3_;clear n0_ n1_ n2_ n3_;clear hb hbox hg)|((with_reducible refine gate_dst (N:=3) rfl ?_);(try (refine gate_guard (by rfl) ?_;dsimp only));refine box_event ?hg (N:=3) ?hd (cs:=#[.int .i64 a1_0,.int .i64 a1_1,.int .i64 a1_2]) (t:=56) ?hr ?_;(case hd=>rfl);(case hg=>rfl);(case hr=>first|(go_simp;done)|(go_simp;rfl));intro gb309 hg w7 hbox hb;have n0_:=Aside0.mk (blk_below (g:=gb308) (o:=.cells #[.int .i64 a0_0,.slice A0_1 l0_1.length c0_1] 30 (0,0)) (by exact BK308.out) hb);have n1_:=Aside0.mk (below_step (by exact HB.out) hb);have n2_:=Aside0.mk (hbox);have n3_:=Aside0.mk ((by rw [hg];exact (below_size (by exact HB.out)):w.heap.size≤gb309));have n4_:=Aside0.mk ((by rw [hg];exact (below_size (by exact HB.out)):w.heap.size≤gb309));have n5_:=Aside0.mk ((by rw [hg];exact Nat.ne_of_lt (blk_lt (g:=gb308) (o:=.cells #[.int .i64 a0_0,.slice A0_1 l0_1.length c0_1] 30 (0,0)) (by exact BK308.out)):gb308 ≠ gb309));have n6_:=Aside0.mk ((by rw [hg];exact Nat.ne_of_gt (blk_lt (g:=gb308) (o:=.cells #[.int .i64 a0_0,.slice A0_1 l0_1.length c0_1] 30 (0,0)) (by exact BK308.out)):gb309 ≠ gb308));clear BK308;clear HB;have BK308:=n0_;have HB:=n1_;have BK309:=n2_;have GW309:=n3_;have GE309:=n4_;have NB308_309:=n5_;have NB309_308:=n6_;clear n0_ n1_ n2_ n3_ n4_ n5_ n6_;clear hb hbox hg;have hnb8:=NB308_309.out;have hnc8:=NB309_308.out;have hcz9_0:w7.cell? ⟨gb308,0,none⟩=some (.int .i64 a0_0):=(blk_cell BK308.out 0).trans rfl;have hcz9_1:w7.cell? ⟨gb308,1,none⟩=some (.slice A0_1 l0_1.length c0_1):=(blk_cell BK308.out 1).trans rfl;have hfz9_0:=blk_frozen BK308.out 0;have hfz9_1:=blk_frozen BK308.out 1)|((with_reducible refine gate_callee (f:=25) rfl ?_);refine goesL_ (some 7) rfl rfl Try.func25 (by kernel_rfl) rfl #[.agg #[.int .i64 a0_0,.slice A0_1 l0_1.length c0_1]] rfl (by (try simp only [List.map_toArray,List.map_cons,List.map_nil]);first|done|rfl|(simp only [List.length_drop,List.length_take];rfl)) ?_;(with_reducible refine (impl_LayoutOk.calls a0_0 _ _ l0_1 t310 _ ?side1 ?side2 A3.out).mono ?_);(case side1=>repeat (first|exact (Kd.C_below HR0_1.out HB.out)|(with_reducible refine Kd.C_alloc ?_ _)|(with_reducible refine Kd.C_drewN ?_ _)|(with_reducible refine Kd.C_drew ?_)));(case side2=>exact HC0_1.out);rintro e w10 ⟨rfl,hb⟩;refine ⟨_,rfl,?_⟩;have n0_:=Aside0.mk (blk_below (g:=gb308) (o:=.cells #[.int .i64 a0_0,.slice A0_1 l0_1.length c0_1] 30 (0,0)) (by exact BK308.out) hb);have n1_:=Aside0.mk (blk_below (g:=gb309) (o:=.cells #[.int .i64 a1_0,.int .i64 a1_1,.int .i64 a1_2] 56 (0,0)) (by exact BK309.out) hb);have n2_:=Aside0.mk (below_step (by exact HB.out) hb);clear BK308;clear BK309;clear HB;have BK308:=n0_;have BK309:=n1_;have HB:=n2_;clear n0_ n1_ n2_;(try clear hb);(try clear hb2);(try clear hk);(try clear hi)))
  (try simp only [Act.put,List.setIfInBounds_toArray,List.set_cons_zero,List.set_cons_succ])
  go_cut [5] (fun v5 wc=>∃ (kq:Nat) (x5_4:Bool),v5=.bool x5_4∧Aside0 (impl_EventOk.j0 kq x5_4 a0_0 l0_1 a1_0 a1_1 a1_2=some r)∧Aside0 (kq≤k)∧Aside0 (wc.heap[gb308]?=some (.cells #[.int .i64 a0_0,(.slice A0_1 l0_1.length c0_1)] 30 (0,0)))∧Aside0 (wc.heap[gb309]?=some (.cells #[.int .i64 a1_0,.int .i64 a1_1,.int .i64 a1_2] 56 (0,0)))∧Aside0 (Below w.heap.size w wc))
  case first =>
   have H:=HC5.out
   clear HC5
   by_cases c11:a1_1 ≥ 0
   ·rw [if_pos c11] at H
    have c11b0:decide (0≤a1_1)=true:=decide_eq_true c11
    clear c11
    (first|rw [c11b0]|(simp only [i64_w,i32_w];rw [c11b0])|skip)
    have H':=Aside0.mk H
    clear H
    have hnb12:=NB309_308.out
    have hnc12:=NB308_309.out
    have hcz13_0:w10.cell? ⟨gb309,0,none⟩=some (.int .i64 a1_0):=(blk_cell BK309.out 0).trans rfl
    have hcz13_1:w10.cell? ⟨gb309,1,none⟩=some (.int .i64 a1_1):=(blk_cell BK309.out 1).trans rfl
    have hcz13_2:w10.cell? ⟨gb309,2,none⟩=some (.int .i64 a1_2):=(blk_cell BK309.out 2).trans rfl
    have hfz13_0:=blk_frozen BK309.out 0
    have hfz13_1:=blk_frozen BK309.out 1
    have hfz13_2:=blk_frozen BK309.out 2
    have hcz14_0:w10.cell? ⟨gb308,0,none⟩=some (.int .i64 a0_0):=(blk_cell BK308.out 0).trans rfl
    have hcz14_1:w10.cell? ⟨gb308,1,none⟩=some (.slice A0_1 l0_1.length c0_1):=(blk_cell BK308.out 1).trans rfl
    have hfz14_0:=blk_frozen BK308.out 0
    have hfz14_1:=blk_frozen BK308.out 1
    go_wp2
    go_meet
    case rel=>exact ⟨_,(decide (a1_1<(l0_1.length:Int))),(by first|rfl|(simp;done)|(simp [*];done)),H',⟨by first|omega|exact Nat.le_refl _⟩,⟨by exact BK308.out⟩,⟨by exact BK309.out⟩,⟨by exact HB.out⟩⟩
   rw [if_neg c11] at H
   have c11b0:decide (0≤a1_1)=false:=decide_eq_false c11
   clear c11
   (first|rw [c11b0]|(simp only [i64_w,i32_w];rw [c11b0])|skip)
   have H':=Aside0.mk H
   clear H
   have hnb15:=NB309_308.out
   have hnc15:=NB308_309.out
   have hcz16_0:w10.cell? ⟨gb309,0,none⟩=some (.int .i64 a1_0):=(blk_cell BK309.out 0).trans rfl
   have hcz16_1:w10.cell? ⟨gb309,1,none⟩=some (.int .i64 a1_1):=(blk_cell BK309.out 1).trans rfl
   have hcz16_2:w10.cell? ⟨gb309,2,none⟩=some (.int .i64 a1_2):=(blk_cell BK309.out 2).trans rfl
   have hfz16_0:=blk_frozen BK309.out 0
   have hfz16_1:=blk_frozen BK309.out 1
   have hfz16_2:=blk_frozen BK309.out 2
   go_wp2
   go_meet
   case rel=>exact ⟨_,(false),(by first|rfl|(simp;done)|(simp [*];done)),H',⟨by first|omega|exact Nat.le_refl _⟩,⟨by exact BK308.out⟩,⟨by exact BK309.out⟩,⟨by exact HB.out⟩⟩
  case rest =>
   clear HC5
   try clear c1
   try clear c2
   try clear p2
   try clear c3
   try clear c4
   try clear c4b0
   try clear c4b1
   try clear c8
   try clear c11
   try clear c11b0
   try clear c12
   try clear c15
   try clear hcz13_0
   try clear hcz13_1
   try clear hcz13_2
   try clear hcz14_0
   try clear hcz14_1
   try clear hcz16_0
   try clear hcz16_1
   try clear hcz16_2
   try clear hcz9_0
   try clear hcz9_1
   try clear hfz13_0
   try clear hfz13_1
   try clear hfz13_2
   try clear hfz14_0
   try clear hfz14_1
   try clear hfz16_0
   try clear hfz16_1
   try clear hfz16_2
   try clear hfz9_0
   try clear hfz9_1
   obtain ⟨kq,x5_4,rfl,HA,HJ4,BK308,BK309,HB⟩:=hcut
   cases kq with
   | zero=>exact absurd HA.out (by simp [impl_EventOk.j0])
   | succ kj4 =>
    have H:=HA.out
    clear HA
    simp only [impl_EventOk.j0] at H
    have HC17:=Aside0.mk H
    clear H
    have hnb18:=NB309_308.out
    have hnc18:=NB308_309.out
    have hcz19_0:wc.cell? ⟨gb309,0,none⟩=some (.int .i64 a1_0):=(blk_cell BK309.out 0).trans rfl
    have hcz19_1:wc.cell? ⟨gb309,1,none⟩=some (.int .i64 a1_1):=(blk_cell BK309.out 1).trans rfl
    have hcz19_2:wc.cell? ⟨gb309,2,none⟩=some (.int .i64 a1_2):=(blk_cell BK309.out 2).trans rfl
    have hfz19_0:=blk_frozen BK309.out 0
    have hfz19_1:=blk_frozen BK309.out 1
    have hfz19_2:=blk_frozen BK309.out 2
    go_upto_if 22 with (fail)
    go_cut [22] (fun v22 wc=>∃ (kq:Nat) (x22_16:Bool),v22=.bool x22_16∧Aside0 (impl_EventOk.j1 kq x5_4 a1_0 x22_16 a0_0 l0_1 a1_0 a1_1 a1_2=some r)∧Aside0 (kq≤kj4)∧Aside0 (wc.heap[gb308]?=some (.cells #[.int .i64 a0_0,(.slice A0_1 l0_1.length c0_1)] 30 (0,0)))∧Aside0 (wc.heap[gb309]?=some (.cells #[.int .i64 a1_0,.int .i64 a1_1,.int .i64 a1_2] 56 (0,0)))∧Aside0 (Below w.heap.size w wc))
    case first =>
     have H:=HC17.out
     clear HC17
     by_cases c20:a1_0=1
     ·rw [if_pos c20] at H
      have c20b0:(a1_0==1)=true:=beq_iff_eq.mpr c20
      have c20b1:(a1_0 != 1)=false:=bne_eq_false_iff_eq.mpr c20
      clear c20
      (first|rw [c20b0]|(simp only [i64_w,i32_w];rw [c20b0])|skip)
      have H':=Aside0.mk H
      clear H
      go_wp2
      go_meet
      case rel=>exact ⟨_,((a1_0==1)),(by first|rfl|(simp;done)|(simp [*];done)),H',⟨by have:=HJ4.out;first|omega|exact Nat.le_refl _⟩,⟨by exact BK308.out⟩,⟨by exact BK309.out⟩,⟨by exact HB.out⟩⟩
     rw [if_neg c20] at H
     have c20b0:(a1_0==1)=false:=beq_eq_false_iff_ne.mpr c20
     have c20b1:(a1_0 != 1)=true:=bne_iff_ne.mpr c20
     (first|rw [c20b0]|(simp only [i64_w,i32_w];rw [c20b0])|skip)
     have H':=Aside0.mk H
     clear H
     go_wp2
     go_meet
     case rel=>exact ⟨_,((a1_0==2)),(by first|rfl|(simp;done)|(simp [*];done)),H',⟨by have:=HJ4.out;first|omega|exact Nat.le_refl _⟩,⟨by exact BK308.out⟩,⟨by exact BK309.out⟩,⟨by exact HB.out⟩⟩
    case rest =>
     clear HC17
     try clear c1
     try clear c2
     try clear p2
     try clear c3
     try clear c4
     try clear c4b0
     try clear c4b1
     try clear c8
     try clear c11
     try clear c11b0
     try clear c12
     try clear c15
     try clear c18
     try clear c20
     try clear c20b0
     try clear c20b1
     try clear hcz13_0
     try clear hcz13_1
     try clear hcz13_2
     try clear hcz14_0
     try clear hcz14_1
     try clear hcz16_0
     try clear hcz16_1
     try clear hcz16_2
     try clear hcz19_0
     try clear hcz19_1
     try clear hcz19_2
     try clear hcz9_0
     try clear hcz9_1
     try clear hfz13_0
     try clear hfz13_1
     try clear hfz13_2
     try clear hfz14_0
     try clear hfz14_1
     try clear hfz16_0
     try clear hfz16_1
     try clear hfz16_2
     try clear hfz19_0
     try clear hfz19_1
     try clear hfz19_2
     try clear hfz9_0
     try clear hfz9_1
     try clear p2
     obtain ⟨kq,x22_16,rfl,HA,HJ16,BK308,BK309,HB⟩:=hcut
     cases kq with
     | zero=>exact absurd HA.out (by simp [impl_EventOk.j1])
     | succ kj16 =>
      have H:=HA.out
      clear HA
      simp only [impl_EventOk.j1] at H
      by_cases c21:x22_16=true
      ·subst c21
       have H1:(if x5_4=true then (if a1_2=1 then (some true) else (some (a1_2==(-1)))) else (some false))=some r:=by rw [if_pos rfl] at H;exact H
       clear H
       have H:=H1
       clear H1
       by_cases c22:x5_4=true
       ·subst c22
        have H1:(if a1_2=1 then (some true) else (some (a1_2==(-1))))=some r:=by rw [if_pos rfl] at H;exact H
        clear H
        have H:=H1
        clear H1
        by_cases c23:a1_2=1
        ·rw [if_pos c23] at H
         have c23b0:(a1_2==1)=true:=beq_iff_eq.mpr c23
         have c23b1:(a1_2 != 1)=false:=bne_eq_false_iff_eq.mpr c23
         clear c23
         obtain rfl:=Option.some.inj H
         have hnb24:=NB309_308.out
         have hnc24:=NB308_309.out
         have hcz25_0:wc.cell? ⟨gb309,0,none⟩=some (.int .i64 a1_0):=(blk_cell BK309.out 0).trans rfl
         have hcz25_1:wc.cell? ⟨gb309,1,none⟩=some (.int .i64 a1_1):=(blk_cell BK309.out 1).trans rfl
         have hcz25_2:wc.cell? ⟨gb309,2,none⟩=some (.int .i64 a1_2):=(blk_cell BK309.out 2).trans rfl
         have hfz25_0:=blk_frozen BK309.out 0
         have hfz25_1:=blk_frozen BK309.out 1
         have hfz25_2:=blk_frozen BK309.out 2
         go_wp2
         go_ret
         exact ⟨by first|rfl|(simp [errW_none,errW_some] <;> rfl)|(simp [*,errW_none,errW_some] <;> rfl),by exact HB.out⟩
        rw [if_neg c23] at H
        have c23b0:(a1_2==1)=false:=beq_eq_false_iff_ne.mpr c23
        have c23b1:(a1_2 != 1)=true:=bne_iff_ne.mpr c23
        obtain rfl:=Option.some.inj H
        have hnb26:=NB309_308.out
        have hnc26:=NB308_309.out
        have hcz27_0:wc.cell? ⟨gb309,0,none⟩=some (.int .i64 a1_0):=(blk_cell BK309.out 0).trans rfl
        have hcz27_1:wc.cell? ⟨gb309,1,none⟩=some (.int .i64 a1_1):=(blk_cell BK309.out 1).trans rfl
        have hcz27_2:wc.cell? ⟨gb309,2,none⟩=some (.int .i64 a1_2):=(blk_cell BK309.out 2).trans rfl
        have hfz27_0:=blk_frozen BK309.out 0
        have hfz27_1:=blk_frozen BK309.out 1
        have hfz27_2:=blk_frozen BK309.out 2
        go_wp2
        go_ret
        exact ⟨by first|rfl|(simp [errW_none,errW_some] <;> rfl)|(simp [*,errW_none,errW_some] <;> rfl),by exact HB.out⟩
       replace c22:=Bool.eq_false_iff.mpr c22
       subst c22
       have H1:(some false)=some r:=by rw [if_neg (show ¬ (false=true) by decide)] at H;exact H
       clear H
       have H:=H1
       clear H1
       obtain rfl:=Option.some.inj H
       go_wp2
       go_ret
       exact ⟨by first|rfl|(simp [errW_none,errW_some] <;> rfl)|(simp [*,errW_none,errW_some] <;> rfl),by exact HB.out⟩
      replace c21:=Bool.eq_false_iff.mpr c21
      subst c21
      have H1:(if a1_0=3 then (impl_EventOk.j2 kj16 x5_4 a1_0 (a1_0==3) a0_0 l0_1 a1_0 a1_1 a1_2) else (impl_EventOk.j2 kj16 x5_4 a1_0 (a1_0==4) a0_0 l0_1 a1_0 a1_1 a1_2))=some r:=by rw [if_neg (show ¬ (false=true) by decide)] at H;exact H
      clear H
      have H:=H1
      clear H1
      have HC28:=Aside0.mk H
      clear H
      go_upto_if 36 with (fail)
      go_cut [36] (fun v36 wc=>∃ (kq:Nat) (x36_27:Bool),v36=.bool x36_27∧Aside0 (impl_EventOk.j2 kq x5_4 a1_0 x36_27 a0_0 l0_1 a1_0 a1_1 a1_2=some r)∧Aside0 (kq≤kj16)∧Aside0 (wc.heap[gb308]?=some (.cells #[.int .i64 a0_0,(.slice A0_1 l0_1.length c0_1)] 30 (0,0)))∧Aside0 (wc.heap[gb309]?=some (.cells #[.int .i64 a1_0,.int .i64 a1_1,.int .i64 a1_2] 56 (0,0)))∧Aside0 (Below w.heap.size w wc))
      case first =>
       have H:=HC28.out
       clear HC28
       by_cases c29:a1_0=3
       ·rw [if_pos c29] at H
        have c29b0:(a1_0==3)=true:=beq_iff_eq.mpr c29
        have c29b1:(a1_0 != 3)=false:=bne_eq_false_iff_eq.mpr c29
        clear c29
        (first|rw [c29b0]|(simp only [i64_w,i32_w];rw [c29b0])|skip)
        have H':=Aside0.mk H
        clear H
        go_wp2
        go_meet
        case rel=>exact ⟨_,((a1_0==3)),(by first|rfl|(simp;done)|(simp [*];done)),H',⟨by have:=HJ4.out;have:=HJ16.out;first|omega|exact Nat.le_refl _⟩,⟨by exact BK308.out⟩,⟨by exact BK309.out⟩,⟨by exact HB.out⟩⟩
       rw [if_neg c29] at H
       have c29b0:(a1_0==3)=false:=beq_eq_false_iff_ne.mpr c29
       have c29b1:(a1_0 != 3)=true:=bne_iff_ne.mpr c29
       (first|rw [c29b0]|(simp only [i64_w,i32_w];rw [c29b0])|skip)
       have H':=Aside0.mk H
       clear H
       go_wp2
       go_meet
       case rel=>exact ⟨_,((a1_0==4)),(by first|rfl|(simp;done)|(simp [*];done)),H',⟨by have:=HJ4.out;have:=HJ16.out;first|omega|exact Nat.le_refl _⟩,⟨by exact BK308.out⟩,⟨by exact BK309.out⟩,⟨by exact HB.out⟩⟩
      case rest =>
       clear HC28
       try clear c1
       try clear c2
       try clear p2
       try clear c3
       try clear c4
       try clear c4b0
       try clear c4b1
       try clear c8
       try clear c11
       try clear c11b0
       try clear c12
       try clear c15
       try clear c18
       try clear c20
       try clear c20b0
       try clear c20b1
       try clear c21
       try clear c22
       try clear c23
       try clear c23b0
       try clear c23b1
       try clear c24
       try clear c25
       try clear c26
       try clear c29
       try clear c29b0
       try clear c29b1
       try clear hcz13_0
       try clear hcz13_1
       try clear hcz13_2
       try clear hcz14_0
       try clear hcz14_1
       try clear hcz16_0
       try clear hcz16_1
       try clear hcz16_2
       try clear hcz19_0
       try clear hcz19_1
       try clear hcz19_2
       try clear hcz25_0
       try clear hcz25_1
       try clear hcz25_2
       try clear hcz27_0
       try clear hcz27_1
       try clear hcz27_2
       try clear hcz9_0
       try clear hcz9_1
       try clear hfz13_0
       try clear hfz13_1
       try clear hfz13_2
       try clear hfz14_0
       try clear hfz14_1
       try clear hfz16_0
       try clear hfz16_1
       try clear hfz16_2
       try clear hfz19_0
       try clear hfz19_1
       try clear hfz19_2
       try clear hfz25_0
       try clear hfz25_1
       try clear hfz25_2
       try clear hfz27_0
       try clear hfz27_1
       try clear hfz27_2
       try clear hfz9_0
       try clear hfz9_1
       try clear p2
       obtain ⟨kq,x36_27,rfl,HA,HJ27,BK308,BK309,HB⟩:=hcut
       cases kq with
       | zero=>exact absurd HA.out (by simp [impl_EventOk.j2])
       | succ kj27 =>
        have H:=HA.out
        clear HA
        simp only [impl_EventOk.j2] at H
        by_cases c30:x36_27=true
        ·subst c30
         have H1:(if x5_4=true then (some (a1_2==0)) else (some false))=some r:=by rw [if_pos rfl] at H;exact H
         clear H
         have H:=H1
         clear H1
         by_cases c31:x5_4=true
         ·subst c31
          have H1:(some (a1_2==0))=some r:=by rw [if_pos rfl] at H;exact H
          clear H
          have H:=H1
          clear H1
          obtain rfl:=Option.some.inj H
          have hnb32:=NB309_308.out
          have hnc32:=NB308_309.out
          have hcz33_0:wc.cell? ⟨gb309,0,none⟩=some (.int .i64 a1_0):=(blk_cell BK309.out 0).trans rfl
          have hcz33_1:wc.cell? ⟨gb309,1,none⟩=some (.int .i64 a1_1):=(blk_cell BK309.out 1).trans rfl
          have hcz33_2:wc.cell? ⟨gb309,2,none⟩=some (.int .i64 a1_2):=(blk_cell BK309.out 2).trans rfl
          have hfz33_0:=blk_frozen BK309.out 0
          have hfz33_1:=blk_frozen BK309.out 1
          have hfz33_2:=blk_frozen BK309.out 2
          go_wp2
          go_ret
          exact ⟨by first|rfl|(simp [errW_none,errW_some] <;> rfl)|(simp [*,errW_none,errW_some] <;> rfl),by exact HB.out⟩
         replace c31:=Bool.eq_false_iff.mpr c31
         subst c31
         have H1:(some false)=some r:=by rw [if_neg (show ¬ (false=true) by decide)] at H;exact H
         clear H
         have H:=H1
         clear H1
         obtain rfl:=Option.some.inj H
         go_wp2
         go_ret
         exact ⟨by first|rfl|(simp [errW_none,errW_some] <;> rfl)|(simp [*,errW_none,errW_some] <;> rfl),by exact HB.out⟩
        replace c30:=Bool.eq_false_iff.mpr c30
        subst c30
        have H1:(if a1_0=5 then (if a1_1 ≥ 0 then (if a1_1<a0_0 then (some (a1_2==0)) else (some false)) else (some false)) else (some false))=some r:=by rw [if_neg (show ¬ (false=true) by decide)] at H;exact H
        clear H
        have H:=H1
        clear H1
        by_cases c34:a1_0=5
        ·rw [if_pos c34] at H
         have c34b0:(a1_0==5)=true:=beq_iff_eq.mpr c34
         have c34b1:(a1_0 != 5)=false:=bne_eq_false_iff_eq.mpr c34
         clear c34
         by_cases c35:a1_1 ≥ 0
         ·rw [if_pos c35] at H
          have c35b0:decide (0≤a1_1)=true:=decide_eq_true c35
          clear c35
          by_cases c36:a1_1<a0_0
          ·rw [if_pos c36] at H
           have c36b0:decide (a1_1<a0_0)=true:=decide_eq_true c36
           clear c36
           obtain rfl:=Option.some.inj H
           have hnb37:=NB309_308.out
           have hnc37:=NB308_309.out
           have hcz38_0:wc.cell? ⟨gb309,0,none⟩=some (.int .i64 a1_0):=(blk_cell BK309.out 0).trans rfl
           have hcz38_1:wc.cell? ⟨gb309,1,none⟩=some (.int .i64 a1_1):=(blk_cell BK309.out 1).trans rfl
           have hcz38_2:wc.cell? ⟨gb309,2,none⟩=some (.int .i64 a1_2):=(blk_cell BK309.out 2).trans rfl
           have hfz38_0:=blk_frozen BK309.out 0
           have hfz38_1:=blk_frozen BK309.out 1
           have hfz38_2:=blk_frozen BK309.out 2
           have hcz39_0:wc.cell? ⟨gb308,0,none⟩=some (.int .i64 a0_0):=(blk_cell BK308.out 0).trans rfl
           have hcz39_1:wc.cell? ⟨gb308,1,none⟩=some (.slice A0_1 l0_1.length c0_1):=(blk_cell BK308.out 1).trans rfl
           have hfz39_0:=blk_frozen BK308.out 0
           have hfz39_1:=blk_frozen BK308.out 1
           go_wp2
           go_ret
           exact ⟨by first|rfl|(simp [errW_none,errW_some] <;> rfl)|(simp [*,errW_none,errW_some] <;> rfl),by exact HB.out⟩
          rw [if_neg c36] at H
          have c36b0:decide (a1_1<a0_0)=false:=decide_eq_false c36
          clear c36
          obtain rfl:=Option.some.inj H
          have hnb40:=NB309_308.out
          have hnc40:=NB308_309.out
          have hcz41_0:wc.cell? ⟨gb309,0,none⟩=some (.int .i64 a1_0):=(blk_cell BK309.out 0).trans rfl
          have hcz41_1:wc.cell? ⟨gb309,1,none⟩=some (.int .i64 a1_1):=(blk_cell BK309.out 1).trans rfl
          have hcz41_2:wc.cell? ⟨gb309,2,none⟩=some (.int .i64 a1_2):=(blk_cell BK309.out 2).trans rfl
          have hfz41_0:=blk_frozen BK309.out 0
          have hfz41_1:=blk_frozen BK309.out 1
          have hfz41_2:=blk_frozen BK309.out 2
          have hcz42_0:wc.cell? ⟨gb308,0,none⟩=some (.int .i64 a0_0):=(blk_cell BK308.out 0).trans rfl
          have hcz42_1:wc.cell? ⟨gb308,1,none⟩=some (.slice A0_1 l0_1.length c0_1):=(blk_cell BK308.out 1).trans rfl
          have hfz42_0:=blk_frozen BK308.out 0
          have hfz42_1:=blk_frozen BK308.out 1
          go_wp2
          go_ret
          exact ⟨by first|rfl|(simp [errW_none,errW_some] <;> rfl)|(simp [*,errW_none,errW_some] <;> rfl),by exact HB.out⟩
         rw [if_neg c35] at H
         have c35b0:decide (0≤a1_1)=false:=decide_eq_false c35
         clear c35
         obtain rfl:=Option.some.inj H
         have hnb43:=NB309_308.out
         have hnc43:=NB308_309.out
         have hcz44_0:wc.cell? ⟨gb309,0,none⟩=some (.int .i64 a1_0):=(blk_cell BK309.out 0).trans rfl
         have hcz44_1:wc.cell? ⟨gb309,1,none⟩=some (.int .i64 a1_1):=(blk_cell BK309.out 1).trans rfl
         have hcz44_2:wc.cell? ⟨gb309,2,none⟩=some (.int .i64 a1_2):=(blk_cell BK309.out 2).trans rfl
         have hfz44_0:=blk_frozen BK309.out 0
         have hfz44_1:=blk_frozen BK309.out 1
         have hfz44_2:=blk_frozen BK309.out 2
         go_wp2
         go_ret
         exact ⟨by first|rfl|(simp [errW_none,errW_some] <;> rfl)|(simp [*,errW_none,errW_some] <;> rfl),by exact HB.out⟩
        rw [if_neg c34] at H
        have c34b0:(a1_0==5)=false:=beq_eq_false_iff_ne.mpr c34
        have c34b1:(a1_0 != 5)=true:=bne_iff_ne.mpr c34
        obtain rfl:=Option.some.inj H
        go_wp2
        go_ret
        exact ⟨by first|rfl|(simp [errW_none,errW_some] <;> rfl)|(simp [*,errW_none,errW_some] <;> rfl),by exact HB.out⟩
 rw [if_neg c4] at H
 have c4b0:(t310==0)=false:=beq_eq_false_iff_ne.mpr c4
 have c4b1:(t310 != 0)=true:=bne_iff_ne.mpr c4
 obtain rfl:=Option.some.inj H
 go_enter Try.func36,Try.ntmps36
 go_wp2_with (first|((with_reducible refine gate_dst (N:=2) rfl ?_);(try (refine gate_guard (by rfl) ?_;dsimp only));refine box_event ?hg (N:=2) ?hd (cs:=#[.int .i64 a0_0,.slice A0_1 l0_1.length c0_1]) (t:=30) ?hr ?_;(case hd=>rfl);(case hg=>rfl);(case hr=>first|(go_simp;done)|(go_simp;rfl));intro gb308 hg w45 hbox hb;have n0_:=Aside0.mk (below_step (by exact HB.out) hb);have n1_:=Aside0.mk (hbox);have n2_:=Aside0.mk ((by rw [hg];exact (below_size (by exact HB.out)):w.heap.size≤gb308));have n3_:=Aside0.mk ((by rw [hg];exact (below_size (by exact HB.out)):w.heap.size≤gb308));clear HB;have HB:=n0_;have BK308:=n1_;have GW308:=n2_;have GE308:=n3_;clear n0_ n1_ n2_ n3_;clear hb hbox hg)|((with_reducible refine gate_dst (N:=3) rfl ?_);(try (refine gate_guard (by rfl) ?_;dsimp only));refine box_event ?hg (N:=3) ?hd (cs:=#[.int .i64 a1_0,.int .i64 a1_1,.int .i64 a1_2]) (t:=56) ?hr ?_;(case hd=>rfl);(case hg=>rfl);(case hr=>first|(go_simp;done)|(go_simp;rfl));intro gb309 hg w46 hbox hb;have n0_:=Aside0.mk (blk_below (g:=gb308) (o:=.cells #[.int .i64 a0_0,.slice A0_1 l0_1.length c0_1] 30 (0,0)) (by exact BK308.out) hb);have n1_:=Aside0.mk (below_step (by exact HB.out) hb);have n2_:=Aside0.mk (hbox);have n3_:=Aside0.mk ((by rw [hg];exact (below_size (by exact HB.out)):w.heap.size≤gb309));have n4_:=Aside0.mk ((by rw [hg];exact (below_size (by exact HB.out)):w.heap.size≤gb309));have n5_:=Aside0.mk ((by rw [hg];exact Nat.ne_of_lt (blk_lt (g:=gb308) (o:=.cells #[.int .i64 a0_0,.slice A0_1 l0_1.length c0_1] 30 (0,0)) (by exact BK308.out)):gb308 ≠ gb309));have n6_:=Aside0.mk ((by rw [hg];exact Nat.ne_of_gt (blk_lt (g:=gb308) (o:=.cells #[.int .i64 a0_0,.slice A0_1 l0_1.length c0_1] 30 (0,0)) (by exact BK308.out)):gb309 ≠ gb308));clear BK308;clear HB;have BK308:=n0_;have HB:=n1_;have BK309:=n2_;have GW309:=n3_;have GE309:=n4_;have NB308_309:=n5_;have NB309_308:=n6_;clear n0_ n1_ n2_ n3_ n4_ n5_ n6_;clear hb hbox hg;have hnb47:=NB308_309.out;have hnc47:=NB309_308.out;have hcz48_0:w46.cell? ⟨gb308,0,none⟩=some (.int .i64 a0_0):=(blk_cell BK308.out 0).trans rfl;have hcz48_1:w46.cell? ⟨gb308,1,none⟩=some (.slice A0_1 l0_1.length c0_1):=(blk_cell BK308.out 1).trans rfl;have hfz48_0:=blk_frozen BK308.out 0;have hfz48_1:=blk_frozen BK308.out 1)|((with_reducible refine gate_callee (f:=25) rfl ?_);refine goesL_ (some 7) rfl rfl Try.func25 (by kernel_rfl) rfl #[.agg #[.int .i64 a0_0,.slice A0_1 l0_1.length c0_1]] rfl (by (try simp only [List.map_toArray,List.map_cons,List.map_nil]);first|done|rfl|(simp only [List.length_drop,List.length_take];rfl)) ?_;(with_reducible refine (impl_LayoutOk.calls a0_0 _ _ l0_1 t310 _ ?side1 ?side2 A3.out).mono ?_);(case side1=>repeat (first|exact (Kd.C_below HR0_1.out HB.out)|(with_reducible refine Kd.C_alloc ?_ _)|(with_reducible refine Kd.C_drewN ?_ _)|(with_reducible refine Kd.C_drew ?_)));(case side2=>exact HC0_1.out);rintro e w49 ⟨rfl,hb⟩;refine ⟨_,rfl,?_⟩;have n0_:=Aside0.mk (blk_below (g:=gb308) (o:=.cells #[.int .i64 a0_0,.slice A0_1 l0_1.length c0_1] 30 (0,0)) (by exact BK308.out) hb);have n1_:=Aside0.mk (blk_below (g:=gb309) (o:=.cells #[.int .i64 a1_0,.int .i64 a1_1,.int .i64 a1_2] 56 (0,0)) (by exact BK309.out) hb);have n2_:=Aside0.mk (below_step (by exact HB.out) hb);clear BK308;clear BK309;clear HB;have BK308:=n0_;have BK309:=n1_;have HB:=n2_;clear n0_ n1_ n2_;(try clear hb);(try clear hb2);(try clear hk);(try clear hi)))
 go_ret
 exact ⟨by first|rfl|(simp [errW_none,errW_some] <;> rfl)|(simp [*,errW_none,errW_some] <;> rfl),by exact HB.out⟩
end Go.Proofs.Ytpdnabhpkdchjaa.P
namespace Go.Proofs.Ytpdnabhpkdchjaa.P
open Go.RowKit Go.Proofs.YtpdnabhpkdchjaaW.PrintWords Go.Proofs.YtpdnabhpkdchjaaW.PrintLast
set_option linter.unusedVariables false
set_option linter.unusedSimpArgs false
def eventOk (n : Int) (l : List S88) (op of dir : Int) : Bool :=
  if layoutOk n l = 0 then
    if op = 1 ∨ op = 2 then decide (0 ≤ of) && decide (of < l.length) && (decide (dir = 1) || decide (dir = -1))
    else if op = 3 ∨ op = 4 then decide (0 ≤ of) && decide (of < l.length) && decide (dir = 0)
    else if op = 5 then decide (0 ≤ of) && decide (of < n) && decide (dir = 0)
    else false
  else false
theorem beq_dec (a b : Int) : (a == b) = decide (a = b) := by by_cases h : a = b <;> simp [h]
theorem lay_n {n : Int} {l : List S88} (h : layoutOk n l = 0) : 1 ≤ n ∧ n ≤ 60 ∧ l.length ≤ 120 := by
  unfold layoutOk at h
  split at h
  · cases h
  · split at h
    · cases h
    · split at h
      · cases h
      · omega
theorem dec_le_pred (a b : Int) : decide (a ≤ b - 1) = decide (a < b) := by
  by_cases h : a < b
  · rw [decide_eq_true h, decide_eq_true (by omega)]
  · rw [decide_eq_false h, decide_eq_false (by omega)]
theorem specEventOk_ev (n : Int) (l : List S88) (op of dir : Int) : Ev (fun k => spec_EventOk.f k n l op of dir) (eventOk n l op of dir) := by
  unfold spec_EventOk.f
  refine Ev.bind (specLayoutOk_ev n l) ?_
  by_cases hl : layoutOk n l = 0
  · refine Ev.ite_pos hl ?_
    obtain ⟨hn1, hn2, hc⟩ := lay_n hl
    have w1 : wrap64 ((l.length : Int) - 1) = l.length - 1 := wrap_id (by omega) (by omega)
    have w2 : wrap64 (n - 1) = n - 1 := wrap_id (by omega) (by omega)
    have key : ∀ b : Bool, (b = true ↔ (op = 1 ∨ op = 2)) → Ev (fun k => spec_EventOk.j0 k op b n l op of dir) (eventOk n l op of dir) := by
      intro b hb
      by_cases h12 : op = 1 ∨ op = 2
      · refine Ev.step1 fun k => ?_
        simp only [spec_EventOk.j0, l1in_eq, Option.bind_some, w1, w2, dec_le_pred]
        rw [if_pos (hb.2 h12), eventOk, if_pos hl, if_pos h12]
        by_cases hr : (decide (0 ≤ of) && decide (of < l.length)) = true
        · rw [if_pos hr, hr]
          by_cases hd : dir = 1
          · simp [hd]
          · rw [if_neg hd]; simp [hd, beq_dec]
        · have hr' : (decide (0 ≤ of) && decide (of < l.length)) = false := by simpa using hr
          rw [if_neg hr, hr']; rfl
      · have key2 : ∀ b2 : Bool, (b2 = true ↔ (op = 3 ∨ op = 4)) → Ev (fun k => spec_EventOk.j1 k op b2 n l op of dir) (eventOk n l op of dir) := by
          intro b2 hb2
          refine Ev.step1 fun k => ?_
          simp only [spec_EventOk.j1, l1in_eq, Option.bind_some, w1, w2, dec_le_pred]
          rw [eventOk, if_pos hl, if_neg h12]
          by_cases h34 : op = 3 ∨ op = 4
          · rw [if_pos (hb2.2 h34), if_pos h34]
            by_cases hr : (decide (0 ≤ of) && decide (of < l.length)) = true
            · rw [if_pos hr, hr]; simp [beq_dec]
            · have hr' : (decide (0 ≤ of) && decide (of < l.length)) = false := by simpa using hr
              rw [if_neg hr, hr']; rfl
          · rw [if_neg (fun h => h34 (hb2.1 h)), if_neg h34]
            by_cases h5 : op = 5
            · rw [if_pos h5, if_pos h5]
              by_cases hr : (decide (0 ≤ of) && decide (of < n)) = true
              · rw [if_pos hr, hr]; simp [beq_dec]
              · have hr' : (decide (0 ≤ of) && decide (of < n)) = false := by simpa using hr
                rw [if_neg hr, hr']; rfl
            · rw [if_neg h5, if_neg h5]
        by_cases h3 : op = 3
        · refine Ev.step (fun k => ?_) (key2 (op == 3) (by simp [h3]))
          simp only [spec_EventOk.j0]
          rw [if_neg (fun h => h12 (hb.1 h)), if_pos h3]
        · refine Ev.step (fun k => ?_) (key2 (op == 4) (by simp [h3]))
          simp only [spec_EventOk.j0]
          rw [if_neg (fun h => h12 (hb.1 h)), if_neg h3]
    by_cases h1 : op = 1
    · exact Ev.ite_pos h1 (key _ (by simp [h1]))
    · exact Ev.ite_neg h1 (key _ (by simp [h1]))
  · refine Ev.ite_neg hl ?_
    rw [eventOk, if_neg hl]
    exact Ev.now _
theorem implEventOk_ev (n : Int) (l : List S88) (op of dir : Int) : Ev (fun k => impl_EventOk.f k n l op of dir) (eventOk n l op of dir) := by
  unfold impl_EventOk.f
  refine Ev.call (a := layoutOk n l) rfl ?_
  by_cases hl : layoutOk n l = 0
  · refine Ev.ite_pos hl ?_
    have key : ∀ b : Bool, b = (decide (0 ≤ of) && decide (of < l.length)) → Ev (fun k => impl_EventOk.j0 k b n l op of dir) (eventOk n l op of dir) := by
      intro b hb
      have k1 : ∀ b1 : Bool, (b1 = true ↔ (op = 1 ∨ op = 2)) → Ev (fun k => impl_EventOk.j1 k b op b1 n l op of dir) (eventOk n l op of dir) := by
        intro b1 hb1
        by_cases h12 : op = 1 ∨ op = 2
        · refine Ev.step1 fun k => ?_
          simp only [impl_EventOk.j1]
          rw [if_pos (hb1.2 h12), eventOk, if_pos hl, if_pos h12, ← hb]
          cases b with
          | true =>
            by_cases hd : dir = 1
            · simp [hd]
            · simp [hd, beq_dec]
          | false => rfl
        · have k2 : ∀ b2 : Bool, (b2 = true ↔ (op = 3 ∨ op = 4)) → Ev (fun k => impl_EventOk.j2 k b op b2 n l op of dir) (eventOk n l op of dir) := by
            intro b2 hb2
            refine Ev.step1 fun k => ?_
            simp only [impl_EventOk.j2]
            rw [eventOk, if_pos hl, if_neg h12, ← hb]
            by_cases h34 : op = 3 ∨ op = 4
            · rw [if_pos (hb2.2 h34), if_pos h34]
              cases b <;> simp [beq_dec]
            · rw [if_neg (fun h => h34 (hb2.1 h)), if_neg h34]
              by_cases h5 : op = 5
              · rw [if_pos h5, if_pos h5]
                by_cases h0 : of ≥ 0
                · rw [if_pos h0]
                  by_cases h6 : of < n
                  · rw [if_pos h6]; simp [beq_dec, h6, h0]
                  · rw [if_neg h6]; simp [h6]
                · rw [if_neg h0]; simp [show ¬ 0 ≤ of from h0]
              · rw [if_neg h5, if_neg h5]
          by_cases h3 : op = 3
          · refine Ev.step (fun k => ?_) (k2 (op == 3) (by simp [h3]))
            simp only [impl_EventOk.j1]
            rw [if_neg (fun h => h12 (hb1.1 h)), if_pos h3]
          · refine Ev.step (fun k => ?_) (k2 (op == 4) (by simp [h3]))
            simp only [impl_EventOk.j1]
            rw [if_neg (fun h => h12 (hb1.1 h)), if_neg h3]
      by_cases h1 : op = 1
      · refine Ev.step (fun k => ?_) (k1 (op == 1) (by simp [h1]))
        simp only [impl_EventOk.j0]
        rw [if_pos h1]
      · refine Ev.step (fun k => ?_) (k1 (op == 2) (by simp [h1]))
        simp only [impl_EventOk.j0]
        rw [if_neg h1]
    by_cases h0 : of ≥ 0
    · exact Ev.ite_pos h0 (key _ (by simp [show (0 : Int) ≤ of from h0]))
    · exact Ev.ite_neg h0 (key _ (by simp [show ¬ (0 : Int) ≤ of from h0]))
  · refine Ev.ite_neg hl ?_
    rw [eventOk, if_neg hl]
    exact Ev.now _
end Go.Proofs.Ytpdnabhpkdchjaa.P
namespace Go.Proofs.Ytpdnabhpkdchjaa.P
open Go.RowKit Go.Proofs.YtpdnabhpkdchjaaW.PrintWords Go.Proofs.YtpdnabhpkdchjaaW.PrintLast Go.Proofs.YtpdnabhpkdchjaaW.PrintMore
attribute [local go_sem] max2_int min2_int max_two min_two max_three min_three max_four min_four
set_option linter.unusedVariables false
set_option linter.unusedSimpArgs false
def spec_Begin.f (k:Nat) (a0_0:Int) (l0_1:List (S88)):Option (Bool × (List (S50)) × List Bool):=(spec_LayoutOk.f k a0_0 l0_1).bind fun t210=>(if t210=0 then (if 0≤a0_0 then (if (a0_0:Int).toNat≤8796093022208 then (if 0≤(l0_1.length:Int) then (if ((l0_1.length:Int):Int).toNat≤281474976710656 then (some (true,(List.replicate (a0_0:Int).toNat z50),(List.replicate ((l0_1.length:Int):Int).toNat false))) else (none)) else (none)) else (none)) else (none)) else (some (false,([]:List (S50)),([]:List Bool))))
def spec_Begin.T3:Bool × List (List Nat × List Nat):=(true,[([],[]),([0],[0]),([1,1],[1]),([],[]),([3],[3]),([4],[4]),([5,5],[5]),([2,6],[2,6]),([7,0,1,2,3,4,5,6,7],[7])])
def spec_Begin.B3:List Nat:=[0,1,3,0,8,24,56,127,255]
theorem spec_Begin.tab3:rtab .any (opsOf Try.f43 3)=spec_Begin.T3:=by kernel_rfl
theorem spec_Begin.bits3:waitsOk spec_Begin.T3.2 spec_Begin.B3=true:=by kernel_rfl
set_option maxHeartbeats 8000000 in
set_option maxRecDepth 100000 in
theorem spec_Begin.calls (k:Nat) (a0_0:Int) (A0_1:Option Addr) (c0_1:Nat) (l0_1:List (S88)) (r1:Bool) (r2:List (S50)) (r3:List Bool) (w:World) (hr0_1:Kd.C k88 w A0_1 l0_1.length l0_1) (hc0_1:l0_1.length≤c0_1) (h:spec_Begin.f k a0_0 l0_1=some (r1,r2,r3)) :
  Calls Try.prog 43 #[.agg #[.int .i64 a0_0,.slice A0_1 l0_1.length c0_1]] w fun e w'=>∃ v1_ v2_:Value,e=.returned (.agg #[.bool r1,v1_,v2_])∧Kd.R k50 50 w' w.heap.size (fun _=>True) v1_ r2∧Kd.R Kd.bool 4 w' w.heap.size (fun _=>True) v2_ r3∧Below w.heap.size w w':=by
 have hu30:=Try.underlying30
 have hu46:=Try.underlying46
 have HR0_1:=Aside0.mk hr0_1
 have HC0_1:=Aside0.mk hc0_1
 clear hr0_1 hc0_1
 have HB:=Aside0.mk (Below.refl w.heap.size w)
 have H:((spec_LayoutOk.f k a0_0 l0_1).bind fun t210=>(if t210=0 then (if 0≤a0_0 then (if (a0_0:Int).toNat≤8796093022208 then (if 0≤(l0_1.length:Int) then (if ((l0_1.length:Int):Int).toNat≤281474976710656 then (some (true,(List.replicate (a0_0:Int).toNat z50),(List.replicate ((l0_1.length:Int):Int).toNat false))) else (none)) else (none)) else (none)) else (none)) else (some (false,([]:List (S50)),([]:List Bool)))))=some (r1,r2,r3):=h
 clear h
 replace H:=Option.bind_eq_some_iff.mp H
 obtain ⟨t210,A20,H⟩:=H
 replace H:(if t210=0 then (if 0≤a0_0 then (if (a0_0:Int).toNat≤8796093022208 then (if 0≤(l0_1.length:Int) then (if ((l0_1.length:Int):Int).toNat≤281474976710656 then (some (true,(List.replicate (a0_0:Int).toNat z50),(List.replicate ((l0_1.length:Int):Int).toNat false))) else (none)) else (none)) else (none)) else (none)) else (some (false,([]:List (S50)),([]:List Bool))))=some (r1,r2,r3):=H
 have A2:=Aside0.mk A20
 clear A20
 by_cases c3:t210=0
 ·rw [if_pos c3] at H
  have c3b0:(t210==0)=true:=beq_iff_eq.mpr c3
  have c3b1:(t210 != 0)=false:=bne_eq_false_iff_eq.mpr c3
  clear c3
  by_cases c4:0≤a0_0
  ·rw [if_pos c4] at H
   have c4b0:=eq_true c4
   have c4b1:decide (0≤a0_0)=true:=decide_eq_true c4
   clear c4
   by_cases c5:(a0_0:Int).toNat≤8796093022208
   ·rw [if_pos c5] at H
    have c5b0:=eq_true c5
    have c5b1:decide ((a0_0:Int).toNat≤8796093022208)=true:=decide_eq_true c5
    clear c5
    obtain ⟨y211,hy211⟩:∃ y_:List (S50),y_=(List.replicate (a0_0:Int).toNat z50):=⟨_,rfl⟩
    replace H:(if 0≤(l0_1.length:Int) then (if ((l0_1.length:Int):Int).toNat≤281474976710656 then (some (true,y211,(List.replicate ((l0_1.length:Int):Int).toNat false))) else (none)) else (none))=some (r1,r2,r3):=by first|(rw [hy211];with_reducible exact H)|(have H2_:=(Option.bind_some _ _).symm.trans H;rw [hy211];with_reducible exact H2_)|(have H2_:=(Option.bind_some _ _).symm.trans H;with_reducible exact H2_)|with_reducible exact H|(rw [hy211];exact H)|exact H
    have Ny211:=Aside0.mk hy211
    clear hy211
    by_cases c6:0≤(l0_1.length:Int)
    ·rw [if_pos c6] at H
     have c6b0:=eq_true c6
     have c6b1:decide (0≤(l0_1.length:Int))=true:=decide_eq_true c6
     clear c6
     by_cases c7:((l0_1.length:Int):Int).toNat≤281474976710656
     ·rw [if_pos c7] at H
      have c7b0:=eq_true c7
      have c7b1:decide (((l0_1.length:Int):Int).toNat≤281474976710656)=true:=decide_eq_true c7
      clear c7
      obtain ⟨y214,hy214⟩:∃ y_:List Bool,y_=(List.replicate ((l0_1.length:Int):Int).toNat false):=⟨_,rfl⟩
      replace H:(some (true,y211,y214))=some (r1,r2,r3):=by first|(rw [hy214];with_reducible exact H)|(have H2_:=(Option.bind_some _ _).symm.trans H;rw [hy214];with_reducible exact H2_)|(have H2_:=(Option.bind_some _ _).symm.trans H;with_reducible exact H2_)|with_reducible exact H|(rw [hy214];exact H)|exact H
      have Ny214:=Aside0.mk hy214
      clear hy214
      simp only [Option.some.injEq,Prod.mk.injEq] at H
      obtain ⟨rfl,rfl,rfl⟩:=H
      go_enter Try.func43,Try.ntmps43
      try go_wp2_with (first|((with_reducible refine gate_dst (N:=1) rfl ?_);refine box_event ?hg (N:=1) ?hd (cs:=#[.int .i64 a0_0,.slice A0_1 l0_1.length c0_1]) (t:=30) ?hr ?_;(case hd=>rfl);(case hg=>rfl);(case hr=>first|(go_simp;done)|(go_simp;rfl));intro gb208 hg w8 hbox hb;have n0_:=Aside0.mk (below_step (by exact HB.out) hb);have n1_:=Aside0.mk (hbox);have n2_:=Aside0.mk ((by rw [hg];exact (below_size (by exact HB.out)):w.heap.size≤gb208));have n3_:=Aside0.mk ((by rw [hg];exact (below_size (by exact HB.out)):w.heap.size≤gb208));clear HB;have HB:=n0_;have BK208:=n1_;have GW208:=n2_;have GE208:=n3_;clear n0_ n1_ n2_ n3_;clear hb hbox hg)|((with_reducible refine gate_dst (N:=2) rfl ?_);refine box_event ?hg (N:=2) ?hd (cs:=#[.bool false,.slice none 0 0,.slice none 0 0]) (t:=46) ?hr ?_;(case hd=>rfl);(case hg=>rfl);(case hr=>first|(go_simp;done)|(go_simp;rfl));intro gb209 hg w9 hbox hb;have n0_:=Aside0.mk (blk_below (g:=gb208) (o:=.cells #[.int .i64 a0_0,.slice A0_1 l0_1.length c0_1] 30 (0,0)) (by exact BK208.out) hb);have n1_:=Aside0.mk (below_step (by exact HB.out) hb);have n2_:=Aside0.mk (hbox);have n3_:=Aside0.mk ((by rw [hg];exact (below_size (by exact HB.out)):w.heap.size≤gb209));have n4_:=Aside0.mk ((by rw [hg];exact (below_size (by exact HB.out)):w.heap.size≤gb209));have n5_:=Aside0.mk ((by rw [hg];exact Nat.ne_of_lt (blk_lt (g:=gb208) (o:=.cells #[.int .i64 a0_0,.slice A0_1 l0_1.length c0_1] 30 (0,0)) (by exact BK208.out)):gb208 ≠ gb209));have n6_:=Aside0.mk ((by rw [hg];exact Nat.ne_of_gt (blk_lt (g:=gb208) (o:=.cells #[.int .i64 a0_0,.slice A0_1 l0_1.length c0_1] 30 (0,0)) (by exact BK208.out)):gb209 ≠ gb208));clear BK208;clear HB;have BK208:=n0_;have HB:=n1_;have BK209:=n2_;have GW209:=n3_;have GE209:=n4_;have NB208_209:=n5_;have NB209_208:=n6_;clear n0_ n1_ n2_ n3_ n4_ n5_ n6_;clear hb hbox hg;have hnb10:=NB208_209.out;have hnc10:=NB209_208.out;have hcz11_0:w9.cell? ⟨gb208,0,none⟩=some (.int .i64 a0_0):=(blk_cell BK208.out 0).trans rfl;have hcz11_1:w9.cell? ⟨gb208,1,none⟩=some (.slice A0_1 l0_1.length c0_1):=(blk_cell BK208.out 1).trans rfl;have hfz11_0:=blk_frozen BK208.out 0;have hfz11_1:=blk_frozen BK208.out 1)|((with_reducible refine gate_callee (f:=23) rfl ?_);refine goesL_ (some 4) rfl rfl Try.func23 (by kernel_rfl) rfl #[.agg #[.int .i64 a0_0,.slice A0_1 l0_1.length c0_1]] rfl (by (try simp only [List.map_toArray,List.map_cons,List.map_nil]);first|done|rfl|(simp only [List.length_drop,List.length_take];rfl)) ?_;(with_reducible refine (spec_LayoutOk.calls k a0_0 _ _ l0_1 t210 _ ?side1 ?side2 A2.out).mono ?_);(case side1=>repeat (first|exact (Kd.C_below HR0_1.out HB.out)|(with_reducible refine Kd.C_alloc ?_ _)|(with_reducible refine Kd.C_drewN ?_ _)|(with_reducible refine Kd.C_drew ?_)));(case side2=>exact HC0_1.out);rintro e w12 ⟨rfl,hb⟩;refine ⟨_,rfl,?_⟩;have n0_:=Aside0.mk (blk_below (g:=gb208) (o:=.cells #[.int .i64 a0_0,.slice A0_1 l0_1.length c0_1] 30 (0,0)) (by exact BK208.out) hb);have n1_:=Aside0.mk (blk_below (g:=gb209) (o:=.cells #[.bool false,.slice none 0 0,.slice none 0 0] 46 (0,0)) (by exact BK209.out) hb);have n2_:=Aside0.mk (below_step (by exact HB.out) hb);clear BK208;clear BK209;clear HB;have BK208:=n0_;have BK209:=n1_;have HB:=n2_;clear n0_ n1_ n2_;(try clear hb);(try clear hb2);(try clear hk);(try clear hi)))
      have n0_:=Aside0.mk (blk_drew BK208.out)
      have n1_:=Aside0.mk (blk_drew BK209.out)
      have n2_:=Aside0.mk (below_drew1 HB.out)
      clear BK208
      clear BK209
      clear HB
      have BK208:=n0_
      have BK209:=n1_
      have HB:=n2_
      clear n0_ n1_ n2_
      refine start_ (n:=9) (S:=fun w'=>w'.cell? ⟨gb208,0,none⟩=some (.int .i64 a0_0)∧w'.cell? ⟨gb208,1,none⟩=some (.slice A0_1 l0_1.length c0_1)) (ds:=[]) #[false,false,false,false,false,false,false,false,false] (by kernel_rfl) rfl rfl ⟨(blk_cell BK208.out 0).trans rfl,(blk_cell BK208.out 1).trans rfl⟩ (fun hHeld=>?_);refine with_tabW spec_Begin.tab3 spec_Begin.bits3 (fun HT_ HW_=>?_)
      generalize w12.drew=w13 at BK208 BK209 HB hHeld ⊢
      refine pure_ (i:=0) (N:=some 7) (v:=?_) (a':=?_) #[true,false,false,false,false,false,false,false,false] rfl rfl (any_of HT_.out (by kernel_rfl)) (fun _ _ _ h=>h) (Or.inl ⟨by rfl,?_⟩) ?_ ?_
      rotate_left
      ·intro w'
       go_simp
       with_reducible rfl
      rotate_left
      ·simp only [Act.put,List.setIfInBounds_toArray,List.set_cons_zero,List.set_cons_succ,i64_w,i32_w]
       rfl
      refine pure_ (i:=3) (N:=some 10) (v:=?_) (a':=?_) #[true,false,false,true,false,false,false,false,false] rfl rfl (any_of HT_.out (by kernel_rfl)) (fun _ _ _ h=>h) (Or.inl ⟨by rfl,?_⟩) ?_ ?_
      rotate_left
      ·intro w'
       go_simp
       with_reducible rfl
      rotate_left
      ·simp only [Act.put,List.setIfInBounds_toArray,List.set_cons_zero,List.set_cons_succ,i64_w,i32_w]
       rfl
      refine take_ (i:=1) (N:=some 8) (v:=?_) (a':=?_) #[true,true,false,true,false,false,false,false,false] rfl rfl (take_ofW HT_.out HW_.out (by kernel_rfl)) (fun _ _ _ h=>h) (Or.inl ⟨by rfl,?_⟩) hHeld ?_ ?_
      rotate_left
      ·rintro w' ⟨s0,s1⟩
       go_simp
       with_reducible rfl
      rotate_left
      ·simp only [Act.put,List.setIfInBounds_toArray,List.set_cons_zero,List.set_cons_succ,i64_w,i32_w]
       rfl
      refine take_ (i:=4) (N:=some 11) (v:=?_) (a':=?_) #[true,true,false,true,true,false,false,false,false] rfl rfl (take_ofW HT_.out HW_.out (by kernel_rfl)) (fun _ _ _ h=>h) (Or.inl ⟨by rfl,?_⟩) hHeld ?_ ?_
      rotate_left
      ·rintro w' ⟨s0,s1⟩
       go_simp
       with_reducible rfl
      rotate_left
      ·simp only [Act.put,List.setIfInBounds_toArray,List.set_cons_zero,List.set_cons_succ,i64_w,i32_w]
       rfl
      refine pure_ (i:=5) (N:=some 12) (v:=?_) (a':=?_) #[true,true,false,true,true,true,false,false,false] rfl rfl (any_of HT_.out (by kernel_rfl)) (fun _ _ _ h=>h) (Or.inl ⟨by rfl,?_⟩) ?_ ?_
      rotate_left
      ·intro w'
       go_simp
       with_reducible rfl
      rotate_left
      ·simp only [Act.put,List.setIfInBounds_toArray,List.set_cons_zero,List.set_cons_succ,i64_w,i32_w]
       rfl
      refine join_ (σ:=Value × Value) 2 #[true,true,true,true,true,true,true,false,false] (fun s_=>[(9,s_.1),(13,s_.2)]) (fun s_ w'=>(w'.cell? ⟨gb208,0,none⟩=some (.int .i64 a0_0)∧w'.cell? ⟨gb208,1,none⟩=some (.slice A0_1 l0_1.length c0_1))∧(Kd.R k50 50 w' w.heap.size (fun _=>True) s_.1 y211)∧(Kd.R Kd.bool 4 w' w.heap.size (fun _=>True) s_.2 y214)∧(w'.heap[gb208]?=some (.cells #[.int .i64 a0_0,.slice A0_1 l0_1.length c0_1] 30 (0,0)))∧(w'.heap[gb209]?=some (.cells #[.bool false,.slice none 0 0,.slice none 0 0] 46 (0,0)))∧(Below w.heap.size w w')) ?_ ?_
      rotate_left
      ·intro hCont
       refine two_ (i:=2) (j:=6) (Ni:=some 9) (Nj:=some 13) #[true,true,true,true,true,true,false,false,false] #[true,true,false,true,true,true,true,false,false] rfl rfl rfl rfl (two_of HT_.out (by kernel_rfl)) (by decide) (by decide) (fun K hK=>?_) (fun K hK=>?_)
       ·skip
        refine Kd.R_make_step k50 _ 50 (by rfl) (N:=9) rfl 43 _ _ rfl a0_0 rfl rfl Try.underlying43 (.agg #[(.int .i64 0),(.int .i64 0),(.bool false),(.bool false),(.int .i64 0)]) 32 info50 rfl (by decide) (by omega) z50 (ok:=fun _=>True) (okp:=fun _=>True) (k50_mkM _ _ _ z50 ) (fun _ hk=>hk) trivial (of_decide_eq_true (by first|(with_reducible assumption)|assumption)) (Nat.le_trans (Nat.mul_le_mul_right _ (of_decide_eq_true (by first|(with_reducible assumption)|assumption):a0_0.toNat≤8796093022208)) (by omega)) (Below.refl _ _) (Nat.le_refl _) ?_
        intro v212 w14 ho15 hb hg_ hnew_
        clear hg_ hnew_
        (first|rw [← Ny211.out] at ho15|(simp only [Int.reduceToNat] at ho15;rw [← Ny211.out] at ho15))
        have n0_:=Aside0.mk (Kd.R_lower ho15 (below_size (by exact HB.out)))
        have n1_:=Aside0.mk (blk_below (g:=gb208) (o:=.cells #[.int .i64 a0_0,.slice A0_1 l0_1.length c0_1] 30 (0,0)) (by exact BK208.out) hb)
        have n2_:=Aside0.mk (blk_below (g:=gb209) (o:=.cells #[.bool false,.slice none 0 0,.slice none 0 0] 46 (0,0)) (by exact BK209.out) hb)
        have n3_:=Aside0.mk (below_step (by exact HB.out) hb)
        clear BK208
        clear BK209
        clear HB
        have HO213:=n0_
        have BK208:=n1_
        have BK209:=n2_
        have HB:=n3_
        clear n0_ n1_ n2_ n3_
        clear hb ho15
        refine hK.out _ _ ⟨(blk_cell BK208.out 0).trans rfl,(blk_cell BK208.out 1).trans rfl⟩ (fun hHeld=>?_)
        clear hK K
        refine norm_ (a':=?_) ?_ ?_
        rotate_left
        ·show Act.put _ (some 9) _=_
         simp only [Act.put,List.setIfInBounds_toArray,List.set_cons_zero,List.set_cons_succ,i64_w,i32_w]
         rfl
        refine one_ (i:=6) (N:=some 13) #[true,true,true,true,true,true,true,false,false] rfl rfl (one_of HT_.out (by kernel_rfl)) (by decide) (fun K hK=>?_)
        refine Kd.R_make_step Kd.bool _ 4 (by rfl) (N:=13) rfl 44 _ _ rfl (l0_1.length:Int) rfl rfl Try.underlying44 (.bool false) 1 info4 rfl (by decide) (by omega) false (ok:=fun _=>True) (okp:=fun _=>True) rfl (fun _ hk=>hk) trivial (of_decide_eq_true (by first|(with_reducible assumption)|assumption)) (Nat.le_trans (Nat.mul_le_mul_right _ (of_decide_eq_true (by first|(with_reducible assumption)|assumption):(l0_1.length:Int).toNat≤281474976710656)) (by omega)) (Below.refl _ _) (Nat.le_refl _) ?_
        intro v215 w16 ho17 hb hg_ hnew_
        clear hg_ hnew_
        (first|rw [← Ny214.out] at ho17|(simp only [Int.reduceToNat] at ho17;rw [← Ny214.out] at ho17))
        have n0_:=Aside0.mk (Kd.R_below (by exact HO213.out) hb)
        have n1_:=Aside0.mk (Kd.R_lower ho17 (below_size (by exact HB.out)))
        have n2_:=Aside0.mk (blk_below (g:=gb208) (o:=.cells #[.int .i64 a0_0,.slice A0_1 l0_1.length c0_1] 30 (0,0)) (by exact BK208.out) hb)
        have n3_:=Aside0.mk (blk_below (g:=gb209) (o:=.cells #[.bool false,.slice none 0 0,.slice none 0 0] 46 (0,0)) (by exact BK209.out) hb)
        have n4_:=Aside0.mk (below_step (by exact HB.out) hb)
        clear HO213
        clear BK208
        clear BK209
        clear HB
        have HO213:=n0_
        have HO216:=n1_
        have BK208:=n2_
        have BK209:=n3_
        have HB:=n4_
        clear n0_ n1_ n2_ n3_ n4_
        clear hb ho17
        obtain ⟨Ao18,co18,eo18⟩:=Kd.R_slice HO216.out
        (first|subst eo18|(injection eo18 with f1_ f2_ f3_;have f4_:=f1_.symm;have f5_:=f3_.symm;clear f1_ f2_ f3_;subst f4_;subst f5_))
        obtain ⟨Ao19,co19,eo19⟩:=Kd.R_slice HO213.out
        (first|subst eo19|(injection eo19 with f1_ f2_ f3_;have f4_:=f1_.symm;have f5_:=f3_.symm;clear f1_ f2_ f3_;subst f4_;subst f5_))
        refine hK.out _ _ ⟨(blk_cell BK208.out 0).trans rfl,(blk_cell BK208.out 1).trans rfl⟩ (fun hHeld=>?_)
        clear hK K
        refine norm_ (a':=?_) ?_ ?_
        rotate_left
        ·show Act.put _ (some 13) _=_
         simp only [Act.put,List.setIfInBounds_toArray,List.set_cons_zero,List.set_cons_succ,i64_w,i32_w]
         rfl
        exact norm_ (by simp only [putAll,Act.put,List.setIfInBounds_toArray,List.set_cons_zero,List.set_cons_succ]) (hCont (.slice Ao19 y211.length co19,.slice Ao18 y214.length co18) _ ⟨hHeld,(by exact HO213.out),(by exact HO216.out),(by exact BK208.out),(by exact BK209.out),(by exact HB.out)⟩)
       skip
       refine Kd.R_make_step Kd.bool _ 4 (by rfl) (N:=13) rfl 44 _ _ rfl (l0_1.length:Int) rfl rfl Try.underlying44 (.bool false) 1 info4 rfl (by decide) (by omega) false (ok:=fun _=>True) (okp:=fun _=>True) rfl (fun _ hk=>hk) trivial (of_decide_eq_true (by first|(with_reducible assumption)|assumption)) (Nat.le_trans (Nat.mul_le_mul_right _ (of_decide_eq_true (by first|(with_reducible assumption)|assumption):(l0_1.length:Int).toNat≤281474976710656)) (by omega)) (Below.refl _ _) (Nat.le_refl _) ?_
       intro v215 w14 ho15 hb hg_ hnew_
       clear hg_ hnew_
       (first|rw [← Ny214.out] at ho15|(simp only [Int.reduceToNat] at ho15;rw [← Ny214.out] at ho15))
       have n0_:=Aside0.mk (Kd.R_lower ho15 (below_size (by exact HB.out)))
       have n1_:=Aside0.mk (blk_below (g:=gb208) (o:=.cells #[.int .i64 a0_0,.slice A0_1 l0_1.length c0_1] 30 (0,0)) (by exact BK208.out) hb)
       have n2_:=Aside0.mk (blk_below (g:=gb209) (o:=.cells #[.bool false,.slice none 0 0,.slice none 0 0] 46 (0,0)) (by exact BK209.out) hb)
       have n3_:=Aside0.mk (below_step (by exact HB.out) hb)
       clear BK208
       clear BK209
       clear HB
       have HO216:=n0_
       have BK208:=n1_
       have BK209:=n2_
       have HB:=n3_
       clear n0_ n1_ n2_ n3_
       clear hb ho15
       refine hK.out _ _ ⟨(blk_cell BK208.out 0).trans rfl,(blk_cell BK208.out 1).trans rfl⟩ (fun hHeld=>?_)
       clear hK K
       refine norm_ (a':=?_) ?_ ?_
       rotate_left
       ·show Act.put _ (some 13) _=_
        simp only [Act.put,List.setIfInBounds_toArray,List.set_cons_zero,List.set_cons_succ,i64_w,i32_w]
        rfl
       refine one_ (i:=2) (N:=some 9) #[true,true,true,true,true,true,true,false,false] rfl rfl (one_of HT_.out (by kernel_rfl)) (by decide) (fun K hK=>?_)
       refine Kd.R_make_step k50 _ 50 (by rfl) (N:=9) rfl 43 _ _ rfl a0_0 rfl rfl Try.underlying43 (.agg #[(.int .i64 0),(.int .i64 0),(.bool false),(.bool false),(.int .i64 0)]) 32 info50 rfl (by decide) (by omega) z50 (ok:=fun _=>True) (okp:=fun _=>True) (k50_mkM _ _ _ z50 ) (fun _ hk=>hk) trivial (of_decide_eq_true (by first|(with_reducible assumption)|assumption)) (Nat.le_trans (Nat.mul_le_mul_right _ (of_decide_eq_true (by first|(with_reducible assumption)|assumption):a0_0.toNat≤8796093022208)) (by omega)) (Below.refl _ _) (Nat.le_refl _) ?_
       intro v212 w16 ho17 hb hg_ hnew_
       clear hg_ hnew_
       (first|rw [← Ny211.out] at ho17|(simp only [Int.reduceToNat] at ho17;rw [← Ny211.out] at ho17))
       have n0_:=Aside0.mk (Kd.R_below (by exact HO216.out) hb)
       have n1_:=Aside0.mk (Kd.R_lower ho17 (below_size (by exact HB.out)))
       have n2_:=Aside0.mk (blk_below (g:=gb208) (o:=.cells #[.int .i64 a0_0,.slice A0_1 l0_1.length c0_1] 30 (0,0)) (by exact BK208.out) hb)
       have n3_:=Aside0.mk (blk_below (g:=gb209) (o:=.cells #[.bool false,.slice none 0 0,.slice none 0 0] 46 (0,0)) (by exact BK209.out) hb)
       have n4_:=Aside0.mk (below_step (by exact HB.out) hb)
       clear HO216
       clear BK208
       clear BK209
       clear HB
       have HO216:=n0_
       have HO213:=n1_
       have BK208:=n2_
       have BK209:=n3_
       have HB:=n4_
       clear n0_ n1_ n2_ n3_ n4_
       clear hb ho17
       obtain ⟨Ao18,co18,eo18⟩:=Kd.R_slice HO216.out
       (first|subst eo18|(injection eo18 with f1_ f2_ f3_;have f4_:=f1_.symm;have f5_:=f3_.symm;clear f1_ f2_ f3_;subst f4_;subst f5_))
       obtain ⟨Ao19,co19,eo19⟩:=Kd.R_slice HO213.out
       (first|subst eo19|(injection eo19 with f1_ f2_ f3_;have f4_:=f1_.symm;have f5_:=f3_.symm;clear f1_ f2_ f3_;subst f4_;subst f5_))
       refine hK.out _ _ ⟨(blk_cell BK208.out 0).trans rfl,(blk_cell BK208.out 1).trans rfl⟩ (fun hHeld=>?_)
       clear hK K
       refine norm_ (a':=?_) ?_ ?_
       rotate_left
       ·show Act.put _ (some 9) _=_
        simp only [Act.put,List.setIfInBounds_toArray,List.set_cons_zero,List.set_cons_succ,i64_w,i32_w]
        rfl
       exact norm_ (by simp only [putAll,Act.put,List.setIfInBounds_toArray,List.set_cons_zero,List.set_cons_succ]) (hCont (.slice Ao19 y211.length co19,.slice Ao18 y214.length co18) _ ⟨hHeld,(by exact HO213.out),(by exact HO216.out),(by exact BK208.out),(by exact BK209.out),(by exact HB.out)⟩)
      rintro ⟨v212,v215⟩ w20 ⟨hS_,h0_,h1_,h2_,h3_,h4_⟩
      have n0_:Aside0 (Kd.R k50 50 w20 w.heap.size (fun _=>True) v212 y211):=⟨h0_⟩
      have n1_:Aside0 (Kd.R Kd.bool 4 w20 w.heap.size (fun _=>True) v215 y214):=⟨h1_⟩
      have n2_:Aside0 (w20.heap[gb208]?=some (.cells #[.int .i64 a0_0,.slice A0_1 l0_1.length c0_1] 30 (0,0))):=⟨h2_⟩
      have n3_:Aside0 (w20.heap[gb209]?=some (.cells #[.bool false,.slice none 0 0,.slice none 0 0] 46 (0,0))):=⟨h3_⟩
      have n4_:Aside0 (Below w.heap.size w w20):=⟨h4_⟩
      clear BK208
      clear BK209
      clear HB
      clear h0_ h1_ h2_ h3_ h4_
      have HO213:=n0_
      have HO216:=n1_
      have BK208:=n2_
      have BK209:=n3_
      have HB:=n4_
      clear n0_ n1_ n2_ n3_ n4_
      have hHeld:w20.cell? ⟨gb208,0,none⟩=some (.int .i64 a0_0)∧w20.cell? ⟨gb208,1,none⟩=some (.slice A0_1 l0_1.length c0_1):=hS_
      obtain ⟨Ao21,co21,eo21⟩:=Kd.R_slice HO216.out
      (first|subst eo21|(injection eo21 with f1_ f2_ f3_;have f4_:=f1_.symm;have f5_:=f3_.symm;clear f1_ f2_ f3_;subst f4_;subst f5_))
      obtain ⟨Ao22,co22,eo22⟩:=Kd.R_slice HO213.out
      (first|subst eo22|(injection eo22 with f1_ f2_ f3_;have f4_:=f1_.symm;have f5_:=f3_.symm;clear f1_ f2_ f3_;subst f4_;subst f5_))
      refine norm_ (a':=?_) ?_ ?_
      rotate_left
      ·simp only [putAll,Act.put,List.setIfInBounds_toArray,List.set_cons_zero,List.set_cons_succ]
       rfl
      refine pure_ (i:=7) (N:=some 14) (v:=?_) (a':=?_) #[true,true,true,true,true,true,true,true,false] rfl rfl (any_of HT_.out (by kernel_rfl)) (fun _ _ _ h=>h) (Or.inl ⟨by rfl,?_⟩) ?_ ?_
      rotate_left
      ·intro w'
       go_simp
       with_reducible rfl
      rotate_left
      ·simp only [Act.put,List.setIfInBounds_toArray,List.set_cons_zero,List.set_cons_succ,i64_w,i32_w]
       rfl
      refine one_ (i:=8) (N:=none) #[true,true,true,true,true,true,true,true,true] rfl rfl (one_of HT_.out (by kernel_rfl)) (by decide) (fun K hK=>?_)
      have hs23:w20.cell? ⟨gb209,0,none⟩=some (.bool false):=(blk_cell BK209.out 0).trans rfl
      have hfs23:=blk_frozen BK209.out 0
      have hns23_0:=NB208_209.out
      have hms23_0:=NB209_208.out
      have hs24:w20.cell? ⟨gb209,1,none⟩=some (.slice none 0 0):=(blk_cell BK209.out 1).trans rfl
      have hfs24:=blk_frozen BK209.out 1
      have hns24_0:=NB208_209.out
      have hms24_0:=NB209_208.out
      have hs25:w20.cell? ⟨gb209,2,none⟩=some (.slice none 0 0):=(blk_cell BK209.out 2).trans rfl
      have hfs25:=blk_frozen BK209.out 2
      have hns25_0:=NB208_209.out
      have hms25_0:=NB209_208.out
      refine skip_ (w1:=?_) (by rfl) rfl ?_ ?_
      rotate_left
      ·go_simp
       rfl
      refine hK.out _ _ ⟨((cell_far (p:=⟨gb209,_,none⟩) NB208_209.out _).trans (((cell_far (p:=⟨gb209,_,none⟩) NB208_209.out _).trans (((cell_far (p:=⟨gb209,_,none⟩) NB208_209.out _).trans (hHeld.1)))))),((cell_far (p:=⟨gb209,_,none⟩) NB208_209.out _).trans (((cell_far (p:=⟨gb209,_,none⟩) NB208_209.out _).trans (((cell_far (p:=⟨gb209,_,none⟩) NB208_209.out _).trans (hHeld.2))))))⟩ (fun hHeld=>?_)
      clear hK K
      refine done_ (done_of HT_.out (by kernel_rfl)) ?_
      try go_wp2
      refine bodyPost_ret (results_cell_row rfl _ _ gb209 46 #[.bool true,.slice Ao22 y211.length co22,.slice Ao21 y214.length co21] (0,0) _ rfl (by refine blk_put (cs:=#[.bool true,.slice Ao22 y211.length co22,.slice none 0 0]) ?_ 2 _ rfl;refine blk_put (cs:=#[.bool true,.slice none 0 0,.slice none 0 0]) ?_ 1 _ rfl;refine blk_put (cs:=#[.bool false,.slice none 0 0,.slice none 0 0]) ?_ 0 _ rfl;exact BK209.out) Try.underlying46 rfl (by kernel_rfl)) rfl ?_
      exact ⟨_,_,by first|rfl|(simp [errW_none,errW_some] <;> rfl)|(simp [*,errW_none,errW_some] <;> rfl),by (with_reducible repeat (first|apply Kd.R_alloc|apply Kd.R_drewN|apply Kd.R_drew));exact Kd.R_mono (Kd.R_far (p:=⟨gb209,2,none⟩) (Kd.R_far (p:=⟨gb209,1,none⟩) (Kd.R_far (p:=⟨gb209,0,none⟩) (Kd.R_types HO213.out BK209.out (by decide)) (fun _ hk=>hk.2) (.bool true)) (fun _ hk=>hk.2) (.slice Ao22 y211.length co22)) (fun _ hk=>hk.2) (.slice Ao21 y214.length co21)) (fun _ hk=>trivial),by (with_reducible repeat (first|apply Kd.R_alloc|apply Kd.R_drewN|apply Kd.R_drew));exact Kd.R_mono (Kd.R_far (p:=⟨gb209,2,none⟩) (Kd.R_far (p:=⟨gb209,1,none⟩) (Kd.R_far (p:=⟨gb209,0,none⟩) (Kd.R_types HO216.out BK209.out (by decide)) (fun _ hk=>hk.2) (.bool true)) (fun _ hk=>hk.2) (.slice Ao22 y211.length co22)) (fun _ hk=>hk.2) (.slice Ao21 y214.length co21)) (fun _ hk=>trivial),by repeat (first|(with_reducible first|exact HB.out|apply below_alloc|apply pw_below_drewN|apply below_drew1|refine below_set ?_ GE208.out|refine below_set ?_ GE209.out)|exact HB.out)⟩
     rw [if_neg c7] at H
     exact absurd H (by simp)
    rw [if_neg c6] at H
    exact absurd H (by simp)
   rw [if_neg c5] at H
   exact absurd H (by simp)
  rw [if_neg c4] at H
  exact absurd H (by simp)
 rw [if_neg c3] at H
 have c3b0:(t210==0)=false:=beq_eq_false_iff_ne.mpr c3
 have c3b1:(t210 != 0)=true:=bne_iff_ne.mpr c3
 simp only [Option.some.injEq,Prod.mk.injEq] at H
 obtain ⟨rfl,rfl,rfl⟩:=H
 go_enter Try.func43,Try.ntmps43
 go_wp2_with (first|((with_reducible refine gate_dst (N:=1) rfl ?_);refine box_event ?hg (N:=1) ?hd (cs:=#[.int .i64 a0_0,.slice A0_1 l0_1.length c0_1]) (t:=30) ?hr ?_;(case hd=>rfl);(case hg=>rfl);(case hr=>first|(go_simp;done)|(go_simp;rfl));intro gb208 hg w26 hbox hb;have n0_:=Aside0.mk (below_step (by exact HB.out) hb);have n1_:=Aside0.mk (hbox);have n2_:=Aside0.mk ((by rw [hg];exact (below_size (by exact HB.out)):w.heap.size≤gb208));have n3_:=Aside0.mk ((by rw [hg];exact (below_size (by exact HB.out)):w.heap.size≤gb208));clear HB;have HB:=n0_;have BK208:=n1_;have GW208:=n2_;have GE208:=n3_;clear n0_ n1_ n2_ n3_;clear hb hbox hg)|((with_reducible refine gate_dst (N:=2) rfl ?_);refine box_event ?hg (N:=2) ?hd (cs:=#[.bool false,.slice none 0 0,.slice none 0 0]) (t:=46) ?hr ?_;(case hd=>rfl);(case hg=>rfl);(case hr=>first|(go_simp;done)|(go_simp;rfl));intro gb209 hg w27 hbox hb;have n0_:=Aside0.mk (blk_below (g:=gb208) (o:=.cells #[.int .i64 a0_0,.slice A0_1 l0_1.length c0_1] 30 (0,0)) (by exact BK208.out) hb);have n1_:=Aside0.mk (below_step (by exact HB.out) hb);have n2_:=Aside0.mk (hbox);have n3_:=Aside0.mk ((by rw [hg];exact (below_size (by exact HB.out)):w.heap.size≤gb209));have n4_:=Aside0.mk ((by rw [hg];exact (below_size (by exact HB.out)):w.heap.size≤gb209));have n5_:=Aside0.mk ((by rw [hg];exact Nat.ne_of_lt (blk_lt (g:=gb208) (o:=.cells #[.int .i64 a0_0,.slice A0_1 l0_1.length c0_1] 30 (0,0)) (by exact BK208.out)):gb208 ≠ gb209));have n6_:=Aside0.mk ((by rw [hg];exact Nat.ne_of_gt (blk_lt (g:=gb208) (o:=.cells #[.int .i64 a0_0,.slice A0_1 l0_1.length c0_1] 30 (0,0)) (by exact BK208.out)):gb209 ≠ gb208));clear BK208;clear HB;have BK208:=n0_;have HB:=n1_;have BK209:=n2_;have GW209:=n3_;have GE209:=n4_;have NB208_209:=n5_;have NB209_208:=n6_;clear n0_ n1_ n2_ n3_ n4_ n5_ n6_;clear hb hbox hg;have hnb28:=NB208_209.out;have hnc28:=NB209_208.out;have hcz29_0:w27.cell? ⟨gb208,0,none⟩=some (.int .i64 a0_0):=(blk_cell BK208.out 0).trans rfl;have hcz29_1:w27.cell? ⟨gb208,1,none⟩=some (.slice A0_1 l0_1.length c0_1):=(blk_cell BK208.out 1).trans rfl;have hfz29_0:=blk_frozen BK208.out 0;have hfz29_1:=blk_frozen BK208.out 1)|((with_reducible refine gate_callee (f:=23) rfl ?_);refine goesL_ (some 4) rfl rfl Try.func23 (by kernel_rfl) rfl #[.agg #[.int .i64 a0_0,.slice A0_1 l0_1.length c0_1]] rfl (by (try simp only [List.map_toArray,List.map_cons,List.map_nil]);first|done|rfl|(simp only [List.length_drop,List.length_take];rfl)) ?_;(with_reducible refine (spec_LayoutOk.calls k a0_0 _ _ l0_1 t210 _ ?side1 ?side2 A2.out).mono ?_);(case side1=>repeat (first|exact (Kd.C_below HR0_1.out HB.out)|(with_reducible refine Kd.C_alloc ?_ _)|(with_reducible refine Kd.C_drewN ?_ _)|(with_reducible refine Kd.C_drew ?_)));(case side2=>exact HC0_1.out);rintro e w30 ⟨rfl,hb⟩;refine ⟨_,rfl,?_⟩;have n0_:=Aside0.mk (blk_below (g:=gb208) (o:=.cells #[.int .i64 a0_0,.slice A0_1 l0_1.length c0_1] 30 (0,0)) (by exact BK208.out) hb);have n1_:=Aside0.mk (blk_below (g:=gb209) (o:=.cells #[.bool false,.slice none 0 0,.slice none 0 0] 46 (0,0)) (by exact BK209.out) hb);have n2_:=Aside0.mk (below_step (by exact HB.out) hb);clear BK208;clear BK209;clear HB;have BK208:=n0_;have BK209:=n1_;have HB:=n2_;clear n0_ n1_ n2_;(try clear hb);(try clear hb2);(try clear hk);(try clear hi);have hcz31_0:w30.cell? ⟨gb209,0,none⟩=some (.bool false):=(blk_cell BK209.out 0).trans rfl;have hcz31_1:w30.cell? ⟨gb209,1,none⟩=some (.slice none 0 0):=(blk_cell BK209.out 1).trans rfl;have hcz31_2:w30.cell? ⟨gb209,2,none⟩=some (.slice none 0 0):=(blk_cell BK209.out 2).trans rfl;have hfz31_0:=blk_frozen BK209.out 0;have hfz31_1:=blk_frozen BK209.out 1;have hfz31_2:=blk_frozen BK209.out 2))
 refine bodyPost_ret (results_cell_row rfl _ _ gb209 46 #[.bool false,.slice none 0 0,.slice none 0 0] (0,0) _ rfl (by refine blk_put (cs:=#[.bool false,.slice none 0 0,.slice none 0 0]) ?_ 2 _ rfl;refine blk_put (cs:=#[.bool false,.slice none 0 0,.slice none 0 0]) ?_ 1 _ rfl;refine blk_put (cs:=#[.bool false,.slice none 0 0,.slice none 0 0]) ?_ 0 _ rfl;exact BK209.out) Try.underlying46 rfl (by kernel_rfl)) rfl ?_
 exact ⟨_,_,by first|rfl|(simp [errW_none,errW_some] <;> rfl)|(simp [*,errW_none,errW_some] <;> rfl),by first|exact Kd.R_nil _ _ _ _ _|exact Kd.N_nil _ _ _ _ _|exact Kd.V_nil _ _ _ _ _|exact Kd.Q_nil _ _ _ _ _|exact Kd.S_nil _ _ _ _ _,by first|exact Kd.R_nil _ _ _ _ _|exact Kd.N_nil _ _ _ _ _|exact Kd.V_nil _ _ _ _ _|exact Kd.Q_nil _ _ _ _ _|exact Kd.S_nil _ _ _ _ _,by repeat (first|(with_reducible first|exact HB.out|apply below_alloc|apply pw_below_drewN|apply below_drew1|refine below_set ?_ GE208.out|refine below_set ?_ GE209.out)|exact HB.out)⟩
end Go.Proofs.Ytpdnabhpkdchjaa.P
namespace Go.Proofs.Ytpdnabhpkdchjaa.P
open Go.RowKit Go.Proofs.YtpdnabhpkdchjaaW.PrintWords Go.Proofs.YtpdnabhpkdchjaaW.PrintLast Go.Proofs.YtpdnabhpkdchjaaW.PrintMore
attribute [local go_sem] max2_int min2_int max_two min_two max_three min_three max_four min_four
set_option linter.unusedVariables false
set_option linter.unusedSimpArgs false
def impl_Begin.f (a0_0:Int) (l0_1:List (S88)):Option (Bool × (List (S50)) × List Bool):=(impl_LayoutOk.f a0_0 l0_1).bind fun t313=>(if t313=0 then (if 0≤a0_0 then (if (a0_0:Int).toNat≤8796093022208 then (if 0≤(l0_1.length:Int) then (if ((l0_1.length:Int):Int).toNat≤281474976710656 then (some (true,(List.replicate (a0_0:Int).toNat z50),(List.replicate ((l0_1.length:Int):Int).toNat false))) else (none)) else (none)) else (none)) else (none)) else (some (false,([]:List (S50)),([]:List Bool))))
def impl_Begin.T3:Bool × List (List Nat × List Nat):=(true,[([],[]),([0],[0]),([1,1],[1]),([],[]),([3],[3]),([4],[4]),([5,5],[5]),([2,6],[2,6]),([7,0,1,2,3,4,5,6,7],[7])])
def impl_Begin.B3:List Nat:=[0,1,3,0,8,24,56,127,255]
theorem impl_Begin.tab3:rtab .any (opsOf Try.f44 3)=impl_Begin.T3:=by kernel_rfl
theorem impl_Begin.bits3:waitsOk impl_Begin.T3.2 impl_Begin.B3=true:=by kernel_rfl
set_option maxHeartbeats 8000000 in
set_option maxRecDepth 100000 in
theorem impl_Begin.calls (a0_0:Int) (A0_1:Option Addr) (c0_1:Nat) (l0_1:List (S88)) (r1:Bool) (r2:List (S50)) (r3:List Bool) (w:World) (hr0_1:Kd.C k88 w A0_1 l0_1.length l0_1) (hc0_1:l0_1.length≤c0_1) (h:impl_Begin.f a0_0 l0_1=some (r1,r2,r3)) :
  Calls Try.prog 44 #[.agg #[.int .i64 a0_0,.slice A0_1 l0_1.length c0_1]] w fun e w'=>∃ v1_ v2_:Value,e=.returned (.agg #[.bool r1,v1_,v2_])∧Kd.R k50 50 w' w.heap.size (fun _=>True) v1_ r2∧Kd.R Kd.bool 4 w' w.heap.size (fun _=>True) v2_ r3∧Below w.heap.size w w':=by
 have hu30:=Try.underlying30
 have hu46:=Try.underlying46
 have HR0_1:=Aside0.mk hr0_1
 have HC0_1:=Aside0.mk hc0_1
 clear hr0_1 hc0_1
 have HB:=Aside0.mk (Below.refl w.heap.size w)
 have H:((impl_LayoutOk.f a0_0 l0_1).bind fun t313=>(if t313=0 then (if 0≤a0_0 then (if (a0_0:Int).toNat≤8796093022208 then (if 0≤(l0_1.length:Int) then (if ((l0_1.length:Int):Int).toNat≤281474976710656 then (some (true,(List.replicate (a0_0:Int).toNat z50),(List.replicate ((l0_1.length:Int):Int).toNat false))) else (none)) else (none)) else (none)) else (none)) else (some (false,([]:List (S50)),([]:List Bool)))))=some (r1,r2,r3):=h
 clear h
 replace H:=Option.bind_eq_some_iff.mp H
 obtain ⟨t313,A20,H⟩:=H
 replace H:(if t313=0 then (if 0≤a0_0 then (if (a0_0:Int).toNat≤8796093022208 then (if 0≤(l0_1.length:Int) then (if ((l0_1.length:Int):Int).toNat≤281474976710656 then (some (true,(List.replicate (a0_0:Int).toNat z50),(List.replicate ((l0_1.length:Int):Int).toNat false))) else (none)) else (none)) else (none)) else (none)) else (some (false,([]:List (S50)),([]:List Bool))))=some (r1,r2,r3):=H
 have A2:=Aside0.mk A20
 clear A20
 by_cases c3:t313=0
 ·rw [if_pos c3] at H
  have c3b0:(t313==0)=true:=beq_iff_eq.mpr c3
  have c3b1:(t313 != 0)=false:=bne_eq_false_iff_eq.mpr c3
  clear c3
  by_cases c4:0≤a0_0
  ·rw [if_pos c4] at H
   have c4b0:=eq_true c4
   have c4b1:decide (0≤a0_0)=true:=decide_eq_true c4
   clear c4
   by_cases c5:(a0_0:Int).toNat≤8796093022208
   ·rw [if_pos c5] at H
    have c5b0:=eq_true c5
    have c5b1:decide ((a0_0:Int).toNat≤8796093022208)=true:=decide_eq_true c5
    clear c5
    obtain ⟨y314,hy314⟩:∃ y_:List (S50),y_=(List.replicate (a0_0:Int).toNat z50):=⟨_,rfl⟩
    replace H:(if 0≤(l0_1.length:Int) then (if ((l0_1.length:Int):Int).toNat≤281474976710656 then (some (true,y314,(List.replicate ((l0_1.length:Int):Int).toNat false))) else (none)) else (none))=some (r1,r2,r3):=by first|(rw [hy314];with_reducible exact H)|(have H2_:=(Option.bind_some _ _).symm.trans H;rw [hy314];with_reducible exact H2_)|(have H2_:=(Option.bind_some _ _).symm.trans H;with_reducible exact H2_)|with_reducible exact H|(rw [hy314];exact H)|exact H
    have Ny314:=Aside0.mk hy314
    clear hy314
    by_cases c6:0≤(l0_1.length:Int)
    ·rw [if_pos c6] at H
     have c6b0:=eq_true c6
     have c6b1:decide (0≤(l0_1.length:Int))=true:=decide_eq_true c6
     clear c6
     by_cases c7:((l0_1.length:Int):Int).toNat≤281474976710656
     ·rw [if_pos c7] at H
      have c7b0:=eq_true c7
      have c7b1:decide (((l0_1.length:Int):Int).toNat≤281474976710656)=true:=decide_eq_true c7
      clear c7
      obtain ⟨y317,hy317⟩:∃ y_:List Bool,y_=(List.replicate ((l0_1.length:Int):Int).toNat false):=⟨_,rfl⟩
      replace H:(some (true,y314,y317))=some (r1,r2,r3):=by first|(rw [hy317];with_reducible exact H)|(have H2_:=(Option.bind_some _ _).symm.trans H;rw [hy317];with_reducible exact H2_)|(have H2_:=(Option.bind_some _ _).symm.trans H;with_reducible exact H2_)|with_reducible exact H|(rw [hy317];exact H)|exact H
      have Ny317:=Aside0.mk hy317
      clear hy317
      simp only [Option.some.injEq,Prod.mk.injEq] at H
      obtain ⟨rfl,rfl,rfl⟩:=H
      go_enter Try.func44,Try.ntmps44
      try go_wp2_with (first|((with_reducible refine gate_dst (N:=1) rfl ?_);refine box_event ?hg (N:=1) ?hd (cs:=#[.int .i64 a0_0,.slice A0_1 l0_1.length c0_1]) (t:=30) ?hr ?_;(case hd=>rfl);(case hg=>rfl);(case hr=>first|(go_simp;done)|(go_simp;rfl));intro gb311 hg w8 hbox hb;have n0_:=Aside0.mk (below_step (by exact HB.out) hb);have n1_:=Aside0.mk (hbox);have n2_:=Aside0.mk ((by rw [hg];exact (below_size (by exact HB.out)):w.heap.size≤gb311));have n3_:=Aside0.mk ((by rw [hg];exact (below_size (by exact HB.out)):w.heap.size≤gb311));clear HB;have HB:=n0_;have BK311:=n1_;have GW311:=n2_;have GE311:=n3_;clear n0_ n1_ n2_ n3_;clear hb hbox hg)|((with_reducible refine gate_dst (N:=2) rfl ?_);refine box_event ?hg (N:=2) ?hd (cs:=#[.bool false,.slice none 0 0,.slice none 0 0]) (t:=46) ?hr ?_;(case hd=>rfl);(case hg=>rfl);(case hr=>first|(go_simp;done)|(go_simp;rfl));intro gb312 hg w9 hbox hb;have n0_:=Aside0.mk (blk_below (g:=gb311) (o:=.cells #[.int .i64 a0_0,.slice A0_1 l0_1.length c0_1] 30 (0,0)) (by exact BK311.out) hb);have n1_:=Aside0.mk (below_step (by exact HB.out) hb);have n2_:=Aside0.mk (hbox);have n3_:=Aside0.mk ((by rw [hg];exact (below_size (by exact HB.out)):w.heap.size≤gb312));have n4_:=Aside0.mk ((by rw [hg];exact (below_size (by exact HB.out)):w.heap.size≤gb312));have n5_:=Aside0.mk ((by rw [hg];exact Nat.ne_of_lt (blk_lt (g:=gb311) (o:=.cells #[.int .i64 a0_0,.slice A0_1 l0_1.length c0_1] 30 (0,0)) (by exact BK311.out)):gb311 ≠ gb312));have n6_:=Aside0.mk ((by rw [hg];exact Nat.ne_of_gt (blk_lt (g:=gb311) (o:=.cells #[.int .i64 a0_0,.slice A0_1 l0_1.length c0_1] 30 (0,0)) (by exact BK311.out)):gb312 ≠ gb311));clear BK311;clear HB;have BK311:=n0_;have HB:=n1_;have BK312:=n2_;have GW312:=n3_;have GE312:=n4_;have NB311_312:=n5_;have NB312_311:=n6_;clear n0_ n1_ n2_ n3_ n4_ n5_ n6_;clear hb hbox hg;have hnb10:=NB311_312.out;have hnc10:=NB312_311.out;have hcz11_0:w9.cell? ⟨gb311,0,none⟩=some (.int .i64 a0_0):=(blk_cell BK311.out 0).trans rfl;have hcz11_1:w9.cell? ⟨gb311,1,none⟩=some (.slice A0_1 l0_1.length c0_1):=(blk_cell BK311.out 1).trans rfl;have hfz11_0:=blk_frozen BK311.out 0;have hfz11_1:=blk_frozen BK311.out 1)|((with_reducible refine gate_callee (f:=25) rfl ?_);refine goesL_ (some 4) rfl rfl Try.func25 (by kernel_rfl) rfl #[.agg #[.int .i64 a0_0,.slice A0_1 l0_1.length c0_1]] rfl (by (try simp only [List.map_toArray,List.map_cons,List.map_nil]);first|done|rfl|(simp only [List.length_drop,List.length_take];rfl)) ?_;(with_reducible refine (impl_LayoutOk.calls a0_0 _ _ l0_1 t313 _ ?side1 ?side2 A2.out).mono ?_);(case side1=>repeat (first|exact (Kd.C_below HR0_1.out HB.out)|(with_reducible refine Kd.C_alloc ?_ _)|(with_reducible refine Kd.C_drewN ?_ _)|(with_reducible refine Kd.C_drew ?_)));(case side2=>exact HC0_1.out);rintro e w12 ⟨rfl,hb⟩;refine ⟨_,rfl,?_⟩;have n0_:=Aside0.mk (blk_below (g:=gb311) (o:=.cells #[.int .i64 a0_0,.slice A0_1 l0_1.length c0_1] 30 (0,0)) (by exact BK311.out) hb);have n1_:=Aside0.mk (blk_below (g:=gb312) (o:=.cells #[.bool false,.slice none 0 0,.slice none 0 0] 46 (0,0)) (by exact BK312.out) hb);have n2_:=Aside0.mk (below_step (by exact HB.out) hb);clear BK311;clear BK312;clear HB;have BK311:=n0_;have BK312:=n1_;have HB:=n2_;clear n0_ n1_ n2_;(try clear hb);(try clear hb2);(try clear hk);(try clear hi)))
      have n0_:=Aside0.mk (blk_drew BK311.out)
      have n1_:=Aside0.mk (blk_drew BK312.out)
      have n2_:=Aside0.mk (below_drew1 HB.out)
      clear BK311
      clear BK312
      clear HB
      have BK311:=n0_
      have BK312:=n1_
      have HB:=n2_
      clear n0_ n1_ n2_
      refine start_ (n:=9) (S:=fun w'=>w'.cell? ⟨gb311,0,none⟩=some (.int .i64 a0_0)∧w'.cell? ⟨gb311,1,none⟩=some (.slice A0_1 l0_1.length c0_1)) (ds:=[]) #[false,false,false,false,false,false,false,false,false] (by kernel_rfl) rfl rfl ⟨(blk_cell BK311.out 0).trans rfl,(blk_cell BK311.out 1).trans rfl⟩ (fun hHeld=>?_);refine with_tabW impl_Begin.tab3 impl_Begin.bits3 (fun HT_ HW_=>?_)
      generalize w12.drew=w13 at BK311 BK312 HB hHeld ⊢
      refine pure_ (i:=0) (N:=some 7) (v:=?_) (a':=?_) #[true,false,false,false,false,false,false,false,false] rfl rfl (any_of HT_.out (by kernel_rfl)) (fun _ _ _ h=>h) (Or.inl ⟨by rfl,?_⟩) ?_ ?_
      rotate_left
      ·intro w'
       go_simp
       with_reducible rfl
      rotate_left
      ·simp only [Act.put,List.setIfInBounds_toArray,List.set_cons_zero,List.set_cons_succ,i64_w,i32_w]
       rfl
      refine pure_ (i:=3) (N:=some 10) (v:=?_) (a':=?_) #[true,false,false,true,false,false,false,false,false] rfl rfl (any_of HT_.out (by kernel_rfl)) (fun _ _ _ h=>h) (Or.inl ⟨by rfl,?_⟩) ?_ ?_
      rotate_left
      ·intro w'
       go_simp
       with_reducible rfl
      rotate_left
      ·simp only [Act.put,List.setIfInBounds_toArray,List.set_cons_zero,List.set_cons_succ,i64_w,i32_w]
       rfl
      refine take_ (i:=1) (N:=some 8) (v:=?_) (a':=?_) #[true,true,false,true,false,false,false,false,false] rfl rfl (take_ofW HT_.out HW_.out (by kernel_rfl)) (fun _ _ _ h=>h) (Or.inl ⟨by rfl,?_⟩) hHeld ?_ ?_
      rotate_left
      ·rintro w' ⟨s0,s1⟩
       go_simp
       with_reducible rfl
      rotate_left
      ·simp only [Act.put,List.setIfInBounds_toArray,List.set_cons_zero,List.set_cons_succ,i64_w,i32_w]
       rfl
      refine take_ (i:=4) (N:=some 11) (v:=?_) (a':=?_) #[true,true,false,true,true,false,false,false,false] rfl rfl (take_ofW HT_.out HW_.out (by kernel_rfl)) (fun _ _ _ h=>h) (Or.inl ⟨by rfl,?_⟩) hHeld ?_ ?_
      rotate_left
      ·rintro w' ⟨s0,s1⟩
       go_simp
       with_reducible rfl
      rotate_left
      ·simp only [Act.put,List.setIfInBounds_toArray,List.set_cons_zero,List.set_cons_succ,i64_w,i32_w]
       rfl
      refine pure_ (i:=5) (N:=some 12) (v:=?_) (a':=?_) #[true,true,false,true,true,true,false,false,false] rfl rfl (any_of HT_.out (by kernel_rfl)) (fun _ _ _ h=>h) (Or.inl ⟨by rfl,?_⟩) ?_ ?_
      rotate_left
      ·intro w'
       go_simp
       with_reducible rfl
      rotate_left
      ·simp only [Act.put,List.setIfInBounds_toArray,List.set_cons_zero,List.set_cons_succ,i64_w,i32_w]
       rfl
      refine join_ (σ:=Value × Value) 2 #[true,true,true,true,true,true,true,false,false] (fun s_=>[(9,s_.1),(13,s_.2)]) (fun s_ w'=>(w'.cell? ⟨gb311,0,none⟩=some (.int .i64 a0_0)∧w'.cell? ⟨gb311,1,none⟩=some (.slice A0_1 l0_1.length c0_1))∧(Kd.R k50 50 w' w.heap.size (fun _=>True) s_.1 y314)∧(Kd.R Kd.bool 4 w' w.heap.size (fun _=>True) s_.2 y317)∧(w'.heap[gb311]?=some (.cells #[.int .i64 a0_0,.slice A0_1 l0_1.length c0_1] 30 (0,0)))∧(w'.heap[gb312]?=some (.cells #[.bool false,.slice none 0 0,.slice none 0 0] 46 (0,0)))∧(Below w.heap.size w w')) ?_ ?_
      rotate_left
      ·intro hCont
       refine two_ (i:=2) (j:=6) (Ni:=some 9) (Nj:=some 13) #[true,true,true,true,true,true,false,false,false] #[true,true,false,true,true,true,true,false,false] rfl rfl rfl rfl (two_of HT_.out (by kernel_rfl)) (by decide) (by decide) (fun K hK=>?_) (fun K hK=>?_)
       ·skip
        refine Kd.R_make_step k50 _ 50 (by rfl) (N:=9) rfl 43 _ _ rfl a0_0 rfl rfl Try.underlying43 (.agg #[(.int .i64 0),(.int .i64 0),(.bool false),(.bool false),(.int .i64 0)]) 32 info50 rfl (by decide) (by omega) z50 (ok:=fun _=>True) (okp:=fun _=>True) (k50_mkM _ _ _ z50 ) (fun _ hk=>hk) trivial (of_decide_eq_true (by first|(with_reducible assumption)|assumption)) (Nat.le_trans (Nat.mul_le_mul_right _ (of_decide_eq_true (by first|(with_reducible assumption)|assumption):a0_0.toNat≤8796093022208)) (by omega)) (Below.refl _ _) (Nat.le_refl _) ?_
        intro v315 w14 ho15 hb hg_ hnew_
        clear hg_ hnew_
        (first|rw [← Ny314.out] at ho15|(simp only [Int.reduceToNat] at ho15;rw [← Ny314.out] at ho15))
        have n0_:=Aside0.mk (Kd.R_lower ho15 (below_size (by exact HB.out)))
        have n1_:=Aside0.mk (blk_below (g:=gb311) (o:=.cells #[.int .i64 a0_0,.slice A0_1 l0_1.length c0_1] 30 (0,0)) (by exact BK311.out) hb)
        have n2_:=Aside0.mk (blk_below (g:=gb312) (o:=.cells #[.bool false,.slice none 0 0,.slice none 0 0] 46 (0,0)) (by exact BK312.out) hb)
        have n3_:=Aside0.mk (below_step (by exact HB.out) hb)
        clear BK311
        clear BK312
        clear HB
        have HO316:=n0_
        have BK311:=n1_
        have BK312:=n2_
        have HB:=n3_
        clear n0_ n1_ n2_ n3_
        clear hb ho15
        refine hK.out _ _ ⟨(blk_cell BK311.out 0).trans rfl,(blk_cell BK311.out 1).trans rfl⟩ (fun hHeld=>?_)
        clear hK K
        refine norm_ (a':=?_) ?_ ?_
        rotate_left
        ·show Act.put _ (some 9) _=_
         simp only [Act.put,List.setIfInBounds_toArray,List.set_cons_zero,List.set_cons_succ,i64_w,i32_w]
         rfl
        refine one_ (i:=6) (N:=some 13) #[true,true,true,true,true,true,true,false,false] rfl rfl (one_of HT_.out (by kernel_rfl)) (by decide) (fun K hK=>?_)
        refine Kd.R_make_step Kd.bool _ 4 (by rfl) (N:=13) rfl 44 _ _ rfl (l0_1.length:Int) rfl rfl Try.underlying44 (.bool false) 1 info4 rfl (by decide) (by omega) false (ok:=fun _=>True) (okp:=fun _=>True) rfl (fun _ hk=>hk) trivial (of_decide_eq_true (by first|(with_reducible assumption)|assumption)) (Nat.le_trans (Nat.mul_le_mul_right _ (of_decide_eq_true (by first|(with_reducible assumption)|assumption):(l0_1.length:Int).toNat≤281474976710656)) (by omega)) (Below.refl _ _) (Nat.le_refl _) ?_
        intro v318 w16 ho17 hb hg_ hnew_
        clear hg_ hnew_
        (first|rw [← Ny317.out] at ho17|(simp only [Int.reduceToNat] at ho17;rw [← Ny317.out] at ho17))
        have n0_:=Aside0.mk (Kd.R_below (by exact HO316.out) hb)
        have n1_:=Aside0.mk (Kd.R_lower ho17 (below_size (by exact HB.out)))
        have n2_:=Aside0.mk (blk_below (g:=gb311) (o:=.cells #[.int .i64 a0_0,.slice A0_1 l0_1.length c0_1] 30 (0,0)) (by exact BK311.out) hb)
        have n3_:=Aside0.mk (blk_below (g:=gb312) (o:=.cells #[.bool false,.slice none 0 0,.slice none 0 0] 46 (0,0)) (by exact BK312.out) hb)
        have n4_:=Aside0.mk (below_step (by exact HB.out) hb)
        clear HO316
        clear BK311
        clear BK312
        clear HB
        have HO316:=n0_
        have HO319:=n1_
        have BK311:=n2_
        have BK312:=n3_
        have HB:=n4_
        clear n0_ n1_ n2_ n3_ n4_
        clear hb ho17
        obtain ⟨Ao18,co18,eo18⟩:=Kd.R_slice HO319.out
        (first|subst eo18|(injection eo18 with f1_ f2_ f3_;have f4_:=f1_.symm;have f5_:=f3_.symm;clear f1_ f2_ f3_;subst f4_;subst f5_))
        obtain ⟨Ao19,co19,eo19⟩:=Kd.R_slice HO316.out
        (first|subst eo19|(injection eo19 with f1_ f2_ f3_;have f4_:=f1_.symm;have f5_:=f3_.symm;clear f1_ f2_ f3_;subst f4_;subst f5_))
        refine hK.out _ _ ⟨(blk_cell BK311.out 0).trans rfl,(blk_cell BK311.out 1).trans rfl⟩ (fun hHeld=>?_)
        clear hK K
        refine norm_ (a':=?_) ?_ ?_
        rotate_left
        ·show Act.put _ (some 13) _=_
         simp only [Act.put,List.setIfInBounds_toArray,List.set_cons_zero,List.set_cons_succ,i64_w,i32_w]
         rfl
        exact norm_ (by simp only [putAll,Act.put,List.setIfInBounds_toArray,List.set_cons_zero,List.set_cons_succ]) (hCont (.slice Ao19 y314.length co19,.slice Ao18 y317.length co18) _ ⟨hHeld,(by exact HO316.out),(by exact HO319.out),(by exact BK311.out),(by exact BK312.out),(by exact HB.out)⟩)
       skip
       refine Kd.R_make_step Kd.bool _ 4 (by rfl) (N:=13) rfl 44 _ _ rfl (l0_1.length:Int) rfl rfl Try.underlying44 (.bool false) 1 info4 rfl (by decide) (by omega) false (ok:=fun _=>True) (okp:=fun _=>True) rfl (fun _ hk=>hk) trivial (of_decide_eq_true (by first|(with_reducible assumption)|assumption)) (Nat.le_trans (Nat.mul_le_mul_right _ (of_decide_eq_true (by first|(with_reducible assumption)|assumption):(l0_1.length:Int).toNat≤281474976710656)) (by omega)) (Below.refl _ _) (Nat.le_refl _) ?_
       intro v318 w14 ho15 hb hg_ hnew_
       clear hg_ hnew_
       (first|rw [← Ny317.out] at ho15|(simp only [Int.reduceToNat] at ho15;rw [← Ny317.out] at ho15))
       have n0_:=Aside0.mk (Kd.R_lower ho15 (below_size (by exact HB.out)))
       have n1_:=Aside0.mk (blk_below (g:=gb311) (o:=.cells #[.int .i64 a0_0,.slice A0_1 l0_1.length c0_1] 30 (0,0)) (by exact BK311.out) hb)
       have n2_:=Aside0.mk (blk_below (g:=gb312) (o:=.cells #[.bool false,.slice none 0 0,.slice none 0 0] 46 (0,0)) (by exact BK312.out) hb)
       have n3_:=Aside0.mk (below_step (by exact HB.out) hb)
       clear BK311
       clear BK312
       clear HB
       have HO319:=n0_
       have BK311:=n1_
       have BK312:=n2_
       have HB:=n3_
       clear n0_ n1_ n2_ n3_
       clear hb ho15
       refine hK.out _ _ ⟨(blk_cell BK311.out 0).trans rfl,(blk_cell BK311.out 1).trans rfl⟩ (fun hHeld=>?_)
       clear hK K
       refine norm_ (a':=?_) ?_ ?_
       rotate_left
       ·show Act.put _ (some 13) _=_
        simp only [Act.put,List.setIfInBounds_toArray,List.set_cons_zero,List.set_cons_succ,i64_w,i32_w]
        rfl
       refine one_ (i:=2) (N:=some 9) #[true,true,true,true,true,true,true,false,false] rfl rfl (one_of HT_.out (by kernel_rfl)) (by decide) (fun K hK=>?_)
       refine Kd.R_make_step k50 _ 50 (by rfl) (N:=9) rfl 43 _ _ rfl a0_0 rfl rfl Try.underlying43 (.agg #[(.int .i64 0),(.int .i64 0),(.bool false),(.bool false),(.int .i64 0)]) 32 info50 rfl (by decide) (by omega) z50 (ok:=fun _=>True) (okp:=fun _=>True) (k50_mkM _ _ _ z50 ) (fun _ hk=>hk) trivial (of_decide_eq_true (by first|(with_reducible assumption)|assumption)) (Nat.le_trans (Nat.mul_le_mul_right _ (of_decide_eq_true (by first|(with_reducible assumption)|assumption):a0_0.toNat≤8796093022208)) (by omega)) (Below.refl _ _) (Nat.le_refl _) ?_
       intro v315 w16 ho17 hb hg_ hnew_
       clear hg_ hnew_
       (first|rw [← Ny314.out] at ho17|(simp only [Int.reduceToNat] at ho17;rw [← Ny314.out] at ho17))
       have n0_:=Aside0.mk (Kd.R_below (by exact HO319.out) hb)
       have n1_:=Aside0.mk (Kd.R_lower ho17 (below_size (by exact HB.out)))
       have n2_:=Aside0.mk (blk_below (g:=gb311) (o:=.cells #[.int .i64 a0_0,.slice A0_1 l0_1.length c0_1] 30 (0,0)) (by exact BK311.out) hb)
       have n3_:=Aside0.mk (blk_below (g:=gb312) (o:=.cells #[.bool false,.slice none 0 0,.slice none 0 0] 46 (0,0)) (by exact BK312.out) hb)
       have n4_:=Aside0.mk (below_step (by exact HB.out) hb)
       clear HO319
       clear BK311
       clear BK312
       clear HB
       have HO319:=n0_
       have HO316:=n1_
       have BK311:=n2_
       have BK312:=n3_
       have HB:=n4_
       clear n0_ n1_ n2_ n3_ n4_
       clear hb ho17
       obtain ⟨Ao18,co18,eo18⟩:=Kd.R_slice HO319.out
       (first|subst eo18|(injection eo18 with f1_ f2_ f3_;have f4_:=f1_.symm;have f5_:=f3_.symm;clear f1_ f2_ f3_;subst f4_;subst f5_))
       obtain ⟨Ao19,co19,eo19⟩:=Kd.R_slice HO316.out
       (first|subst eo19|(injection eo19 with f1_ f2_ f3_;have f4_:=f1_.symm;have f5_:=f3_.symm;clear f1_ f2_ f3_;subst f4_;subst f5_))
       refine hK.out _ _ ⟨(blk_cell BK311.out 0).trans rfl,(blk_cell BK311.out 1).trans rfl⟩ (fun hHeld=>?_)
       clear hK K
       refine norm_ (a':=?_) ?_ ?_
       rotate_left
       ·show Act.put _ (some 9) _=_
        simp only [Act.put,List.setIfInBounds_toArray,List.set_cons_zero,List.set_cons_succ,i64_w,i32_w]
        rfl
       exact norm_ (by simp only [putAll,Act.put,List.setIfInBounds_toArray,List.set_cons_zero,List.set_cons_succ]) (hCont (.slice Ao19 y314.length co19,.slice Ao18 y317.length co18) _ ⟨hHeld,(by exact HO316.out),(by exact HO319.out),(by exact BK311.out),(by exact BK312.out),(by exact HB.out)⟩)
      rintro ⟨v315,v318⟩ w20 ⟨hS_,h0_,h1_,h2_,h3_,h4_⟩
      have n0_:Aside0 (Kd.R k50 50 w20 w.heap.size (fun _=>True) v315 y314):=⟨h0_⟩
      have n1_:Aside0 (Kd.R Kd.bool 4 w20 w.heap.size (fun _=>True) v318 y317):=⟨h1_⟩
      have n2_:Aside0 (w20.heap[gb311]?=some (.cells #[.int .i64 a0_0,.slice A0_1 l0_1.length c0_1] 30 (0,0))):=⟨h2_⟩
      have n3_:Aside0 (w20.heap[gb312]?=some (.cells #[.bool false,.slice none 0 0,.slice none 0 0] 46 (0,0))):=⟨h3_⟩
      have n4_:Aside0 (Below w.heap.size w w20):=⟨h4_⟩
      clear BK311
      clear BK312
      clear HB
      clear h0_ h1_ h2_ h3_ h4_
      have HO316:=n0_
      have HO319:=n1_
      have BK311:=n2_
      have BK312:=n3_
      have HB:=n4_
      clear n0_ n1_ n2_ n3_ n4_
      have hHeld:w20.cell? ⟨gb311,0,none⟩=some (.int .i64 a0_0)∧w20.cell? ⟨gb311,1,none⟩=some (.slice A0_1 l0_1.length c0_1):=hS_
      obtain ⟨Ao21,co21,eo21⟩:=Kd.R_slice HO319.out
      (first|subst eo21|(injection eo21 with f1_ f2_ f3_;have f4_:=f1_.symm;have f5_:=f3_.symm;clear f1_ f2_ f3_;subst f4_;subst f5_))
      obtain ⟨Ao22,co22,eo22⟩:=Kd.R_slice HO316.out
      (first|subst eo22|(injection eo22 with f1_ f2_ f3_;have f4_:=f1_.symm;have f5_:=f3_.symm;clear f1_ f2_ f3_;subst f4_;subst f5_))
      refine norm_ (a':=?_) ?_ ?_
      rotate_left
      ·simp only [putAll,Act.put,List.setIfInBounds_toArray,List.set_cons_zero,List.set_cons_succ]
       rfl
      refine pure_ (i:=7) (N:=some 14) (v:=?_) (a':=?_) #[true,true,true,true,true,true,true,true,false] rfl rfl (any_of HT_.out (by kernel_rfl)) (fun _ _ _ h=>h) (Or.inl ⟨by rfl,?_⟩) ?_ ?_
      rotate_left
      ·intro w'
       go_simp
       with_reducible rfl
      rotate_left
      ·simp only [Act.put,List.setIfInBounds_toArray,List.set_cons_zero,List.set_cons_succ,i64_w,i32_w]
       rfl
      refine one_ (i:=8) (N:=none) #[true,true,true,true,true,true,true,true,true] rfl rfl (one_of HT_.out (by kernel_rfl)) (by decide) (fun K hK=>?_)
      have hs23:w20.cell? ⟨gb312,0,none⟩=some (.bool false):=(blk_cell BK312.out 0).trans rfl
      have hfs23:=blk_frozen BK312.out 0
      have hns23_0:=NB311_312.out
      have hms23_0:=NB312_311.out
      have hs24:w20.cell? ⟨gb312,1,none⟩=some (.slice none 0 0):=(blk_cell BK312.out 1).trans rfl
      have hfs24:=blk_frozen BK312.out 1
      have hns24_0:=NB311_312.out
      have hms24_0:=NB312_311.out
      have hs25:w20.cell? ⟨gb312,2,none⟩=some (.slice none 0 0):=(blk_cell BK312.out 2).trans rfl
      have hfs25:=blk_frozen BK312.out 2
      have hns25_0:=NB311_312.out
      have hms25_0:=NB312_311.out
      refine skip_ (w1:=?_) (by rfl) rfl ?_ ?_
      rotate_left
      ·go_simp
       rfl
      refine hK.out _ _ ⟨((cell_far (p:=⟨gb312,_,none⟩) NB311_312.out _).trans (((cell_far (p:=⟨gb312,_,none⟩) NB311_312.out _).trans (((cell_far (p:=⟨gb312,_,none⟩) NB311_312.out _).trans (hHeld.1)))))),((cell_far (p:=⟨gb312,_,none⟩) NB311_312.out _).trans (((cell_far (p:=⟨gb312,_,none⟩) NB311_312.out _).trans (((cell_far (p:=⟨gb312,_,none⟩) NB311_312.out _).trans (hHeld.2))))))⟩ (fun hHeld=>?_)
      clear hK K
      refine done_ (done_of HT_.out (by kernel_rfl)) ?_
      try go_wp2
      refine bodyPost_ret (results_cell_row rfl _ _ gb312 46 #[.bool true,.slice Ao22 y314.length co22,.slice Ao21 y317.length co21] (0,0) _ rfl (by refine blk_put (cs:=#[.bool true,.slice Ao22 y314.length co22,.slice none 0 0]) ?_ 2 _ rfl;refine blk_put (cs:=#[.bool true,.slice none 0 0,.slice none 0 0]) ?_ 1 _ rfl;refine blk_put (cs:=#[.bool false,.slice none 0 0,.slice none 0 0]) ?_ 0 _ rfl;exact BK312.out) Try.underlying46 rfl (by kernel_rfl)) rfl ?_
      exact ⟨_,_,by first|rfl|(simp [errW_none,errW_some] <;> rfl)|(simp [*,errW_none,errW_some] <;> rfl),by (with_reducible repeat (first|apply Kd.R_alloc|apply Kd.R_drewN|apply Kd.R_drew));exact Kd.R_mono (Kd.R_far (p:=⟨gb312,2,none⟩) (Kd.R_far (p:=⟨gb312,1,none⟩) (Kd.R_far (p:=⟨gb312,0,none⟩) (Kd.R_types HO316.out BK312.out (by decide)) (fun _ hk=>hk.2) (.bool true)) (fun _ hk=>hk.2) (.slice Ao22 y314.length co22)) (fun _ hk=>hk.2) (.slice Ao21 y317.length co21)) (fun _ hk=>trivial),by (with_reducible repeat (first|apply Kd.R_alloc|apply Kd.R_drewN|apply Kd.R_drew));exact Kd.R_mono (Kd.R_far (p:=⟨gb312,2,none⟩) (Kd.R_far (p:=⟨gb312,1,none⟩) (Kd.R_far (p:=⟨gb312,0,none⟩) (Kd.R_types HO319.out BK312.out (by decide)) (fun _ hk=>hk.2) (.bool true)) (fun _ hk=>hk.2) (.slice Ao22 y314.length co22)) (fun _ hk=>hk.2) (.slice Ao21 y317.length co21)) (fun _ hk=>trivial),by repeat (first|(with_reducible first|exact HB.out|apply below_alloc|apply pw_below_drewN|apply below_drew1|refine below_set ?_ GE311.out|refine below_set ?_ GE312.out)|exact HB.out)⟩
     rw [if_neg c7] at H
     exact absurd H (by simp)
    rw [if_neg c6] at H
    exact absurd H (by simp)
   rw [if_neg c5] at H
   exact absurd H (by simp)
  rw [if_neg c4] at H
  exact absurd H (by simp)
 rw [if_neg c3] at H
 have c3b0:(t313==0)=false:=beq_eq_false_iff_ne.mpr c3
 have c3b1:(t313 != 0)=true:=bne_iff_ne.mpr c3
 simp only [Option.some.injEq,Prod.mk.injEq] at H
 obtain ⟨rfl,rfl,rfl⟩:=H
 go_enter Try.func44,Try.ntmps44
 go_wp2_with (first|((with_reducible refine gate_dst (N:=1) rfl ?_);refine box_event ?hg (N:=1) ?hd (cs:=#[.int .i64 a0_0,.slice A0_1 l0_1.length c0_1]) (t:=30) ?hr ?_;(case hd=>rfl);(case hg=>rfl);(case hr=>first|(go_simp;done)|(go_simp;rfl));intro gb311 hg w26 hbox hb;have n0_:=Aside0.mk (below_step (by exact HB.out) hb);have n1_:=Aside0.mk (hbox);have n2_:=Aside0.mk ((by rw [hg];exact (below_size (by exact HB.out)):w.heap.size≤gb311));have n3_:=Aside0.mk ((by rw [hg];exact (below_size (by exact HB.out)):w.heap.size≤gb311));clear HB;have HB:=n0_;have BK311:=n1_;have GW311:=n2_;have GE311:=n3_;clear n0_ n1_ n2_ n3_;clear hb hbox hg)|((with_reducible refine gate_dst (N:=2) rfl ?_);refine box_event ?hg (N:=2) ?hd (cs:=#[.bool false,.slice none 0 0,.slice none 0 0]) (t:=46) ?hr ?_;(case hd=>rfl);(case hg=>rfl);(case hr=>first|(go_simp;done)|(go_simp;rfl));intro gb312 hg w27 hbox hb;have n0_:=Aside0.mk (blk_below (g:=gb311) (o:=.cells #[.int .i64 a0_0,.slice A0_1 l0_1.length c0_1] 30 (0,0)) (by exact BK311.out) hb);have n1_:=Aside0.mk (below_step (by exact HB.out) hb);have n2_:=Aside0.mk (hbox);have n3_:=Aside0.mk ((by rw [hg];exact (below_size (by exact HB.out)):w.heap.size≤gb312));have n4_:=Aside0.mk ((by rw [hg];exact (below_size (by exact HB.out)):w.heap.size≤gb312));have n5_:=Aside0.mk ((by rw [hg];exact Nat.ne_of_lt (blk_lt (g:=gb311) (o:=.cells #[.int .i64 a0_0,.slice A0_1 l0_1.length c0_1] 30 (0,0)) (by exact BK311.out)):gb311 ≠ gb312));have n6_:=Aside0.mk ((by rw [hg];exact Nat.ne_of_gt (blk_lt (g:=gb311) (o:=.cells #[.int .i64 a0_0,.slice A0_1 l0_1.length c0_1] 30 (0,0)) (by exact BK311.out)):gb312 ≠ gb311));clear BK311;clear HB;have BK311:=n0_;have HB:=n1_;have BK312:=n2_;have GW312:=n3_;have GE312:=n4_;have NB311_312:=n5_;have NB312_311:=n6_;clear n0_ n1_ n2_ n3_ n4_ n5_ n6_;clear hb hbox hg;have hnb28:=NB311_312.out;have hnc28:=NB312_311.out;have hcz29_0:w27.cell? ⟨gb311,0,none⟩=some (.int .i64 a0_0):=(blk_cell BK311.out 0).trans rfl;have hcz29_1:w27.cell? ⟨gb311,1,none⟩=some (.slice A0_1 l0_1.length c0_1):=(blk_cell BK311.out 1).trans rfl;have hfz29_0:=blk_frozen BK311.out 0;have hfz29_1:=blk_frozen BK311.out 1)|((with_reducible refine gate_callee (f:=25) rfl ?_);refine goesL_ (some 4) rfl rfl Try.func25 (by kernel_rfl) rfl #[.agg #[.int .i64 a0_0,.slice A0_1 l0_1.length c0_1]] rfl (by (try simp only [List.map_toArray,List.map_cons,List.map_nil]);first|done|rfl|(simp only [List.length_drop,List.length_take];rfl)) ?_;(with_reducible refine (impl_LayoutOk.calls a0_0 _ _ l0_1 t313 _ ?side1 ?side2 A2.out).mono ?_);(case side1=>repeat (first|exact (Kd.C_below HR0_1.out HB.out)|(with_reducible refine Kd.C_alloc ?_ _)|(with_reducible refine Kd.C_drewN ?_ _)|(with_reducible refine Kd.C_drew ?_)));(case side2=>exact HC0_1.out);rintro e w30 ⟨rfl,hb⟩;refine ⟨_,rfl,?_⟩;have n0_:=Aside0.mk (blk_below (g:=gb311) (o:=.cells #[.int .i64 a0_0,.slice A0_1 l0_1.length c0_1] 30 (0,0)) (by exact BK311.out) hb);have n1_:=Aside0.mk (blk_below (g:=gb312) (o:=.cells #[.bool false,.slice none 0 0,.slice none 0 0] 46 (0,0)) (by exact BK312.out) hb);have n2_:=Aside0.mk (below_step (by exact HB.out) hb);clear BK311;clear BK312;clear HB;have BK311:=n0_;have BK312:=n1_;have HB:=n2_;clear n0_ n1_ n2_;(try clear hb);(try clear hb2);(try clear hk);(try clear hi);have hcz31_0:w30.cell? ⟨gb312,0,none⟩=some (.bool false):=(blk_cell BK312.out 0).trans rfl;have hcz31_1:w30.cell? ⟨gb312,1,none⟩=some (.slice none 0 0):=(blk_cell BK312.out 1).trans rfl;have hcz31_2:w30.cell? ⟨gb312,2,none⟩=some (.slice none 0 0):=(blk_cell BK312.out 2).trans rfl;have hfz31_0:=blk_frozen BK312.out 0;have hfz31_1:=blk_frozen BK312.out 1;have hfz31_2:=blk_frozen BK312.out 2))
 refine bodyPost_ret (results_cell_row rfl _ _ gb312 46 #[.bool false,.slice none 0 0,.slice none 0 0] (0,0) _ rfl (by refine blk_put (cs:=#[.bool false,.slice none 0 0,.slice none 0 0]) ?_ 2 _ rfl;refine blk_put (cs:=#[.bool false,.slice none 0 0,.slice none 0 0]) ?_ 1 _ rfl;refine blk_put (cs:=#[.bool false,.slice none 0 0,.slice none 0 0]) ?_ 0 _ rfl;exact BK312.out) Try.underlying46 rfl (by kernel_rfl)) rfl ?_
 exact ⟨_,_,by first|rfl|(simp [errW_none,errW_some] <;> rfl)|(simp [*,errW_none,errW_some] <;> rfl),by first|exact Kd.R_nil _ _ _ _ _|exact Kd.N_nil _ _ _ _ _|exact Kd.V_nil _ _ _ _ _|exact Kd.Q_nil _ _ _ _ _|exact Kd.S_nil _ _ _ _ _,by first|exact Kd.R_nil _ _ _ _ _|exact Kd.N_nil _ _ _ _ _|exact Kd.V_nil _ _ _ _ _|exact Kd.Q_nil _ _ _ _ _|exact Kd.S_nil _ _ _ _ _,by repeat (first|(with_reducible first|exact HB.out|apply below_alloc|apply pw_below_drewN|apply below_drew1|refine below_set ?_ GE311.out|refine below_set ?_ GE312.out)|exact HB.out)⟩
end Go.Proofs.Ytpdnabhpkdchjaa.P
namespace Go.Proofs.Ytpdnabhpkdchjaa.P
open Go.RowKit Go.Proofs.YtpdnabhpkdchjaaW.PrintWords Go.Proofs.YtpdnabhpkdchjaaW.PrintLast
set_option linter.unusedVariables false
set_option linter.unusedSimpArgs false
def begin3 (n : Int) (l : List S88) : Bool × List S50 × List Bool := if layoutOk n l = 0 then (true, List.replicate n.toNat z50, List.replicate l.length false) else (false, [], [])
theorem specBegin_ev (n : Int) (l : List S88) : Ev (fun k => spec_Begin.f k n l) (begin3 n l) := by
  unfold spec_Begin.f
  refine Ev.bind (specLayoutOk_ev n l) ?_
  by_cases hl : layoutOk n l = 0
  · obtain ⟨hn1, hn2, hc⟩ := lay_n hl
    refine Ev.ite_pos hl (Ev.ite_pos (by omega) (Ev.ite_pos (by omega) (Ev.ite_pos (by omega) (Ev.ite_pos (by omega) ?_))))
    rw [begin3, if_pos hl]
    exact Ev.now _
  · refine Ev.ite_neg hl ?_
    rw [begin3, if_neg hl]
    exact Ev.now _
theorem implBegin_eq (n : Int) (l : List S88) : impl_Begin.f n l = some (begin3 n l) := by
  unfold impl_Begin.f impl_LayoutOk.f
  rw [Option.bind_some, begin3]
  by_cases hl : layoutOk n l = 0
  · obtain ⟨hn1, hn2, hc⟩ := lay_n hl
    rw [if_pos hl, if_pos (by omega), if_pos (by omega), if_pos (by omega), if_pos (by omega), if_pos hl]
    rfl
  · rw [if_neg hl, if_neg hl]
end Go.Proofs.Ytpdnabhpkdchjaa.P
namespace Go.Proofs.Ytpdnabhpkdchjaa.P
open Go.RowKit Go.Proofs.YtpdnabhpkdchjaaW.PrintWords Go.Proofs.YtpdnabhpkdchjaaW.PrintLast Go.Proofs.YtpdnabhpkdchjaaW.PrintMore
set_option linter.unusedVariables false
set_option linter.unusedSimpArgs false
theorem own_empty {α : Type} (d : Kd α) (e : Nat) (W : World) : d.R e (W.alloc (.cells #[] e)) W.heap.size (fun _ => True) (.slice (some ⟨W.heap.size, 0, none⟩) 0 0) [] :=
  ⟨fun _ _ => trivial, OwnRow.lit W W.heap.size (Reps.none _ _) (Nat.le_refl _) (by simp)⟩
theorem C_none {α : Type} {d : Kd α} {w : World} {l : List α} (h : d.C w none l.length l) : l = [] := by
  rcases Nat.eq_zero_or_pos l.length with h0 | h0
  · exact List.eq_nil_of_length_eq_zero h0
  · obtain ⟨ad, h, _⟩ := h.2.2 h0
    cases h
def impl_Section.f (l0 : List S50) : Option (List S50) := if l0.length ≤ 1000000 then some l0 else none
set_option maxHeartbeats 1000000 in
set_option maxRecDepth 100000 in
theorem impl_Section.calls (A0 : Option Addr) (c0 : Nat) (l0 : List S50) (r : List S50) (w : World) (hr0 : Kd.C k50 w A0 l0.length l0) (hc0 : l0.length ≤ c0) (h : impl_Section.f l0 = some r) :
    Calls Try.prog 94 #[.slice A0 l0.length c0] w fun e w' => ∃ v0_ : Value, e = .returned (v0_) ∧ Kd.R k50 50 w' w.heap.size (fun _ => True) v0_ r ∧ Below w.heap.size w w' := by
  have hq : ∀ (w : World) (a : Option Addr) (n c n' c' : Nat), (binOp .eql 43 (.slice a n c) (.slice none n' c')).run Try.prog w = .ok (.bool a.isNone) w := fun w a n c n' c' => Lib.run_eql_slice_nil w _ _ a n c n' c' Try.underlying43
  unfold impl_Section.f at h
  split at h
  · rename_i hl
    obtain rfl := Option.some.inj h
    clear h
    have HL := Aside0.mk hl
    have HR := Aside0.mk hr0
    clear hr0 hl hc0
    rcases A0 with _ | ad
    · have h0 := C_none HR.out
      subst h0
      go_enter Try.func94, Try.ntmps94
      go_wp2
      go_ret
      exact ⟨_, rfl, Kd.R_nil _ _ _ _ _, Below.refl _ _⟩
    · go_enter Try.func94, Try.ntmps94
      go_wp2_with (at_builtin; refine Kd.R_append_rows k50 (w0 := w) w.heap.size rfl (.tmp 5) (.tmp 6) 43 50 (.agg #[(.int .i64 0), (.int .i64 0), (.bool false), (.bool false), (.int .i64 0)]) 32 rfl Try.underlying43 info50 rfl (by decide) (by decide) (.slice (some ⟨w.heap.size, 0, none⟩) 0 0) [] l0 _ _ _ (fun _ => True) (fun _ => False) rfl rfl (own_empty k50 50 w) (Kd.C_below HR.out (below_alloc (Below.refl _ _) _)) (fun _ _ h => h) (fun _ h => h.elim) (fun _ _ => trivial) (below_alloc (Below.refl _ _) _) (by simp) (by have := HL.out; simp; omega) ?_; intro v1 w1 hown hB _ _; have HO := Aside0.mk hown; have HB := Aside0.mk hB; clear hown hB)
      go_ret
      exact ⟨_, rfl, HO.out, HB.out⟩
  · cases h
def slices_Clone_bool_bool.f (l0 : List Bool) : Option (List Bool) := if l0.length ≤ 1000000 then some l0 else none
set_option maxHeartbeats 1000000 in
set_option maxRecDepth 100000 in
theorem slices_Clone_bool_bool.calls (A0 : Option Addr) (c0 : Nat) (l0 : List Bool) (r : List Bool) (w : World) (hr0 : Kd.C Kd.bool w A0 l0.length l0) (hc0 : l0.length ≤ c0) (h : slices_Clone_bool_bool.f l0 = some r) :
    Calls Try.prog 95 #[.slice A0 l0.length c0] w fun e w' => ∃ v0_ : Value, e = .returned (v0_) ∧ Kd.R Kd.bool 4 w' w.heap.size (fun _ => True) v0_ r ∧ Below w.heap.size w w' := by
  have hq : ∀ (w : World) (a : Option Addr) (n c n' c' : Nat), (binOp .eql 44 (.slice a n c) (.slice none n' c')).run Try.prog w = .ok (.bool a.isNone) w := fun w a n c n' c' => Lib.run_eql_slice_nil w _ _ a n c n' c' Try.underlying44
  unfold slices_Clone_bool_bool.f at h
  split at h
  · rename_i hl
    obtain rfl := Option.some.inj h
    clear h
    have HL := Aside0.mk hl
    have HR := Aside0.mk hr0
    clear hr0 hl hc0
    rcases A0 with _ | ad
    · have h0 := C_none HR.out
      subst h0
      go_enter Try.func95, Try.ntmps95
      go_wp2
      go_ret
      exact ⟨_, rfl, Kd.R_nil _ _ _ _ _, Below.refl _ _⟩
    · go_enter Try.func95, Try.ntmps95
      go_wp2_with (at_builtin; refine Kd.R_append_rows Kd.bool (w0 := w) w.heap.size rfl (.tmp 5) (.tmp 6) 44 4 (.bool false) 1 rfl Try.underlying44 info4 rfl (by decide) (by decide) (.slice (some ⟨w.heap.size, 0, none⟩) 0 0) [] l0 _ _ _ (fun _ => True) (fun _ => False) rfl rfl (own_empty Kd.bool 4 w) (Kd.C_below HR.out (below_alloc (Below.refl _ _) _)) (fun _ _ h => h) (fun _ h => h.elim) (fun _ _ => trivial) (below_alloc (Below.refl _ _) _) (by simp) (by have := HL.out; simp; omega) ?_; intro v1 w1 hown hB _ _; have HO := Aside0.mk hown; have HB := Aside0.mk hB; clear hown hB)
      go_ret
      exact ⟨_, rfl, HO.out, HB.out⟩
  · cases h
end Go.Proofs.Ytpdnabhpkdchjaa.P
namespace Go.Proofs.Ytpdnabhpkdchjaa.P
open Go.RowKit Go.Proofs.YtpdnabhpkdchjaaW.PrintWords Go.Proofs.YtpdnabhpkdchjaaW.PrintLast
set_option linter.unusedVariables false
set_option linter.unusedSimpArgs false
def axle (c : S88) (d : Int) (row : List Int) : List Int :=
  let row1 := if 0 ≤ c.f0 then row.set c.f0.toNat (wrap64 (rd row c.f0 - d)) else row
  if 0 ≤ c.f1 then row1.set c.f1.toNat (wrap64 (rd row1 c.f1 + d)) else row1
def isPass (n : Int) (l : List S88) (e : S56) : Bool := eventOk n l e.f0 e.f1 e.f2 && decide (e.f0 = 1)
def tstep (n : Int) (l : List S88) (row : List Int) (e : S56) : List Int := if isPass n l e then axle (rd_T88 l e.f1) e.f2 row else row
def row0 (n : Int) : List Int := List.replicate n.toNat 0
def truthAt (n : Int) (l : List S88) (es : List S56) (k : Nat) : List Int := (es.take k).foldl (tstep n l) (row0 n)
theorem lay_ctr {n : Int} {l : List S88} (h : layoutOk n l = 0) : ∀ x ∈ l, -1 ≤ x.f0 ∧ x.f0 < n ∧ -1 ≤ x.f1 ∧ x.f1 < n ∧ x.f0 ≠ x.f1 := by
  unfold layoutOk at h
  split at h
  · cases h
  · split at h
    · cases h
    · split at h
      · cases h
      · split at h
        · rename_i hall
          intro x hx
          have := List.all_eq_true.1 hall x hx
          simp only [ctrOk, inB, Bool.and_eq_true, decide_eq_true_eq, Bool.not_eq_true', beq_eq_false_iff_ne] at this
          exact ⟨this.1.1.1, this.1.1.2, this.1.2.1, this.1.2.2, this.2⟩
        · cases h
theorem lay_rd {n : Int} {l : List S88} (h : layoutOk n l = 0) (i : Int) (h0 : 0 ≤ i) (h1 : i < l.length) : -1 ≤ (rd_T88 l i).f0 ∧ (rd_T88 l i).f0 < n ∧ -1 ≤ (rd_T88 l i).f1 ∧ (rd_T88 l i).f1 < n ∧ (rd_T88 l i).f0 ≠ (rd_T88 l i).f1 := by
  refine lay_ctr h _ ?_
  have hlt : i.toNat < l.length := by omega
  have : rd_T88 l i = l[i.toNat] := by simp [rd_T88, hlt]
  rw [this]
  exact List.getElem_mem hlt
section
variable {n : Int} {l : List S88} {es : List S56} {R : List (List Int)}
theorem rd56 (l : List S56) (i : Nat) (h : i < l.length) : rd_T56 l (i : Int) = l[i] := by simp [rd_T56, h]
end
end Go.Proofs.Ytpdnabhpkdchjaa.P
namespace Go.Proofs.Ytpdnabhpkdchjaa.P
open Go.RowKit Go.Proofs.YtpdnabhpkdchjaaW.PrintWords Go.Proofs.YtpdnabhpkdchjaaW.PrintLast
set_option linter.unusedVariables false
set_option linter.unusedSimpArgs false
def prevP (ps : List S143) : Nat → Int
  | 0 => 0
  | k + 1 => (rd_T143 ps (k : Int)).f0
def prevA (ax : List Int) : Nat → Int
  | 0 => 0
  | k + 1 => rd ax (k : Int)
def postAt (l : List S88) (ps : List S143) (k : Nat) : Bool :=
  (decide (prevP ps k ≤ (rd_T143 ps (k : Int)).f0) && decide ((rd_T143 ps (k : Int)).f0 ≤ 1000000)) && (decide (0 ≤ (rd_T143 ps (k : Int)).f1) && decide ((rd_T143 ps (k : Int)).f1 < (l.length : Int))) && (decide ((rd_T143 ps (k : Int)).f2 = 1) || decide ((rd_T143 ps (k : Int)).f2 = -1))
def postsTo (l : List S88) (ps : List S143) : Nat → Bool
  | 0 => true
  | k + 1 => postsTo l ps k && postAt l ps k
def axleAt (ax : List Int) (k : Nat) : Bool := decide (prevA ax k ≤ rd ax (k : Int)) && decide (rd ax (k : Int) ≤ 1000000)
def axlesTo (ax : List Int) : Nat → Bool
  | 0 => true
  | k + 1 => axlesTo ax k && axleAt ax k
def passOk (n : Int) (l : List S88) (ps : List S143) (ax : List Int) (fr tt : Int) : Bool :=
  decide (layoutOk n l = 0) && (postsTo l ps ps.length && decide (ps.length ≤ 120)) && (axlesTo ax ax.length && decide (ax.length ≤ 200)) && (decide (0 ≤ fr) && decide (fr ≤ 1000000)) && (decide (fr ≤ tt) && decide (tt ≤ 1000000))
def passing (n : Int) (l : List S88) (ps : List S143) (ax : List Int) (fr tt : Int) : List S56 := if passOk n l ps ax fr tt = true then trainEvs ps ax fr tt else []
theorem postsTo_false {l : List S88} {ps : List S143} {i : Nat} (h : postsTo l ps i = false) : ∀ d, postsTo l ps (i + d) = false
  | 0 => h
  | d + 1 => by show (postsTo l ps (i + d) && _) = false; rw [postsTo_false h d]; rfl
theorem postsTo_at {l : List S88} {ps : List S143} : ∀ {n : Nat}, postsTo l ps n = true → ∀ k, k < n → postAt l ps k = true
  | n + 1, h, k, hk => by
    rw [postsTo, Bool.and_eq_true] at h
    by_cases e : k = n
    · rw [e]; exact h.2
    · exact postsTo_at h.1 k (by omega)
theorem axlesTo_false {ax : List Int} {i : Nat} (h : axlesTo ax i = false) : ∀ d, axlesTo ax (i + d) = false
  | 0 => h
  | d + 1 => by show (axlesTo ax (i + d) && _) = false; rw [axlesTo_false h d]; rfl
theorem axlesTo_at {ax : List Int} : ∀ {n : Nat}, axlesTo ax n = true → ∀ k, k < n → axleAt ax k = true
  | n + 1, h, k, hk => by
    rw [axlesTo, Bool.and_eq_true] at h
    by_cases e : k = n
    · rw [e]; exact h.2
    · exact axlesTo_at h.1 k (by omega)
theorem post_parts {l : List S88} {ps : List S143} {k : Nat} (h : postAt l ps k = true) : (prevP ps k ≤ (rd_T143 ps (k : Int)).f0 ∧ (rd_T143 ps (k : Int)).f0 ≤ 1000000) ∧ (0 ≤ (rd_T143 ps (k : Int)).f1 ∧ (rd_T143 ps (k : Int)).f1 < (l.length : Int)) ∧ ((rd_T143 ps (k : Int)).f2 = 1 ∨ (rd_T143 ps (k : Int)).f2 = -1) := by
  unfold postAt at h
  simp only [Bool.and_eq_true, Bool.or_eq_true, decide_eq_true_eq] at h
  exact ⟨h.1.1, h.1.2, h.2⟩
theorem axle_parts {ax : List Int} {k : Nat} (h : axleAt ax k = true) : prevA ax k ≤ rd ax (k : Int) ∧ rd ax (k : Int) ≤ 1000000 := by
  unfold axleAt at h
  simpa only [Bool.and_eq_true, decide_eq_true_eq] using h
theorem post_in {l : List S88} {ps : List S143} {n : Nat} (h : postsTo l ps n = true) : ∀ k, k < n → 0 ≤ (rd_T143 ps (k : Int)).f0 ∧ (rd_T143 ps (k : Int)).f0 ≤ 1000000
  | 0, hk => (post_parts (postsTo_at h 0 hk)).1
  | k + 1, hk => by
    have h1 := (post_parts (postsTo_at h (k + 1) hk)).1
    have h2 := post_in h k (by omega)
    have h3 : (rd_T143 ps (k : Int)).f0 ≤ (rd_T143 ps ((k + 1 : Nat) : Int)).f0 := h1.1
    exact ⟨by omega, h1.2⟩
theorem axle_in {ax : List Int} {n : Nat} (h : axlesTo ax n = true) : ∀ k : Nat, k < n → 0 ≤ rd ax (k : Int) ∧ rd ax (k : Int) ≤ 1000000
  | 0, hk => axle_parts (axlesTo_at h 0 hk)
  | k + 1, hk => by
    have h1 := axle_parts (axlesTo_at h (k + 1) hk)
    have h2 := axle_in h k (by omega)
    have h3 : rd ax (k : Int) ≤ rd ax ((k + 1 : Nat) : Int) := h1.1
    exact ⟨by omega, h1.2⟩
end Go.Proofs.Ytpdnabhpkdchjaa.P
namespace Go.Proofs.Ytpdnabhpkdchjaa.P
open Go.RowKit Go.Proofs.YtpdnabhpkdchjaaW.PrintWords Go.Proofs.YtpdnabhpkdchjaaW.PrintLast Go.Proofs.YtpdnabhpkdchjaaW.PrintMore
set_option linter.unusedVariables false
set_option linter.unusedSimpArgs false
section
variable {w : World} {base : Nat} {ok : Nat → Prop} {g n c : Nat} {l : List S50}
theorem sec_at (h : Kd.R k50 50 w base ok (.slice (some ⟨g, 0, none⟩) n c) l) (i : Int) (h0 : 0 ≤ i) (h1 : i < n) :
    w.cell? ⟨g, i.toNat * 5, none⟩ = some (.int .i64 (rd_T50 l i).f0) ∧ w.cell? ⟨g, i.toNat * 5 + 1, none⟩ = some (.int .i64 (rd_T50 l i).f1) ∧ w.cell? ⟨g, i.toNat * 5 + 2, none⟩ = some (.bool (rd_T50 l i).f2) ∧
    w.cell? ⟨g, i.toNat * 5 + 3, none⟩ = some (.bool (rd_T50 l i).f3) ∧ w.cell? ⟨g, i.toNat * 5 + 4, none⟩ = some (.int .i64 (rd_T50 l i).f4) ∧
    w.frozen? ⟨g, i.toNat * 5, none⟩ = false ∧ w.frozen? ⟨g, i.toNat * 5 + 1, none⟩ = false ∧ w.frozen? ⟨g, i.toNat * 5 + 2, none⟩ = false ∧ w.frozen? ⟨g, i.toNat * 5 + 3, none⟩ = false ∧ w.frozen? ⟨g, i.toNat * 5 + 4, none⟩ = false := by
  obtain ⟨ce, hcl, hM, hcc, hfr⟩ := Kd.R_elem h z50 i h0 h1
  obtain rfl := k50_openM hM
  exact ⟨hcc 0 _ rfl, hcc 1 _ rfl, hcc 2 _ rfl, hcc 3 _ rfl, hcc 4 _ rfl, hfr 0, hfr 1, hfr 2, hfr 3, hfr 4⟩
theorem sec_put (h : Kd.R k50 50 w base ok (.slice (some ⟨g, 0, none⟩) n c) l) (i : Int) (h0 : 0 ≤ i) (h1 : i < n) (j : Nat) (hj : j < 5) (u : Value) (x' : S50)
    (hx : ([.int .i64 (rd_T50 l i).f0, .int .i64 (rd_T50 l i).f1, .bool (rd_T50 l i).f2, .bool (rd_T50 l i).f3, .int .i64 (rd_T50 l i).f4] : List Value).take j ++ [u] ++ ([.int .i64 (rd_T50 l i).f0, .int .i64 (rd_T50 l i).f1, .bool (rd_T50 l i).f2, .bool (rd_T50 l i).f3, .int .i64 (rd_T50 l i).f4] : List Value).drop (j + 1) = [.int .i64 x'.f0, .int .i64 x'.f1, .bool x'.f2, .bool x'.f3, .int .i64 x'.f4]) :
    Kd.R k50 50 (w.setCell ⟨g, i.toNat * 5 + j, none⟩ u) base ok (.slice (some ⟨g, 0, none⟩) n c) (l.set i.toNat x') ∧ w.grownBy (w.setCell ⟨g, i.toNat * 5 + j, none⟩ u) (some g) := by
  obtain ⟨ce, hcl, hM, hcc, hfr⟩ := Kd.R_elem h z50 i h0 h1
  have hM0 := k50_openM hM
  change ce = [.int .i64 (rd_T50 l i).f0, .int .i64 (rd_T50 l i).f1, .bool (rd_T50 l i).f2, .bool (rd_T50 l i).f3, .int .i64 (rd_T50 l i).f4] at hM0
  subst hM0
  have HP := Kd.R_seg h i h0 h1 (seg := [u]) (j := j) (okp := fun k => ok k ∧ k ≠ g) hcl hcc (show j + 1 ≤ 5 by omega) (x' := x') (by
    have e : ([.int .i64 (rd_T50 l i).f0, .int .i64 (rd_T50 l i).f1, .bool (rd_T50 l i).f2, .bool (rd_T50 l i).f3, .int .i64 (rd_T50 l i).f4] : List Value).take j ++ [u] ++ ([.int .i64 (rd_T50 l i).f0, .int .i64 (rd_T50 l i).f1, .bool (rd_T50 l i).f2, .bool (rd_T50 l i).f3, .int .i64 (rd_T50 l i).f4] : List Value).drop (j + 1) = _ := hx
    show k50.M w base _ x' (_ ++ [u] ++ List.drop (j + 1) _)
    rw [e]
    exact k50_mkM _ _ _ x') (fun _ hk => hk)
  exact HP
def SecSt (base : Nat) (ok : Nat → Prop) (g n c : Nat) (l : List S50) (i : Int) (w0 w : World) (y : S50) : Prop :=
  Kd.R k50 50 w base ok (.slice (some ⟨g, 0, none⟩) n c) (l.set i.toNat y) ∧ w0.grownBy w (some g)
variable {i : Int} {w0 : World} {a0 a1 a4 : Int} {a2 a3 : Bool}
theorem SecSt.start (h : Kd.R k50 50 w base ok (.slice (some ⟨g, 0, none⟩) n c) l) (h0 : 0 ≤ i) (h1 : i < n) : SecSt base ok g n c l i w w ⟨(rd_T50 l i).f0, (rd_T50 l i).f1, (rd_T50 l i).f2, (rd_T50 l i).f3, (rd_T50 l i).f4⟩ := by
  refine ⟨?_, World.grownBy.refl w _⟩
  have hl := (Kd.R_reads' h).1
  have e : l.set i.toNat ⟨(rd_T50 l i).f0, (rd_T50 l i).f1, (rd_T50 l i).f2, (rd_T50 l i).f3, (rd_T50 l i).f4⟩ = l := by
    have hlt : i.toNat < l.length := by omega
    show l.set i.toNat (rd_T50 l i) = l
    simp only [rd_T50, List.getD_eq_getElem?_getD, List.getElem?_eq_getElem hlt, Option.getD_some, List.set_getElem_self]
  rw [e]
  exact h
theorem SecSt.put (h : SecSt base ok g n c l i w0 w ⟨a0, a1, a2, a3, a4⟩) (h0 : 0 ≤ i) (h1 : i < n) (j : Nat) (hj : j < 5) (u : Value) (x' : S50)
    (hx : ([.int .i64 a0, .int .i64 a1, .bool a2, .bool a3, .int .i64 a4] : List Value).take j ++ [u] ++ ([.int .i64 a0, .int .i64 a1, .bool a2, .bool a3, .int .i64 a4] : List Value).drop (j + 1) = [.int .i64 x'.f0, .int .i64 x'.f1, .bool x'.f2, .bool x'.f3, .int .i64 x'.f4]) :
    SecSt base ok g n c l i w0 (w.setCell ⟨g, i.toNat * 5 + j, none⟩ u) x' := by
  have hl := (Kd.R_reads' h.1).1
  have hlt : i.toNat < l.length := by simp at hl; omega
  have e : rd_T50 (l.set i.toNat ⟨a0, a1, a2, a3, a4⟩) i = ⟨a0, a1, a2, a3, a4⟩ := by
    simp [rd_T50, List.getD_eq_getElem?_getD, List.getElem?_set_self hlt]
  obtain ⟨h2, h3⟩ := sec_put h.1 i h0 h1 j hj u x' (by rw [e]; exact hx)
  rw [List.set_set] at h2
  exact ⟨h2, h.2.trans h3⟩
theorem SecSt.put0 (h : SecSt base ok g n c l i w0 w ⟨a0, a1, a2, a3, a4⟩) (h0 : 0 ≤ i) (h1 : i < n) {u : Int} {off : Nat} (ho : off = i.toNat * 5 + 0) : SecSt base ok g n c l i w0 (w.setCell ⟨g, off, none⟩ (.int .i64 u)) ⟨u, a1, a2, a3, a4⟩ := ho ▸ h.put h0 h1 0 (by omega) _ _ rfl
theorem SecSt.put1 (h : SecSt base ok g n c l i w0 w ⟨a0, a1, a2, a3, a4⟩) (h0 : 0 ≤ i) (h1 : i < n) {u : Int} {off : Nat} (ho : off = i.toNat * 5 + 1) : SecSt base ok g n c l i w0 (w.setCell ⟨g, off, none⟩ (.int .i64 u)) ⟨a0, u, a2, a3, a4⟩ := ho ▸ h.put h0 h1 1 (by omega) _ _ rfl
theorem SecSt.put2 (h : SecSt base ok g n c l i w0 w ⟨a0, a1, a2, a3, a4⟩) (h0 : 0 ≤ i) (h1 : i < n) {u : Bool} {off : Nat} (ho : off = i.toNat * 5 + 2) : SecSt base ok g n c l i w0 (w.setCell ⟨g, off, none⟩ (.bool u)) ⟨a0, a1, u, a3, a4⟩ := ho ▸ h.put h0 h1 2 (by omega) _ _ rfl
theorem SecSt.put3 (h : SecSt base ok g n c l i w0 w ⟨a0, a1, a2, a3, a4⟩) (h0 : 0 ≤ i) (h1 : i < n) {u : Bool} {off : Nat} (ho : off = i.toNat * 5 + 3) : SecSt base ok g n c l i w0 (w.setCell ⟨g, off, none⟩ (.bool u)) ⟨a0, a1, a2, u, a4⟩ := ho ▸ h.put h0 h1 3 (by omega) _ _ rfl
theorem SecSt.put4 (h : SecSt base ok g n c l i w0 w ⟨a0, a1, a2, a3, a4⟩) (h0 : 0 ≤ i) (h1 : i < n) {u : Int} {off : Nat} (ho : off = i.toNat * 5 + 4) : SecSt base ok g n c l i w0 (w.setCell ⟨g, off, none⟩ (.int .i64 u)) ⟨a0, a1, a2, a3, u⟩ := ho ▸ h.put h0 h1 4 (by omega) _ _ rfl
theorem SecSt.eq {y z : S50} (h : SecSt base ok g n c l i w0 w y) (e : z = y) : SecSt base ok g n c l i w0 w z := e ▸ h
end
def cntN (x : S50) (b : Int) : Int := if -1000000 ≤ wrap64 (x.f1 + b) ∧ wrap64 (x.f1 + b) ≤ 1000000 then wrap64 (x.f1 + b) else x.f1
def countS (x : S50) (b : Int) : S50 := ⟨x.f0, cntN x b, x.f2 || decide (cntN x b < 0), x.f3 && !(decide (cntN x b = 0) && decide (b = -1)), b⟩
theorem cnt_in {x : S50} {b : Int} (h1 : -1000000 ≤ wrap64 (x.f1 + b)) (h2 : wrap64 (x.f1 + b) ≤ 1000000) : cntN x b = wrap64 (x.f1 + b) := by unfold cntN; rw [if_pos ⟨h1, h2⟩]
theorem cnt_lo {x : S50} {b : Int} (h1 : ¬ -1000000 ≤ wrap64 (x.f1 + b)) : cntN x b = x.f1 := by unfold cntN; rw [if_neg (fun h => h1 h.1)]
theorem cnt_hi {x : S50} {b : Int} (h1 : ¬ wrap64 (x.f1 + b) ≤ 1000000) : cntN x b = x.f1 := by unfold cntN; rw [if_neg (fun h => h1 h.2)]
theorem countS_eq {x : S50} {b C : Int} {lost sw : Bool} (hC : cntN x b = C) (hl : (x.f2 || decide (C < 0)) = lost) (hs : (x.f3 && !(decide (C = 0) && decide (b = -1))) = sw) : countS x b = ⟨x.f0, C, lost, sw, b⟩ := by
  unfold countS
  rw [hC, hl, hs]
theorem cnt_out (s b : Int) (v : Value) (w : World) (h : s < 0) : Calls Try.prog 130 #[.int .i64 s, .int .i64 b, v] w fun e w' => e = .returned (.tuple #[]) ∧ w = w' := by
  have h1 : decide (s < 0) = true := decide_eq_true h
  go_enter Try.func130, Try.ntmps130
  go_wp2
  refine bodyPost_ret (results_none rfl _ _ _) rfl ?_
  exact ⟨rfl, rfl⟩
set_option maxHeartbeats 4000000 in
set_option maxRecDepth 100000 in
theorem cnt_calls (s b : Int) (bo : Bool) (g gr n c : Nat) (v2 : Value) (l : List S50) (w : World) (base : Nat) (ok : Nat → Prop) (h0 : 0 ≤ s) (h1 : s < n)
    (hb : w.heap[g]? = some (.cells #[.bool bo, .slice (some ⟨gr, 0, none⟩) n c, v2] 46 (0, 0))) (HO : Kd.R k50 50 w base ok (.slice (some ⟨gr, 0, none⟩) n c) l) :
    Calls Try.prog 130 #[.int .i64 s, .int .i64 b, .pointer (some ⟨g, 0, none⟩)] w fun e w' => e = .returned (.tuple #[]) ∧ Kd.R k50 50 w' base ok (.slice (some ⟨gr, 0, none⟩) n c) (l.set s.toNat (countS (rd_T50 l s) b)) ∧ w.grownBy w' (some gr) := by
  obtain ⟨x0, x1, x2, x3, x4, f0, f1, f2, f3, f4⟩ := sec_at HO s h0 h1
  have hc1 : w.cell? ⟨g, 1, none⟩ = some (.slice (some ⟨gr, 0, none⟩) n c) := (blk_cell hb 1).trans rfl
  have hs : decide (s < 0) = false := decide_eq_false (by omega)
  have H0 := Aside0.mk h0
  have H1 := Aside0.mk h1
  have HO2 := Aside0.mk HO
  have hp0 := eq_true h0
  have hp1 := eq_true h1
  have ST := Aside0.mk (SecSt.start HO H0.out H1.out)
  generalize hx : rd_T50 l s = x at x0 x1 x2 x3 x4 ST ⊢
  have HX := hx
  clear hx hb h0 h1 HO HO2 HX
  by_cases q1 : -1000000 ≤ wrap64 (x.f1 + b)
  · skip
    have f1 : decide (wrap64 (x.f1 + b) ≥ -1000000) = true := decide_eq_true q1
    have Q1 := Aside0.mk q1
    clear q1
    by_cases q2 : wrap64 (x.f1 + b) ≤ 1000000
    · skip
      have f2 : decide (wrap64 (x.f1 + b) ≤ 1000000) = true := decide_eq_true q2
      have Q2 := Aside0.mk q2
      clear q2
      by_cases q3 : wrap64 (x.f1 + b) < 0
      · skip
        have f3 : decide (wrap64 (x.f1 + b) < 0) = true := decide_eq_true q3
        have Q3 := Aside0.mk q3
        clear q3
        rcases Bool.eq_false_or_eq_true x.f3 with q4 | q4
        · skip
          by_cases q5 : wrap64 (x.f1 + b) = 0
          · skip
            have f5 : (wrap64 (x.f1 + b) == 0) = true := beq_iff_eq.mpr q5
            have Q5 := Aside0.mk q5
            clear q5
            exact absurd Q5.out (by have := Q3.out; omega)
          · skip
            have f5 : (wrap64 (x.f1 + b) == 0) = false := beq_eq_false_iff_ne.mpr q5
            have Q5 := Aside0.mk q5
            clear q5
            go_enter Try.func130, Try.ntmps130
            go_wp2
            go_end0
            exact ⟨rfl, SecSt.eq (((ST.out.put1 H0.out H1.out rfl).put4 H0.out H1.out rfl).put2 H0.out H1.out rfl) (countS_eq (cnt_in (by have := Q1.out; omega) (by have := Q2.out; omega)) (by rw [decide_eq_true (by have := Q3.out; omega)]; simp) (by rw [decide_eq_false (by have := Q5.out; omega)]; simp))⟩
        · have Q4 := Aside0.mk q4
          go_enter Try.func130, Try.ntmps130
          go_wp2
          go_end0
          exact ⟨rfl, SecSt.eq (((ST.out.put1 H0.out H1.out rfl).put4 H0.out H1.out rfl).put2 H0.out H1.out rfl) (countS_eq (cnt_in (by have := Q1.out; omega) (by have := Q2.out; omega)) (by rw [decide_eq_true (by have := Q3.out; omega)]; simp) (by rw [Q4.out]; rfl))⟩
      · skip
        have f3 : decide (wrap64 (x.f1 + b) < 0) = false := decide_eq_false q3
        have Q3 := Aside0.mk q3
        clear q3
        rcases Bool.eq_false_or_eq_true x.f3 with q4 | q4
        · skip
          by_cases q5 : wrap64 (x.f1 + b) = 0
          · skip
            have f5 : (wrap64 (x.f1 + b) == 0) = true := beq_iff_eq.mpr q5
            have Q5 := Aside0.mk q5
            clear q5
            by_cases q6 : b = -1
            · skip
              have f6 : (b == -1) = true := beq_iff_eq.mpr q6
              have Q6 := Aside0.mk q6
              clear q6
              go_enter Try.func130, Try.ntmps130
              go_wp2
              go_end0
              exact ⟨rfl, SecSt.eq (((ST.out.put1 H0.out H1.out rfl).put4 H0.out H1.out rfl).put3 H0.out H1.out rfl) (countS_eq (cnt_in (by have := Q1.out; omega) (by have := Q2.out; omega)) (by rw [decide_eq_false (by have := Q3.out; omega)]; simp) (by rw [decide_eq_true (by have := Q5.out; omega), decide_eq_true (by have := Q6.out; omega)]; simp))⟩
            · skip
              have f6 : (b == -1) = false := beq_eq_false_iff_ne.mpr q6
              have Q6 := Aside0.mk q6
              clear q6
              go_enter Try.func130, Try.ntmps130
              go_wp2
              go_end0
              exact ⟨rfl, SecSt.eq ((ST.out.put1 H0.out H1.out rfl).put4 H0.out H1.out rfl) (countS_eq (cnt_in (by have := Q1.out; omega) (by have := Q2.out; omega)) (by rw [decide_eq_false (by have := Q3.out; omega)]; simp) (by rw [decide_eq_false (show ¬ b = -1 from Q6.out)]; simp))⟩
          · skip
            have f5 : (wrap64 (x.f1 + b) == 0) = false := beq_eq_false_iff_ne.mpr q5
            have Q5 := Aside0.mk q5
            clear q5
            go_enter Try.func130, Try.ntmps130
            go_wp2
            go_end0
            exact ⟨rfl, SecSt.eq ((ST.out.put1 H0.out H1.out rfl).put4 H0.out H1.out rfl) (countS_eq (cnt_in (by have := Q1.out; omega) (by have := Q2.out; omega)) (by rw [decide_eq_false (by have := Q3.out; omega)]; simp) (by rw [decide_eq_false (by have := Q5.out; omega)]; simp))⟩
        · have Q4 := Aside0.mk q4
          go_enter Try.func130, Try.ntmps130
          go_wp2
          go_end0
          exact ⟨rfl, SecSt.eq ((ST.out.put1 H0.out H1.out rfl).put4 H0.out H1.out rfl) (countS_eq (cnt_in (by have := Q1.out; omega) (by have := Q2.out; omega)) (by rw [decide_eq_false (by have := Q3.out; omega)]; simp) (by rw [Q4.out]; rfl))⟩
    · skip
      have f2 : decide (wrap64 (x.f1 + b) ≤ 1000000) = false := decide_eq_false q2
      have Q2 := Aside0.mk q2
      clear q2
      by_cases q3 : x.f1 < 0
      · skip
        have f3 : decide (x.f1 < 0) = true := decide_eq_true q3
        have Q3 := Aside0.mk q3
        clear q3
        rcases Bool.eq_false_or_eq_true x.f3 with q4 | q4
        · skip
          by_cases q5 : x.f1 = 0
          · skip
            have f5 : (x.f1 == 0) = true := beq_iff_eq.mpr q5
            have Q5 := Aside0.mk q5
            clear q5
            exact absurd Q5.out (by have := Q3.out; omega)
          · skip
            have f5 : (x.f1 == 0) = false := beq_eq_false_iff_ne.mpr q5
            have Q5 := Aside0.mk q5
            clear q5
            go_enter Try.func130, Try.ntmps130
            go_wp2
            go_end0
            exact ⟨rfl, SecSt.eq ((ST.out.put4 H0.out H1.out rfl).put2 H0.out H1.out rfl) (countS_eq (cnt_hi (by have := Q2.out; omega)) (by rw [decide_eq_true (by have := Q3.out; omega)]; simp) (by rw [decide_eq_false (by have := Q5.out; omega)]; simp))⟩
        · have Q4 := Aside0.mk q4
          go_enter Try.func130, Try.ntmps130
          go_wp2
          go_end0
          exact ⟨rfl, SecSt.eq ((ST.out.put4 H0.out H1.out rfl).put2 H0.out H1.out rfl) (countS_eq (cnt_hi (by have := Q2.out; omega)) (by rw [decide_eq_true (by have := Q3.out; omega)]; simp) (by rw [Q4.out]; rfl))⟩
      · skip
        have f3 : decide (x.f1 < 0) = false := decide_eq_false q3
        have Q3 := Aside0.mk q3
        clear q3
        rcases Bool.eq_false_or_eq_true x.f3 with q4 | q4
        · skip
          by_cases q5 : x.f1 = 0
          · skip
            have f5 : (x.f1 == 0) = true := beq_iff_eq.mpr q5
            have Q5 := Aside0.mk q5
            clear q5
            by_cases q6 : b = -1
            · skip
              have f6 : (b == -1) = true := beq_iff_eq.mpr q6
              have Q6 := Aside0.mk q6
              clear q6
              go_enter Try.func130, Try.ntmps130
              go_wp2
              go_end0
              exact ⟨rfl, SecSt.eq ((ST.out.put4 H0.out H1.out rfl).put3 H0.out H1.out rfl) (countS_eq (cnt_hi (by have := Q2.out; omega)) (by rw [decide_eq_false (by have := Q3.out; omega)]; simp) (by rw [decide_eq_true (by have := Q5.out; omega), decide_eq_true (by have := Q6.out; omega)]; simp))⟩
            · skip
              have f6 : (b == -1) = false := beq_eq_false_iff_ne.mpr q6
              have Q6 := Aside0.mk q6
              clear q6
              go_enter Try.func130, Try.ntmps130
              go_wp2
              go_end0
              exact ⟨rfl, SecSt.eq (ST.out.put4 H0.out H1.out rfl) (countS_eq (cnt_hi (by have := Q2.out; omega)) (by rw [decide_eq_false (by have := Q3.out; omega)]; simp) (by rw [decide_eq_false (show ¬ b = -1 from Q6.out)]; simp))⟩
          · skip
            have f5 : (x.f1 == 0) = false := beq_eq_false_iff_ne.mpr q5
            have Q5 := Aside0.mk q5
            clear q5
            go_enter Try.func130, Try.ntmps130
            go_wp2
            go_end0
            exact ⟨rfl, SecSt.eq (ST.out.put4 H0.out H1.out rfl) (countS_eq (cnt_hi (by have := Q2.out; omega)) (by rw [decide_eq_false (by have := Q3.out; omega)]; simp) (by rw [decide_eq_false (by have := Q5.out; omega)]; simp))⟩
        · have Q4 := Aside0.mk q4
          go_enter Try.func130, Try.ntmps130
          go_wp2
          go_end0
          exact ⟨rfl, SecSt.eq (ST.out.put4 H0.out H1.out rfl) (countS_eq (cnt_hi (by have := Q2.out; omega)) (by rw [decide_eq_false (by have := Q3.out; omega)]; simp) (by rw [Q4.out]; rfl))⟩
  · skip
    have f1 : decide (wrap64 (x.f1 + b) ≥ -1000000) = false := decide_eq_false q1
    have Q1 := Aside0.mk q1
    clear q1
    by_cases q3 : x.f1 < 0
    · skip
      have f3 : decide (x.f1 < 0) = true := decide_eq_true q3
      have Q3 := Aside0.mk q3
      clear q3
      rcases Bool.eq_false_or_eq_true x.f3 with q4 | q4
      · skip
        by_cases q5 : x.f1 = 0
        · skip
          have f5 : (x.f1 == 0) = true := beq_iff_eq.mpr q5
          have Q5 := Aside0.mk q5
          clear q5
          exact absurd Q5.out (by have := Q3.out; omega)
        · skip
          have f5 : (x.f1 == 0) = false := beq_eq_false_iff_ne.mpr q5
          have Q5 := Aside0.mk q5
          clear q5
          go_enter Try.func130, Try.ntmps130
          go_wp2
          go_end0
          exact ⟨rfl, SecSt.eq ((ST.out.put4 H0.out H1.out rfl).put2 H0.out H1.out rfl) (countS_eq (cnt_lo (by have := Q1.out; omega)) (by rw [decide_eq_true (by have := Q3.out; omega)]; simp) (by rw [decide_eq_false (by have := Q5.out; omega)]; simp))⟩
      · have Q4 := Aside0.mk q4
        go_enter Try.func130, Try.ntmps130
        go_wp2
        go_end0
        exact ⟨rfl, SecSt.eq ((ST.out.put4 H0.out H1.out rfl).put2 H0.out H1.out rfl) (countS_eq (cnt_lo (by have := Q1.out; omega)) (by rw [decide_eq_true (by have := Q3.out; omega)]; simp) (by rw [Q4.out]; rfl))⟩
    · skip
      have f3 : decide (x.f1 < 0) = false := decide_eq_false q3
      have Q3 := Aside0.mk q3
      clear q3
      rcases Bool.eq_false_or_eq_true x.f3 with q4 | q4
      · skip
        by_cases q5 : x.f1 = 0
        · skip
          have f5 : (x.f1 == 0) = true := beq_iff_eq.mpr q5
          have Q5 := Aside0.mk q5
          clear q5
          by_cases q6 : b = -1
          · skip
            have f6 : (b == -1) = true := beq_iff_eq.mpr q6
            have Q6 := Aside0.mk q6
            clear q6
            go_enter Try.func130, Try.ntmps130
            go_wp2
            go_end0
            exact ⟨rfl, SecSt.eq ((ST.out.put4 H0.out H1.out rfl).put3 H0.out H1.out rfl) (countS_eq (cnt_lo (by have := Q1.out; omega)) (by rw [decide_eq_false (by have := Q3.out; omega)]; simp) (by rw [decide_eq_true (by have := Q5.out; omega), decide_eq_true (by have := Q6.out; omega)]; simp))⟩
          · skip
            have f6 : (b == -1) = false := beq_eq_false_iff_ne.mpr q6
            have Q6 := Aside0.mk q6
            clear q6
            go_enter Try.func130, Try.ntmps130
            go_wp2
            go_end0
            exact ⟨rfl, SecSt.eq (ST.out.put4 H0.out H1.out rfl) (countS_eq (cnt_lo (by have := Q1.out; omega)) (by rw [decide_eq_false (by have := Q3.out; omega)]; simp) (by rw [decide_eq_false (show ¬ b = -1 from Q6.out)]; simp))⟩
        · skip
          have f5 : (x.f1 == 0) = false := beq_eq_false_iff_ne.mpr q5
          have Q5 := Aside0.mk q5
          clear q5
          go_enter Try.func130, Try.ntmps130
          go_wp2
          go_end0
          exact ⟨rfl, SecSt.eq (ST.out.put4 H0.out H1.out rfl) (countS_eq (cnt_lo (by have := Q1.out; omega)) (by rw [decide_eq_false (by have := Q3.out; omega)]; simp) (by rw [decide_eq_false (by have := Q5.out; omega)]; simp))⟩
      · have Q4 := Aside0.mk q4
        go_enter Try.func130, Try.ntmps130
        go_wp2
        go_end0
        exact ⟨rfl, SecSt.eq (ST.out.put4 H0.out H1.out rfl) (countS_eq (cnt_lo (by have := Q1.out; omega)) (by rw [decide_eq_false (by have := Q3.out; omega)]; simp) (by rw [Q4.out]; rfl))⟩
end Go.Proofs.Ytpdnabhpkdchjaa.P
namespace Go.Proofs.Ytpdnabhpkdchjaa.P
open Go.RowKit Go.Proofs.YtpdnabhpkdchjaaW.PrintWords Go.Proofs.YtpdnabhpkdchjaaW.PrintLast Go.Proofs.YtpdnabhpkdchjaaW.PrintMore
set_option linter.unusedVariables false
set_option linter.unusedSimpArgs false
def loseS (x : S50) : S50 := ⟨x.f0, x.f1, true, x.f3, x.f4⟩
theorem lose_none (s : Int) (v : Value) (w : World) (h : s < 0) : Calls Try.prog 131 #[.int .i64 s, v] w fun e w' => e = .returned (.tuple #[]) ∧ w = w' := by
  have h1 : decide (s ≥ 0) = false := decide_eq_false (by omega)
  go_enter Try.func131, Try.ntmps131
  go_wp2
  go_end0
  exact ⟨rfl, rfl⟩
set_option maxHeartbeats 4000000 in
set_option maxRecDepth 100000 in
theorem lose_calls (s : Int) (bo : Bool) (g gr n c : Nat) (v2 : Value) (l : List S50) (w : World) (base : Nat) (ok : Nat → Prop) (h0 : 0 ≤ s) (h1 : s < n)
    (hb : w.heap[g]? = some (.cells #[.bool bo, .slice (some ⟨gr, 0, none⟩) n c, v2] 46 (0, 0))) (HO : Kd.R k50 50 w base ok (.slice (some ⟨gr, 0, none⟩) n c) l) :
    Calls Try.prog 131 #[.int .i64 s, .pointer (some ⟨g, 0, none⟩)] w fun e w' => e = .returned (.tuple #[]) ∧ Kd.R k50 50 w' base ok (.slice (some ⟨gr, 0, none⟩) n c) (l.set s.toNat (loseS (rd_T50 l s))) ∧ w.grownBy w' (some gr) := by
  obtain ⟨x0, x1, x2, x3, x4, f0, f1, f2, f3, f4⟩ := sec_at HO s h0 h1
  have hc1 : w.cell? ⟨g, 1, none⟩ = some (.slice (some ⟨gr, 0, none⟩) n c) := (blk_cell hb 1).trans rfl
  have hs : decide (s ≥ 0) = true := decide_eq_true (by omega)
  have H0 := Aside0.mk h0
  have H1 := Aside0.mk h1
  have hp0 := eq_true h0
  have hp1 := eq_true h1
  have ST := Aside0.mk (SecSt.start HO H0.out H1.out)
  generalize hx : rd_T50 l s = x at x0 x1 x2 x3 x4 ST ⊢
  clear hx hb h0 h1 HO
  go_enter Try.func131, Try.ntmps131
  go_wp2
  go_end0
  exact ⟨rfl, SecSt.eq (ST.out.put2 H0.out H1.out rfl) rfl⟩
end Go.Proofs.Ytpdnabhpkdchjaa.P
namespace Go.Proofs.Ytpdnabhpkdchjaa.P
open Go.RowKit Go.Proofs.YtpdnabhpkdchjaaW.PrintWords Go.Proofs.YtpdnabhpkdchjaaW.PrintLast Go.Proofs.YtpdnabhpkdchjaaW.PrintMore
attribute [local go_sem] max2_int min2_int max_two min_two max_three min_three max_four min_four
set_option linter.unusedVariables false
set_option linter.unusedSimpArgs false
mutual
def spec_Around.j0:Nat→Int→Bool→Int→List (S88)→Option (List Int)
 | 0,_,_,_,_=>none
 | k+1,x1,x18,x224000,x224001=>if x18=true then (some ([]:List Int)) else (spec_Around.l0 k x1 ([]:List Int) x224001 (x224001.length:Int) 0)
def spec_Around.l0:Nat→Int→List Int→List (S88)→Int→Int→Option (List Int)
 | 0,_,_,_,_,_=>none
 | k+1,x1,x5,x20,x21,x22=>if x22<x21 then (if 0≤x22 then (if x22<(x20.length:Int) then (if ((rd_T88 x20 x22).f0)=x1 then (if x5.length<17592186044416 then (spec_Around.l0 k x1 (x5 ++ [x22]) x20 x21 (wrap64 (x22+1))) else (none)) else (if ((rd_T88 x20 x22).f1)=x1 then (if x5.length<17592186044416 then (spec_Around.l0 k x1 (x5 ++ [x22]) x20 x21 (wrap64 (x22+1))) else (none)) else (spec_Around.l0 k x1 x5 x20 x21 (wrap64 (x22+1))))) else (none)) else (none)) else (some x5)
end
def spec_Around.f (k:Nat) (a0_0:Int) (l0_1:List (S88)) (a1:Int):Option (List Int):=(spec_LayoutOk.f k a0_0 l0_1).bind fun t224=>(if t224=0 then ((spec_l1in.f a1 0 (wrap64 (a0_0 - 1))).bind fun t225=>(spec_Around.j0 k a1 (!t225) a0_0 l0_1)) else (spec_Around.j0 k a1 true a0_0 l0_1))
set_option maxHeartbeats 8000000 in
set_option maxRecDepth 100000 in
theorem spec_Around.calls (k:Nat) (a0_0:Int) (A0_1:Option Addr) (c0_1:Nat) (l0_1:List (S88)) (a1:Int) (r:List Int) (w:World) (hr0_1:Kd.C k88 w A0_1 l0_1.length l0_1) (hc0_1:l0_1.length≤c0_1) (h:spec_Around.f k a0_0 l0_1 a1=some r) :
  Calls Try.prog 37 #[.agg #[.int .i64 a0_0,.slice A0_1 l0_1.length c0_1],.int .i64 a1] w fun e w'=>∃ v0_:Value,e=.returned (v0_)∧Kd.R (Kd.int .i64) 3 w' w.heap.size (fun _=>True) v0_ r∧Below w.heap.size w w':=by
 have hu30:=Try.underlying30
 have hu88:=Try.underlying88
 have HR0_1:=Aside0.mk hr0_1
 have HC0_1:=Aside0.mk hc0_1
 clear hr0_1 hc0_1
 have HB:=Aside0.mk (Below.refl w.heap.size w)
 have H:((spec_LayoutOk.f k a0_0 l0_1).bind fun t224=>(if t224=0 then ((spec_l1in.f a1 0 (wrap64 (a0_0 - 1))).bind fun t225=>(spec_Around.j0 k a1 (!t225) a0_0 l0_1)) else (spec_Around.j0 k a1 true a0_0 l0_1)))=some r:=h
 clear h
 have HC3:=Aside0.mk H
 clear H
 go_enter Try.func37,Try.ntmps37
 go_upto_region 1 with (first|((with_reducible refine gate_dst (N:=2) rfl ?_);refine box_event ?hg (N:=2) ?hd (cs:=#[.int .i64 a0_0,.slice A0_1 l0_1.length c0_1]) (t:=30) ?hr ?_;(case hd=>rfl);(case hg=>rfl);(case hr=>first|(go_simp;done)|(go_simp;rfl));intro gb223 hg w4 hbox hb;have n0_:=Aside0.mk (below_step (by exact HB.out) hb);have n1_:=Aside0.mk (hbox);have n2_:=Aside0.mk ((by rw [hg];exact (below_size (by exact HB.out)):w.heap.size≤gb223));have n3_:=Aside0.mk ((by rw [hg];exact (below_size (by exact HB.out)):w.heap.size≤gb223));clear HB;have HB:=n0_;have BK223:=n1_;have GW223:=n2_;have GE223:=n3_;clear n0_ n1_ n2_ n3_;clear hb hbox hg))
 (try simp only [Act.put,List.setIfInBounds_toArray,List.set_cons_zero,List.set_cons_succ])
 go_cut [18] (fun v18 wc=>∃ (kq:Nat) (x18_2:Bool),v18=.bool x18_2∧Aside0 (spec_Around.j0 kq a1 x18_2 a0_0 l0_1=some r)∧Aside0 (kq≤k)∧Aside0 (wc.heap[gb223]?=some (.cells #[.int .i64 a0_0,(.slice A0_1 l0_1.length c0_1)] 30 (0,0)))∧Aside0 (Below w.heap.size w wc))
 case first =>
  have H:=HC3.out
  clear HC3
  replace H:=Option.bind_eq_some_iff.mp H
  obtain ⟨t224,A50,H⟩:=H
  replace H:(if t224=0 then ((spec_l1in.f a1 0 (wrap64 (a0_0 - 1))).bind fun t225=>(spec_Around.j0 k a1 (!t225) a0_0 l0_1)) else (spec_Around.j0 k a1 true a0_0 l0_1))=some r:=H
  have A5:=Aside0.mk A50
  clear A50
  by_cases c6:t224=0
  ·rw [if_pos c6] at H
   have c6b0:(t224==0)=true:=beq_iff_eq.mpr c6
   have c6b1:(t224 != 0)=false:=bne_eq_false_iff_eq.mpr c6
   clear c6
   (first|rw [c6b0]|(simp only [i64_w,i32_w];rw [c6b0])|skip)
   replace H:=Option.bind_eq_some_iff.mp H
   obtain ⟨t225,A70,H⟩:=H
   replace H:(spec_Around.j0 k a1 (!t225) a0_0 l0_1)=some r:=H
   have A7:=Aside0.mk A70
   clear A70
   have H':=Aside0.mk H
   clear H
   have hcz8_0:w4.cell? ⟨gb223,0,none⟩=some (.int .i64 a0_0):=(blk_cell BK223.out 0).trans rfl
   have hcz8_1:w4.cell? ⟨gb223,1,none⟩=some (.slice A0_1 l0_1.length c0_1):=(blk_cell BK223.out 1).trans rfl
   have hfz8_0:=blk_frozen BK223.out 0
   have hfz8_1:=blk_frozen BK223.out 1
   go_wp2_with (first|((with_reducible refine gate_callee (f:=23) rfl ?_);refine goesL_ (some 9) rfl rfl Try.func23 (by kernel_rfl) rfl #[.agg #[.int .i64 a0_0,.slice A0_1 l0_1.length c0_1]] rfl (by (try simp only [List.map_toArray,List.map_cons,List.map_nil]);first|done|rfl|(simp only [List.length_drop,List.length_take];rfl)) ?_;(with_reducible refine (spec_LayoutOk.calls k a0_0 _ _ l0_1 t224 _ ?side1 ?side2 A5.out).mono ?_);(case side1=>repeat (first|exact (Kd.C_below HR0_1.out HB.out)|(with_reducible refine Kd.C_alloc ?_ _)|(with_reducible refine Kd.C_drewN ?_ _)|(with_reducible refine Kd.C_drew ?_)));(case side2=>exact HC0_1.out);rintro e w9 ⟨rfl,hb⟩;refine ⟨_,rfl,?_⟩;have n0_:=Aside0.mk (blk_below (g:=gb223) (o:=.cells #[.int .i64 a0_0,.slice A0_1 l0_1.length c0_1] 30 (0,0)) (by exact BK223.out) hb);have n1_:=Aside0.mk (below_step (by exact HB.out) hb);clear BK223;clear HB;have BK223:=n0_;have HB:=n1_;clear n0_ n1_;(try clear hb);(try clear hb2);(try clear hk);(try clear hi);have hcz10_0:w9.cell? ⟨gb223,0,none⟩=some (.int .i64 a0_0):=(blk_cell BK223.out 0).trans rfl;have hcz10_1:w9.cell? ⟨gb223,1,none⟩=some (.slice A0_1 l0_1.length c0_1):=(blk_cell BK223.out 1).trans rfl;have hfz10_0:=blk_frozen BK223.out 0;have hfz10_1:=blk_frozen BK223.out 1)|(go_at_call 87;(with_reducible refine (spec_l1in.calls a1 0 (wrap64 (a0_0 - 1)) t225 _ A7.out).mono ?_);rintro e w' ⟨rfl,⟨nd,rfl⟩⟩))
   go_meet
   case rel=>exact ⟨_,(!t225),(by first|rfl|(simp;done)|(simp [*];done)),H',⟨by first|omega|exact Nat.le_refl _⟩,⟨by exact BK223.out⟩,⟨by repeat (first|(with_reducible first|exact HB.out|apply below_alloc|apply pw_below_drewN|apply below_drew1|refine below_set ?_ GE223.out)|exact HB.out)⟩⟩
  rw [if_neg c6] at H
  have c6b0:(t224==0)=false:=beq_eq_false_iff_ne.mpr c6
  have c6b1:(t224 != 0)=true:=bne_iff_ne.mpr c6
  (first|rw [c6b0]|(simp only [i64_w,i32_w];rw [c6b0])|skip)
  have H':=Aside0.mk H
  clear H
  have hcz11_0:w4.cell? ⟨gb223,0,none⟩=some (.int .i64 a0_0):=(blk_cell BK223.out 0).trans rfl
  have hcz11_1:w4.cell? ⟨gb223,1,none⟩=some (.slice A0_1 l0_1.length c0_1):=(blk_cell BK223.out 1).trans rfl
  have hfz11_0:=blk_frozen BK223.out 0
  have hfz11_1:=blk_frozen BK223.out 1
  go_wp2_with (first|((with_reducible refine gate_callee (f:=23) rfl ?_);refine goesL_ (some 9) rfl rfl Try.func23 (by kernel_rfl) rfl #[.agg #[.int .i64 a0_0,.slice A0_1 l0_1.length c0_1]] rfl (by (try simp only [List.map_toArray,List.map_cons,List.map_nil]);first|done|rfl|(simp only [List.length_drop,List.length_take];rfl)) ?_;(with_reducible refine (spec_LayoutOk.calls k a0_0 _ _ l0_1 t224 _ ?side1 ?side2 A5.out).mono ?_);(case side1=>repeat (first|exact (Kd.C_below HR0_1.out HB.out)|(with_reducible refine Kd.C_alloc ?_ _)|(with_reducible refine Kd.C_drewN ?_ _)|(with_reducible refine Kd.C_drew ?_)));(case side2=>exact HC0_1.out);rintro e w12 ⟨rfl,hb⟩;refine ⟨_,rfl,?_⟩;have n0_:=Aside0.mk (blk_below (g:=gb223) (o:=.cells #[.int .i64 a0_0,.slice A0_1 l0_1.length c0_1] 30 (0,0)) (by exact BK223.out) hb);have n1_:=Aside0.mk (below_step (by exact HB.out) hb);clear BK223;clear HB;have BK223:=n0_;have HB:=n1_;clear n0_ n1_;(try clear hb);(try clear hb2);(try clear hk);(try clear hi)))
  go_meet
  case rel=>exact ⟨_,(true),(by first|rfl|(simp;done)|(simp [*];done)),H',⟨by first|omega|exact Nat.le_refl _⟩,⟨by exact BK223.out⟩,⟨by exact HB.out⟩⟩
 case rest =>
  clear HC3
  try clear c2
  try clear p2
  try clear c3
  try clear c6
  try clear c6b0
  try clear c6b1
  try clear p6
  try clear hcz10_0
  try clear hcz10_1
  try clear hcz11_0
  try clear hcz11_1
  try clear hcz8_0
  try clear hcz8_1
  try clear hfz10_0
  try clear hfz10_1
  try clear hfz11_0
  try clear hfz11_1
  try clear hfz8_0
  try clear hfz8_1
  obtain ⟨kq,x18_2,rfl,HA,HJ2,BK223,HB⟩:=hcut
  cases kq with
  | zero=>exact absurd HA.out (by simp [spec_Around.j0])
  | succ kj2 =>
   have H:=HA.out
   clear HA
   simp only [spec_Around.j0] at H
   by_cases c13:x18_2=true
   ·subst c13
    have H1:(some ([]:List Int))=some r:=by rw [if_pos rfl] at H;exact H
    clear H
    have H:=H1
    clear H1
    obtain rfl:=Option.some.inj H
    go_wp2
    go_ret
    exact ⟨_,by first|rfl|(simp [errW_none,errW_some] <;> rfl)|(simp [*,errW_none,errW_some] <;> rfl),by first|exact Kd.R_nil _ _ _ _ _|exact Kd.N_nil _ _ _ _ _|exact Kd.V_nil _ _ _ _ _|exact Kd.Q_nil _ _ _ _ _|exact Kd.S_nil _ _ _ _ _,by exact HB.out⟩
   replace c13:=Bool.eq_false_iff.mpr c13
   subst c13
   have H1:(spec_Around.l0 kj2 a1 ([]:List Int) l0_1 (l0_1.length:Int) 0)=some r:=by rw [if_neg (show ¬ (false=true) by decide)] at H;exact H
   clear H
   have H:=H1
   clear H1
   have H':=Aside0.mk H
   clear H
   have hcz14_0:wc.cell? ⟨gb223,0,none⟩=some (.int .i64 a0_0):=(blk_cell BK223.out 0).trans rfl
   have hcz14_1:wc.cell? ⟨gb223,1,none⟩=some (.slice A0_1 l0_1.length c0_1):=(blk_cell BK223.out 1).trans rfl
   have hfz14_0:=blk_frozen BK223.out 0
   have hfz14_1:=blk_frozen BK223.out 1
   go_wp2
   go_loopg [5,22] kj2 (fun kq v5 v22 w'=>∃ (x5_2:List Int) (x22_2:Int),v22=.int .i64 x22_2∧Aside0 (spec_Around.l0 kq a1 x5_2 l0_1 (l0_1.length:Int) x22_2=some r)∧Aside0 (kq≤kj2)∧Aside0 (Kd.R (Kd.int .i64) 3 w' w.heap.size (fun _=>True) v5 x5_2)∧Aside0 (w'.heap[gb223]?=some (.cells #[.int .i64 a0_0,(.slice A0_1 l0_1.length c0_1)] 30 (0,0)))∧Aside0 (Below w.heap.size w w'))
   case atStart=>exact ⟨(([]:List Int)),(0),(by first|rfl|(simp;done)|(simp [*];done)),H',⟨Nat.le_refl _⟩,⟨by first|exact Kd.R_nil _ _ _ _ _|exact Kd.N_nil _ _ _ _ _|exact Kd.V_nil _ _ _ _ _|exact Kd.Q_nil _ _ _ _ _|exact Kd.S_nil _ _ _ _ _⟩,⟨by exact BK223.out⟩,⟨by exact HB.out⟩⟩
   case round =>
    clear H'
    try clear c1
    try clear c2
    try clear p2
    try clear c3
    try clear c6
    try clear c6b0
    try clear c6b1
    try clear p6
    try clear c13
    try clear hcz10_0
    try clear hcz10_1
    try clear hcz11_0
    try clear hcz11_1
    try clear hcz14_0
    try clear hcz14_1
    try clear hcz8_0
    try clear hcz8_1
    try clear hfz10_0
    try clear hfz10_1
    try clear hfz11_0
    try clear hfz11_1
    try clear hfz14_0
    try clear hfz14_1
    try clear hfz8_0
    try clear hfz8_1
    try clear p2
    try clear p6
    obtain ⟨x5_2,x22_2,rfl,HA,HK2,HO_5,BK223,HB⟩:=hrel
    cases gk with
    | zero=>exact absurd HA.out (by simp [spec_Around.l0])
    | succ k2 =>
     have H:=HA.out
     clear HA
     simp only [spec_Around.l0] at H
     by_cases c15:x22_2<(l0_1.length:Int)
     ·rw [if_pos c15] at H
      have c15b0:decide (x22_2<(l0_1.length:Int))=true:=decide_eq_true c15
      clear c15
      by_cases c16:0≤x22_2
      ·rw [if_pos c16] at H
       have c16b0:decide (0≤x22_2)=true:=decide_eq_true c16
       clear c16
       by_cases c17:x22_2<(l0_1.length:Int)
       ·rw [if_pos c17] at H
        have c17b0:decide (x22_2<(l0_1.length:Int))=true:=decide_eq_true c17
        clear c17
        by_cases c18:((rd_T88 l0_1 x22_2).f0)=a1
        ·rw [if_pos c18] at H
         have c18b0:(((rd_T88 l0_1 x22_2).f0)==a1)=true:=beq_iff_eq.mpr c18
         have c18b1:(((rd_T88 l0_1 x22_2).f0) != a1)=false:=bne_eq_false_iff_eq.mpr c18
         clear c18
         by_cases c19:x5_2.length<17592186044416
         ·rw [if_pos c19] at H
          have LMc19:=Aside0.mk c19
          clear c19
          obtain ⟨y228,hy228⟩:∃ y_:List Int,y_=(x5_2 ++ [x22_2]):=⟨_,rfl⟩
          replace H:(spec_Around.l0 k2 a1 y228 l0_1 (l0_1.length:Int) (wrap64 (x22_2+1)))=some r:=by first|(rw [hy228];with_reducible exact H)|(have H2_:=(Option.bind_some _ _).symm.trans H;rw [hy228];with_reducible exact H2_)|(have H2_:=(Option.bind_some _ _).symm.trans H;with_reducible exact H2_)|with_reducible exact H|(rw [hy228];exact H)|exact H
          have Ny228:=Aside0.mk hy228
          clear hy228
          have H':=Aside0.mk H
          clear H
          have p226:0≤(x22_2:Int):=of_decide_eq_true (by first|(with_reducible assumption)|assumption)
          have q226:x22_2<(l0_1.length:Int):=of_decide_eq_true (by first|(with_reducible assumption)|assumption)
          obtain ⟨ad226,e226,hx226_0,hx226_1⟩:=at_T88 HR0_1.out x22_2 p226 q226
          cases e226
          replace hx226_0:=(HB.out.cell (World.block_lt_of_cell? w _ hx226_0)).trans hx226_0
          replace hx226_1:=(HB.out.cell (World.block_lt_of_cell? w _ hx226_1)).trans hx226_1
          replace p226:=eq_true p226
          replace q226:=eq_true q226
          go_wp2_with (first|((with_reducible refine gate_dst (N:=7) rfl ?_);refine box_event ?hg (N:=7) ?hd (cs:=#[.int .i64 0,.int .i64 0]) (t:=88) ?hr ?_;(case hd=>rfl);(case hg=>rfl);(case hr=>first|(go_simp;done)|(go_simp;rfl));intro gb227 hg w20 hbox hb;have n0_:=Aside0.mk (Kd.R_below (by exact HO_5.out) hb);have n1_:=Aside0.mk (blk_below (g:=gb223) (o:=.cells #[.int .i64 a0_0,.slice (some ad226) l0_1.length c0_1] 30 (0,0)) (by exact BK223.out) hb);have n2_:=Aside0.mk (below_step (by exact HB.out) hb);have n3_:=Aside0.mk (hbox);have n4_:=Aside0.mk ((by rw [hg];exact (below_size (by exact HB.out)):w.heap.size≤gb227));have n5_:=Aside0.mk ((by rw [hg];exact (below_size (by repeat (first|(with_reducible first|exact HB.out|apply below_alloc|apply pw_below_drewN|apply below_drew1|refine below_set ?_ GE223.out)|exact HB.out))):w.heap.size≤gb227));have n6_:=Aside0.mk ((by rw [hg];exact Nat.ne_of_lt (blk_lt (g:=gb223) (o:=.cells #[.int .i64 a0_0,.slice (some ad226) l0_1.length c0_1] 30 (0,0)) (by (with_reducible repeat (first|refine blk_drewN ?_ _|refine blk_drew ?_|refine blk_alloc ?_ _));exact BK223.out)):gb223 ≠ gb227));have n7_:=Aside0.mk ((by rw [hg];exact Nat.ne_of_gt (blk_lt (g:=gb223) (o:=.cells #[.int .i64 a0_0,.slice (some ad226) l0_1.length c0_1] 30 (0,0)) (by (with_reducible repeat (first|refine blk_drewN ?_ _|refine blk_drew ?_|refine blk_alloc ?_ _));exact BK223.out)):gb227 ≠ gb223));clear HO_5;clear BK223;clear HB;have HO_5:=n0_;have BK223:=n1_;have HB:=n2_;have BK227:=n3_;have GW227:=n4_;have GE227:=n5_;have NB223_227:=n6_;have NB227_223:=n7_;clear n0_ n1_ n2_ n3_ n4_ n5_ n6_ n7_;clear hb hbox hg;have hnb21:=NB227_223.out;have hnc21:=NB223_227.out;have hcz22_0:w20.cell? ⟨gb227,0,none⟩=some (.int .i64 0):=(blk_cell BK227.out 0).trans rfl;have hcz22_1:w20.cell? ⟨gb227,1,none⟩=some (.int .i64 0):=(blk_cell BK227.out 1).trans rfl;have hfz22_0:=blk_frozen BK227.out 0;have hfz22_1:=blk_frozen BK227.out 1)|((with_reducible refine gate_builtin (b:=.append) (xs:=#[.tmp 37,.tmp 39]) rfl ?_);at_builtin;refine Kd.R_append (Kd.int .i64) (w0:=w) w.heap.size rfl (.tmp 37) (.tmp 39) 59 3 (.int .i64 0) 8 rfl Try.underlying59 info3 rfl (by decide) (by omega) u5 x5_2 x22_2 [.int .i64 x22_2] (fun _=>True) (fun _=>False) rfl (by first|(go_simp;done)|(go_simp;rfl)) ?aP (fun _ hk=>hk.elim) ?aF ?aO ?aB ?aS ?aL ?_;(case aP=>exact rfl);(case aB=>exact (by repeat (first|(with_reducible first|exact HB.out|apply below_alloc|apply pw_below_drewN|apply below_drew1|refine below_set ?_ GE223.out|refine below_set ?_ GE227.out)|exact HB.out)));(case aF=>exact (fun _ _=>trivial));(case aO=>exact (by (with_reducible repeat (first|apply Kd.R_alloc|apply Kd.R_drewN|apply Kd.R_drew));exact Kd.R_mono (Kd.R_far (p:=⟨gb227,1,none⟩) (Kd.R_far (p:=⟨gb227,0,none⟩) (Kd.R_types HO_5.out BK227.out (by decide)) (fun _ hk=>hk.2) (.int .i64 ((rd_T88 l0_1 x22_2).f0))) (fun _ hk=>hk.2) (.int .i64 ((rd_T88 l0_1 x22_2).f1))) (fun _ hk=>trivial)));(case aS=>exact (below_size (by repeat (first|(with_reducible first|exact HB.out|apply below_alloc|apply pw_below_drewN|apply below_drew1|refine below_set ?_ GE223.out|refine below_set ?_ GE227.out)|exact HB.out))));(case aL=>have:=LMc19.out;omega);intro v229 w23 ho hb hg hat;rw [← Ny228.out] at ho;have n0_:=Aside0.mk (blk_grown (g:=gb223) (o:=.cells #[.int .i64 a0_0,.slice (some ad226) l0_1.length c0_1] 30 (0,0)) (by (with_reducible repeat (first|refine blk_drewN ?_ _|refine blk_drew ?_|refine blk_alloc ?_ _));refine blk_far ?_ NB223_227.out _;(with_reducible repeat (first|refine blk_drewN ?_ _|refine blk_drew ?_|refine blk_alloc ?_ _));refine blk_far ?_ NB223_227.out _;(with_reducible repeat (first|refine blk_drewN ?_ _|refine blk_drew ?_|refine blk_alloc ?_ _));exact BK223.out) hg (Kd.R_ne HO_5.out BK223.out (by decide)));have n1_:=Aside0.mk (blk_grown (g:=gb227) (o:=.cells #[.int .i64 ((rd_T88 l0_1 x22_2).f0),.int .i64 ((rd_T88 l0_1 x22_2).f1)] 88 (0,0)) (by (with_reducible repeat (first|refine blk_drewN ?_ _|refine blk_drew ?_|refine blk_alloc ?_ _));refine blk_put (cs:=#[.int .i64 ((rd_T88 l0_1 x22_2).f0),.int .i64 0]) ?_ 1 _ rfl;(with_reducible repeat (first|refine blk_drewN ?_ _|refine blk_drew ?_|refine blk_alloc ?_ _));refine blk_put (cs:=#[.int .i64 0,.int .i64 0]) ?_ 0 _ rfl;(with_reducible repeat (first|refine blk_drewN ?_ _|refine blk_drew ?_|refine blk_alloc ?_ _));exact BK227.out) hg (Kd.R_ne HO_5.out BK227.out (by decide)));have n2_:=Aside0.mk (hb);have n3_:=Aside0.mk (ho);clear BK223;clear BK227;clear HB;clear HO_5;have BK223:=n0_;have BK227:=n1_;have HB:=n2_;have HO230:=n3_;clear n0_ n1_ n2_ n3_;clear ho hb hg hat))
          go_roundg k2
          case measure=>have:=HJ2.out;have:=HK2.out;omega
          case rel=>exact ⟨(y228),(wrap64 (x22_2+1)),(by first|rfl|(simp;done)|(simp [*];done)),H',⟨by have:=HJ2.out;have:=HK2.out;omega⟩,⟨by exact HO230.out⟩,⟨by exact BK223.out⟩,⟨by exact HB.out⟩⟩
         rw [if_neg c19] at H
         exact absurd H (by simp)
        rw [if_neg c18] at H
        have c18b0:(((rd_T88 l0_1 x22_2).f0)==a1)=false:=beq_eq_false_iff_ne.mpr c18
        have c18b1:(((rd_T88 l0_1 x22_2).f0) != a1)=true:=bne_iff_ne.mpr c18
        by_cases c24:((rd_T88 l0_1 x22_2).f1)=a1
        ·rw [if_pos c24] at H
         have c24b0:(((rd_T88 l0_1 x22_2).f1)==a1)=true:=beq_iff_eq.mpr c24
         have c24b1:(((rd_T88 l0_1 x22_2).f1) != a1)=false:=bne_eq_false_iff_eq.mpr c24
         clear c24
         by_cases c25:x5_2.length<17592186044416
         ·rw [if_pos c25] at H
          have LMc25:=Aside0.mk c25
          clear c25
          obtain ⟨y231,hy231⟩:∃ y_:List Int,y_=(x5_2 ++ [x22_2]):=⟨_,rfl⟩
          replace H:(spec_Around.l0 k2 a1 y231 l0_1 (l0_1.length:Int) (wrap64 (x22_2+1)))=some r:=by first|(rw [hy231];with_reducible exact H)|(have H2_:=(Option.bind_some _ _).symm.trans H;rw [hy231];with_reducible exact H2_)|(have H2_:=(Option.bind_some _ _).symm.trans H;with_reducible exact H2_)|with_reducible exact H|(rw [hy231];exact H)|exact H
          have Ny231:=Aside0.mk hy231
          clear hy231
          have H':=Aside0.mk H
          clear H
          have p226:0≤(x22_2:Int):=of_decide_eq_true (by first|(with_reducible assumption)|assumption)
          have q226:x22_2<(l0_1.length:Int):=of_decide_eq_true (by first|(with_reducible assumption)|assumption)
          obtain ⟨ad226,e226,hx226_0,hx226_1⟩:=at_T88 HR0_1.out x22_2 p226 q226
          cases e226
          replace hx226_0:=(HB.out.cell (World.block_lt_of_cell? w _ hx226_0)).trans hx226_0
          replace hx226_1:=(HB.out.cell (World.block_lt_of_cell? w _ hx226_1)).trans hx226_1
          replace p226:=eq_true p226
          replace q226:=eq_true q226
          go_wp2_with (first|((with_reducible refine gate_dst (N:=7) rfl ?_);refine box_event ?hg (N:=7) ?hd (cs:=#[.int .i64 0,.int .i64 0]) (t:=88) ?hr ?_;(case hd=>rfl);(case hg=>rfl);(case hr=>first|(go_simp;done)|(go_simp;rfl));intro gb227 hg w26 hbox hb;have n0_:=Aside0.mk (Kd.R_below (by exact HO_5.out) hb);have n1_:=Aside0.mk (blk_below (g:=gb223) (o:=.cells #[.int .i64 a0_0,.slice (some ad226) l0_1.length c0_1] 30 (0,0)) (by exact BK223.out) hb);have n2_:=Aside0.mk (below_step (by exact HB.out) hb);have n3_:=Aside0.mk (hbox);have n4_:=Aside0.mk ((by rw [hg];exact (below_size (by exact HB.out)):w.heap.size≤gb227));have n5_:=Aside0.mk ((by rw [hg];exact (below_size (by repeat (first|(with_reducible first|exact HB.out|apply below_alloc|apply pw_below_drewN|apply below_drew1|refine below_set ?_ GE223.out)|exact HB.out))):w.heap.size≤gb227));have n6_:=Aside0.mk ((by rw [hg];exact Nat.ne_of_lt (blk_lt (g:=gb223) (o:=.cells #[.int .i64 a0_0,.slice (some ad226) l0_1.length c0_1] 30 (0,0)) (by (with_reducible repeat (first|refine blk_drewN ?_ _|refine blk_drew ?_|refine blk_alloc ?_ _));exact BK223.out)):gb223 ≠ gb227));have n7_:=Aside0.mk ((by rw [hg];exact Nat.ne_of_gt (blk_lt (g:=gb223) (o:=.cells #[.int .i64 a0_0,.slice (some ad226) l0_1.length c0_1] 30 (0,0)) (by (with_reducible repeat (first|refine blk_drewN ?_ _|refine blk_drew ?_|refine blk_alloc ?_ _));exact BK223.out)):gb227 ≠ gb223));clear HO_5;clear BK223;clear HB;have HO_5:=n0_;have BK223:=n1_;have HB:=n2_;have BK227:=n3_;have GW227:=n4_;have GE227:=n5_;have NB223_227:=n6_;have NB227_223:=n7_;clear n0_ n1_ n2_ n3_ n4_ n5_ n6_ n7_;clear hb hbox hg;have hnb27:=NB227_223.out;have hnc27:=NB223_227.out;have hcz28_0:w26.cell? ⟨gb227,0,none⟩=some (.int .i64 0):=(blk_cell BK227.out 0).trans rfl;have hcz28_1:w26.cell? ⟨gb227,1,none⟩=some (.int .i64 0):=(blk_cell BK227.out 1).trans rfl;have hfz28_0:=blk_frozen BK227.out 0;have hfz28_1:=blk_frozen BK227.out 1)|((with_reducible refine gate_builtin (b:=.append) (xs:=#[.tmp 37,.tmp 39]) rfl ?_);at_builtin;refine Kd.R_append (Kd.int .i64) (w0:=w) w.heap.size rfl (.tmp 37) (.tmp 39) 59 3 (.int .i64 0) 8 rfl Try.underlying59 info3 rfl (by decide) (by omega) u5 x5_2 x22_2 [.int .i64 x22_2] (fun _=>True) (fun _=>False) rfl (by first|(go_simp;done)|(go_simp;rfl)) ?aP (fun _ hk=>hk.elim) ?aF ?aO ?aB ?aS ?aL ?_;(case aP=>exact rfl);(case aB=>exact (by repeat (first|(with_reducible first|exact HB.out|apply below_alloc|apply pw_below_drewN|apply below_drew1|refine below_set ?_ GE223.out|refine below_set ?_ GE227.out)|exact HB.out)));(case aF=>exact (fun _ _=>trivial));(case aO=>exact (by (with_reducible repeat (first|apply Kd.R_alloc|apply Kd.R_drewN|apply Kd.R_drew));exact Kd.R_mono (Kd.R_far (p:=⟨gb227,1,none⟩) (Kd.R_far (p:=⟨gb227,0,none⟩) (Kd.R_types HO_5.out BK227.out (by decide)) (fun _ hk=>hk.2) (.int .i64 ((rd_T88 l0_1 x22_2).f0))) (fun _ hk=>hk.2) (.int .i64 ((rd_T88 l0_1 x22_2).f1))) (fun _ hk=>trivial)));(case aS=>exact (below_size (by repeat (first|(with_reducible first|exact HB.out|apply below_alloc|apply pw_below_drewN|apply below_drew1|refine below_set ?_ GE223.out|refine below_set ?_ GE227.out)|exact HB.out))));(case aL=>have:=LMc25.out;omega);intro v232 w29 ho hb hg hat;rw [← Ny231.out] at ho;have n0_:=Aside0.mk (blk_grown (g:=gb223) (o:=.cells #[.int .i64 a0_0,.slice (some ad226) l0_1.length c0_1] 30 (0,0)) (by (with_reducible repeat (first|refine blk_drewN ?_ _|refine blk_drew ?_|refine blk_alloc ?_ _));refine blk_far ?_ NB223_227.out _;(with_reducible repeat (first|refine blk_drewN ?_ _|refine blk_drew ?_|refine blk_alloc ?_ _));refine blk_far ?_ NB223_227.out _;(with_reducible repeat (first|refine blk_drewN ?_ _|refine blk_drew ?_|refine blk_alloc ?_ _));exact BK223.out) hg (Kd.R_ne HO_5.out BK223.out (by decide)));have n1_:=Aside0.mk (blk_grown (g:=gb227) (o:=.cells #[.int .i64 ((rd_T88 l0_1 x22_2).f0),.int .i64 ((rd_T88 l0_1 x22_2).f1)] 88 (0,0)) (by (with_reducible repeat (first|refine blk_drewN ?_ _|refine blk_drew ?_|refine blk_alloc ?_ _));refine blk_put (cs:=#[.int .i64 ((rd_T88 l0_1 x22_2).f0),.int .i64 0]) ?_ 1 _ rfl;(with_reducible repeat (first|refine blk_drewN ?_ _|refine blk_drew ?_|refine blk_alloc ?_ _));refine blk_put (cs:=#[.int .i64 0,.int .i64 0]) ?_ 0 _ rfl;(with_reducible repeat (first|refine blk_drewN ?_ _|refine blk_drew ?_|refine blk_alloc ?_ _));exact BK227.out) hg (Kd.R_ne HO_5.out BK227.out (by decide)));have n2_:=Aside0.mk (hb);have n3_:=Aside0.mk (ho);clear BK223;clear BK227;clear HB;clear HO_5;have BK223:=n0_;have BK227:=n1_;have HB:=n2_;have HO233:=n3_;clear n0_ n1_ n2_ n3_;clear ho hb hg hat))
          go_roundg k2
          case measure=>have:=HJ2.out;have:=HK2.out;omega
          case rel=>exact ⟨(y231),(wrap64 (x22_2+1)),(by first|rfl|(simp;done)|(simp [*];done)),H',⟨by have:=HJ2.out;have:=HK2.out;omega⟩,⟨by exact HO233.out⟩,⟨by exact BK223.out⟩,⟨by exact HB.out⟩⟩
         rw [if_neg c25] at H
         exact absurd H (by simp)
        rw [if_neg c24] at H
        have c24b0:(((rd_T88 l0_1 x22_2).f1)==a1)=false:=beq_eq_false_iff_ne.mpr c24
        have c24b1:(((rd_T88 l0_1 x22_2).f1) != a1)=true:=bne_iff_ne.mpr c24
        have H':=Aside0.mk H
        clear H
        have p226:0≤(x22_2:Int):=of_decide_eq_true (by first|(with_reducible assumption)|assumption)
        have q226:x22_2<(l0_1.length:Int):=of_decide_eq_true (by first|(with_reducible assumption)|assumption)
        obtain ⟨ad226,e226,hx226_0,hx226_1⟩:=at_T88 HR0_1.out x22_2 p226 q226
        cases e226
        replace hx226_0:=(HB.out.cell (World.block_lt_of_cell? w _ hx226_0)).trans hx226_0
        replace hx226_1:=(HB.out.cell (World.block_lt_of_cell? w _ hx226_1)).trans hx226_1
        replace p226:=eq_true p226
        replace q226:=eq_true q226
        go_wp2_with (first|((with_reducible refine gate_dst (N:=7) rfl ?_);refine box_event ?hg (N:=7) ?hd (cs:=#[.int .i64 0,.int .i64 0]) (t:=88) ?hr ?_;(case hd=>rfl);(case hg=>rfl);(case hr=>first|(go_simp;done)|(go_simp;rfl));intro gb227 hg w30 hbox hb;have n0_:=Aside0.mk (Kd.R_below (by exact HO_5.out) hb);have n1_:=Aside0.mk (blk_below (g:=gb223) (o:=.cells #[.int .i64 a0_0,.slice (some ad226) l0_1.length c0_1] 30 (0,0)) (by exact BK223.out) hb);have n2_:=Aside0.mk (below_step (by exact HB.out) hb);have n3_:=Aside0.mk (hbox);have n4_:=Aside0.mk ((by rw [hg];exact (below_size (by exact HB.out)):w.heap.size≤gb227));have n5_:=Aside0.mk ((by rw [hg];exact (below_size (by exact HB.out)):w.heap.size≤gb227));have n6_:=Aside0.mk ((by rw [hg];exact Nat.ne_of_lt (blk_lt (g:=gb223) (o:=.cells #[.int .i64 a0_0,.slice (some ad226) l0_1.length c0_1] 30 (0,0)) (by exact BK223.out)):gb223 ≠ gb227));have n7_:=Aside0.mk ((by rw [hg];exact Nat.ne_of_gt (blk_lt (g:=gb223) (o:=.cells #[.int .i64 a0_0,.slice (some ad226) l0_1.length c0_1] 30 (0,0)) (by exact BK223.out)):gb227 ≠ gb223));clear HO_5;clear BK223;clear HB;have HO_5:=n0_;have BK223:=n1_;have HB:=n2_;have BK227:=n3_;have GW227:=n4_;have GE227:=n5_;have NB223_227:=n6_;have NB227_223:=n7_;clear n0_ n1_ n2_ n3_ n4_ n5_ n6_ n7_;clear hb hbox hg;have hnb31:=NB227_223.out;have hnc31:=NB223_227.out;have hcz32_0:w30.cell? ⟨gb227,0,none⟩=some (.int .i64 0):=(blk_cell BK227.out 0).trans rfl;have hcz32_1:w30.cell? ⟨gb227,1,none⟩=some (.int .i64 0):=(blk_cell BK227.out 1).trans rfl;have hfz32_0:=blk_frozen BK227.out 0;have hfz32_1:=blk_frozen BK227.out 1))
        go_roundg k2
        case measure=>have:=HJ2.out;have:=HK2.out;omega
        case rel=>exact ⟨(x5_2),(wrap64 (x22_2+1)),(by first|rfl|(simp;done)|(simp [*];done)),H',⟨by have:=HJ2.out;have:=HK2.out;omega⟩,⟨by exact Kd.R_mono (Kd.R_far (p:=⟨gb227,1,none⟩) (Kd.R_far (p:=⟨gb227,0,none⟩) (Kd.R_types HO_5.out BK227.out (by decide)) (fun _ hk=>hk.2) (.int .i64 ((rd_T88 l0_1 x22_2).f0))) (fun _ hk=>hk.2) (.int .i64 ((rd_T88 l0_1 x22_2).f1))) (fun _ hk=>trivial)⟩,⟨by refine blk_far ?_ NB223_227.out _;refine blk_far ?_ NB223_227.out _;exact BK223.out⟩,⟨by repeat (first|(with_reducible first|exact HB.out|apply below_alloc|apply pw_below_drewN|apply below_drew1|refine below_set ?_ GE223.out|refine below_set ?_ GE227.out)|exact HB.out)⟩⟩
       rw [if_neg c17] at H
       exact absurd H (by simp)
      rw [if_neg c16] at H
      exact absurd H (by simp)
     rw [if_neg c15] at H
     have c15b0:decide (x22_2<(l0_1.length:Int))=false:=decide_eq_false c15
     clear c15
     obtain rfl:=Option.some.inj H
     go_wp2
     go_ret
     exact ⟨_,by first|rfl|(simp [errW_none,errW_some] <;> rfl)|(simp [*,errW_none,errW_some] <;> rfl),by exact HO_5.out,by exact HB.out⟩
end Go.Proofs.Ytpdnabhpkdchjaa.P
namespace Go.Proofs.Ytpdnabhpkdchjaa.P
open Go.RowKit Go.Proofs.YtpdnabhpkdchjaaW.PrintWords Go.Proofs.YtpdnabhpkdchjaaW.PrintLast
set_option linter.unusedVariables false
set_option linter.unusedSimpArgs false
def hits (s : Int) (x : S88) : Bool := decide (x.f0 = s) || decide (x.f1 = s)
def hitsTo (l : List S88) (s : Int) (i : Nat) : List Int := ((List.range i).filter fun j : Nat => hits s (rd_T88 l (j : Int))).map Int.ofNat
def around (n : Int) (l : List S88) (s : Int) : List Int := if layoutOk n l = 0 ∧ 0 ≤ s ∧ s < n then hitsTo l s l.length else []
theorem hitsTo_succ (l : List S88) (s : Int) (i : Nat) : hitsTo l s (i + 1) = if hits s (rd_T88 l (i : Int)) = true then hitsTo l s i ++ [(i : Int)] else hitsTo l s i := by
  unfold hitsTo
  rw [List.range_succ, List.filter_append, List.map_append]
  by_cases h : hits s (rd_T88 l (i : Int)) = true
  · rw [if_pos h]; simp [List.filter, h]
  · rw [if_neg h]; simp [List.filter, h]
theorem hitsTo_length (l : List S88) (s : Int) (i : Nat) : (hitsTo l s i).length ≤ i := by
  unfold hitsTo
  rw [List.length_map]
  exact Nat.le_trans (List.length_filter_le _ _) (by simp)
theorem specAround_l0 (l : List S88) (s : Int) (hl : l.length ≤ 120) (d : Nat) : ∀ (i : Nat), i + d = l.length → Ev (fun k => spec_Around.l0 k s (hitsTo l s i) l (l.length : Int) i) (hitsTo l s l.length) := by
  induction d with
  | zero => intro i hi; refine Ev.step1 fun k => ?_; simp only [spec_Around.l0]; rw [if_neg (by omega), show i = l.length by omega]
  | succ d ih =>
    intro i hi
    have hlen := hitsTo_length l s i
    refine Ev.step (fun k => ?_) (ih (i + 1) (by omega))
    simp only [spec_Around.l0]
    rw [if_pos (by omega), if_pos (by omega), if_pos (by omega), wrap_succ (by omega), hitsTo_succ]
    by_cases h0 : (rd_T88 l (i : Int)).f0 = s
    · rw [if_pos h0, if_pos (by omega), if_pos (show hits s _ = true by simp [hits, h0])]
    · by_cases h1 : (rd_T88 l (i : Int)).f1 = s
      · rw [if_neg h0, if_pos h1, if_pos (by omega), if_pos (show hits s _ = true by simp [hits, h1])]
      · rw [if_neg h0, if_neg h1, if_neg (show ¬ (hits s _ = true) by simp [hits, h0, h1])]
theorem specAround_ev (n : Int) (l : List S88) (s : Int) : Ev (fun k => spec_Around.f k n l s) (around n l s) := by
  unfold spec_Around.f
  refine Ev.bind (specLayoutOk_ev n l) ?_
  by_cases hl : layoutOk n l = 0
  · obtain ⟨hn1, hn2, hc⟩ := lay_n hl
    refine Ev.ite_pos hl (Ev.call (l1in_eq _ _ _) ?_)
    rw [wrap_id (by omega) (by omega), dec_le_pred]
    by_cases hs : 0 ≤ s ∧ s < n
    · rw [around, if_pos ⟨hl, hs.1, hs.2⟩]
      refine Ev.step (fun k => ?_) (specAround_l0 l s hc l.length 0 (by omega))
      simp only [spec_Around.j0]
      rw [if_neg (by simp [hs.1, hs.2])]
      rfl
    · refine Ev.step1 fun k => ?_
      simp only [spec_Around.j0]
      rw [if_pos (by simp only [Bool.not_eq_true', Bool.and_eq_false_iff, decide_eq_false_iff_not]; omega), around, if_neg (fun h => hs h.2)]
  · refine Ev.ite_neg hl (Ev.step1 fun k => ?_)
    simp only [spec_Around.j0, if_true]
    rw [around, if_neg (fun h => hl h.1)]
end Go.Proofs.Ytpdnabhpkdchjaa.P
