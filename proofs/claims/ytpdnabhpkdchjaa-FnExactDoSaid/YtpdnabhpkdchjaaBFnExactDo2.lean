/- The statement FnExactDo holds of the given program, for every argument; there are no conditions. (Part 2 of 6.) -/
import Derived.Test.YtpdnabhpkdchjaaBFnExactDo1
import Derived.Test.YtpdnabhpkdchjaaProg
import Derived.Test.YtpdnabhpkdchjaaRows
import Derived.JoinedOf
import Derived.DataElems
import Derived.ChangeArms
import Derived.WideShapes
import Derived.ProofKit
import Derived.OpenShut
import Derived.ChangeOld
import Derived.SizedLaws
namespace Go.Proofs.Ytpdnabhpkdchjaa.P
open Go.RowKit Go.Proofs.YtpdnabhpkdchjaaW.PrintWords Go.Proofs.YtpdnabhpkdchjaaW.PrintLast Go.Proofs.YtpdnabhpkdchjaaW.PrintMore
attribute [local go_sem] max2_int min2_int max_two min_two max_three min_three max_four min_four
set_option linter.unusedVariables false
set_option linter.unusedSimpArgs false
def errW:Option Int→Value
 | none=>.nilIface
 | some c=>.iface 0 (.int .i64 c)
theorem errW_none:errW none=.nilIface:=rfl
theorem errW_some (c:Int):errW (some c)=.iface 0 (.int .i64 c):=rfl
theorem info3:(Try.prog.info? 3).map (fun i=>(i.zero,i.size,i.bytes))=some (some (.int .i64 0),1,8):=by kernel_rfl
theorem info4:(Try.prog.info? 4).map (fun i=>(i.zero,i.size,i.bytes))=some (some (.bool false),1,1):=by kernel_rfl
theorem info50:(Try.prog.info? 50).map (fun i=>(i.zero,i.size,i.bytes))=some (some (.agg #[(.int .i64 0),(.int .i64 0),(.bool false),(.bool false),(.int .i64 0)]),5,32):=by kernel_rfl
theorem info88:(Try.prog.info? 88).map (fun i=>(i.zero,i.size,i.bytes))=some (some (.agg #[(.int .i64 0),(.int .i64 0)]),2,16):=by kernel_rfl
structure S160 where
 f0:Int
 f1:Int
def z160:S160:=⟨(0:Int),(0:Int)⟩
def k160:Kd S160:=Kd.iso (Kd.pair (Kd.int .i64) (Kd.int .i64)) (fun x:S160=>(x.f0,x.f1))
theorem k160_open {w:World} {x:S160} {cs:List Value} (h:k160.K w x cs):cs=[.int .i64 x.f0,.int .i64 x.f1]:=by
 obtain ⟨_,_,rfl,rfl,rfl⟩:=h
 exact rfl
def rd_T160 (xs:List S160) (i:Int):S160:=xs.getD i.toNat z160
theorem at_T160 {w:World} {A:Option Addr} {n:Nat} {xs:List S160} (h:Kd.C k160 w A n xs) (i:Int) (h0:0≤i) (h1:i<n):∃ ad ,A=some ad∧w.cell? (ad.add (i.toNat * 2))=some (.int .i64 (rd_T160 xs i).f0)∧w.cell? ⟨(ad.add (i.toNat * 2)).block,(ad.add (i.toNat * 2)).off+1,none⟩=some (.int .i64 (rd_T160 xs i).f1):=by
 obtain ⟨ad,c,e,_,hK,hc0⟩:=Kd.C_get h z160 i h0 h1
 have hc:∀ j u,c[j]?=some u→w.cell? (ad.add (i.toNat * 2+j))=some u:=hc0
 obtain rfl:=k160_open hK
 exact ⟨ad,e,hc 0 _ rfl,by rw [← add_field _ _ 1 (by omega)];exact hc 1 _ rfl⟩
structure S88 where
 f0:Int
 f1:Int
def z88:S88:=⟨(0:Int),(0:Int)⟩
def k88:Kd S88:=Kd.iso (Kd.pair (Kd.int .i64) (Kd.int .i64)) (fun x:S88=>(x.f0,x.f1))
theorem k88_open {w:World} {x:S88} {cs:List Value} (h:k88.K w x cs):cs=[.int .i64 x.f0,.int .i64 x.f1]:=by
 obtain ⟨_,_,rfl,rfl,rfl⟩:=h
 exact rfl
theorem k88_openM {w:World} {base:Nat} {ok:Nat→Prop} {x:S88} {cs:List Value} (h:k88.M w base ok x cs):cs=[.int .i64 x.f0,.int .i64 x.f1]:=by
 obtain ⟨_,_,rfl,rfl,rfl⟩:=h
 exact rfl
theorem k88_mkM (w:World) (base:Nat) (ok:Nat→Prop) (x:S88) :k88.M w base ok x [.int .i64 x.f0,.int .i64 x.f1]:=⟨[.int .i64 x.f0],[.int .i64 x.f1],rfl,rfl,rfl⟩
def rd_T88 (xs:List S88) (i:Int):S88:=xs.getD i.toNat z88
theorem at_T88 {w:World} {A:Option Addr} {n:Nat} {xs:List S88} (h:Kd.C k88 w A n xs) (i:Int) (h0:0≤i) (h1:i<n):∃ ad ,A=some ad∧w.cell? (ad.add (i.toNat * 2))=some (.int .i64 (rd_T88 xs i).f0)∧w.cell? ⟨(ad.add (i.toNat * 2)).block,(ad.add (i.toNat * 2)).off+1,none⟩=some (.int .i64 (rd_T88 xs i).f1):=by
 obtain ⟨ad,c,e,_,hK,hc0⟩:=Kd.C_get h z88 i h0 h1
 have hc:∀ j u,c[j]?=some u→w.cell? (ad.add (i.toNat * 2+j))=some u:=hc0
 obtain rfl:=k88_open hK
 exact ⟨ad,e,hc 0 _ rfl,by rw [← add_field _ _ 1 (by omega)];exact hc 1 _ rfl⟩
structure S56 where
 f0:Int
 f1:Int
 f2:Int
structure S50 where
 f0:Int
 f1:Int
 f2:Bool
 f3:Bool
 f4:Int
def z50:S50:=⟨(0:Int),(0:Int),false,false,(0:Int)⟩
def k50:Kd S50:=Kd.iso (Kd.pair (Kd.int .i64) (Kd.pair (Kd.int .i64) (Kd.pair Kd.bool (Kd.pair Kd.bool (Kd.int .i64))))) (fun x:S50=>(x.f0,x.f1,x.f2,x.f3,x.f4))
theorem k50_open {w:World} {x:S50} {cs:List Value} (h:k50.K w x cs):cs=[.int .i64 x.f0,.int .i64 x.f1,.bool x.f2,.bool x.f3,.int .i64 x.f4]:=by
 obtain ⟨_,_,rfl,rfl,⟨_,_,rfl,rfl,⟨_,_,rfl,rfl,⟨_,_,rfl,rfl,rfl⟩⟩⟩⟩:=h
 exact rfl
theorem k50_openM {w:World} {base:Nat} {ok:Nat→Prop} {x:S50} {cs:List Value} (h:k50.M w base ok x cs):cs=[.int .i64 x.f0,.int .i64 x.f1,.bool x.f2,.bool x.f3,.int .i64 x.f4]:=by
 obtain ⟨_,_,rfl,rfl,⟨_,_,rfl,rfl,⟨_,_,rfl,rfl,⟨_,_,rfl,rfl,rfl⟩⟩⟩⟩:=h
 exact rfl
theorem k50_mkM (w:World) (base:Nat) (ok:Nat→Prop) (x:S50) :k50.M w base ok x [.int .i64 x.f0,.int .i64 x.f1,.bool x.f2,.bool x.f3,.int .i64 x.f4]:=⟨[.int .i64 x.f0],[.int .i64 x.f1,.bool x.f2,.bool x.f3,.int .i64 x.f4],rfl,rfl,⟨[.int .i64 x.f1],[.bool x.f2,.bool x.f3,.int .i64 x.f4],rfl,rfl,⟨[.bool x.f2],[.bool x.f3,.int .i64 x.f4],rfl,rfl,⟨[.bool x.f3],[.int .i64 x.f4],rfl,rfl,rfl⟩⟩⟩⟩
def rd_T50 (xs:List S50) (i:Int):S50:=xs.getD i.toNat z50
theorem at_T50 {w:World} {A:Option Addr} {n:Nat} {xs:List S50} (h:Kd.C k50 w A n xs) (i:Int) (h0:0≤i) (h1:i<n):∃ ad ,A=some ad∧w.cell? (ad.add (i.toNat * 5))=some (.int .i64 (rd_T50 xs i).f0)∧w.cell? ⟨(ad.add (i.toNat * 5)).block,(ad.add (i.toNat * 5)).off+1,none⟩=some (.int .i64 (rd_T50 xs i).f1)∧w.cell? ⟨(ad.add (i.toNat * 5)).block,(ad.add (i.toNat * 5)).off+2,none⟩=some (.bool (rd_T50 xs i).f2)∧w.cell? ⟨(ad.add (i.toNat * 5)).block,(ad.add (i.toNat * 5)).off+3,none⟩=some (.bool (rd_T50 xs i).f3)∧w.cell? ⟨(ad.add (i.toNat * 5)).block,(ad.add (i.toNat * 5)).off+4,none⟩=some (.int .i64 (rd_T50 xs i).f4):=by
 obtain ⟨ad,c,e,_,hK,hc0⟩:=Kd.C_get h z50 i h0 h1
 have hc:∀ j u,c[j]?=some u→w.cell? (ad.add (i.toNat * 5+j))=some u:=hc0
 obtain rfl:=k50_open hK
 exact ⟨ad,e,hc 0 _ rfl,by rw [← add_field _ _ 1 (by omega)];exact hc 1 _ rfl,by rw [← add_field _ _ 2 (by omega)];exact hc 2 _ rfl,by rw [← add_field _ _ 3 (by omega)];exact hc 3 _ rfl,by rw [← add_field _ _ 4 (by omega)];exact hc 4 _ rfl⟩
structure S46 where
 f0:Bool
 f1:(List S50)
 f2:(List Bool)
structure S48 where
 f0:Int
 f1:S46
structure S54 where
 f0:Int
 f1:Int
 f2:Int
def k54:Kd S54:=Kd.iso (Kd.pair (Kd.int .i64) (Kd.pair (Kd.int .i64) (Kd.int .i64))) (fun x:S54=>(x.f0,x.f1,x.f2))
theorem k54_open {w:World} {x:S54} {cs:List Value} (h:k54.K w x cs):cs=[.int .i64 x.f0,.int .i64 x.f1,.int .i64 x.f2]:=by
 obtain ⟨_,_,rfl,rfl,⟨_,_,rfl,rfl,rfl⟩⟩:=h
 exact rfl
structure S169 where
 f0:Int
 f1:Int
 f2:Bool
 f3:Bool
 f4:Int
def z169:S169:=⟨(0:Int),(0:Int),false,false,(0:Int)⟩
def k169:Kd S169:=Kd.iso (Kd.pair (Kd.int .i64) (Kd.pair (Kd.int .i64) (Kd.pair Kd.bool (Kd.pair Kd.bool (Kd.int .i64))))) (fun x:S169=>(x.f0,x.f1,x.f2,x.f3,x.f4))
theorem k169_open {w:World} {x:S169} {cs:List Value} (h:k169.K w x cs):cs=[.int .i64 x.f0,.int .i64 x.f1,.bool x.f2,.bool x.f3,.int .i64 x.f4]:=by
 obtain ⟨_,_,rfl,rfl,⟨_,_,rfl,rfl,⟨_,_,rfl,rfl,⟨_,_,rfl,rfl,rfl⟩⟩⟩⟩:=h
 exact rfl
def rd_T169 (xs:List S169) (i:Int):S169:=xs.getD i.toNat z169
theorem at_T169 {w:World} {A:Option Addr} {n:Nat} {xs:List S169} (h:Kd.C k169 w A n xs) (i:Int) (h0:0≤i) (h1:i<n):∃ ad ,A=some ad∧w.cell? (ad.add (i.toNat * 5))=some (.int .i64 (rd_T169 xs i).f0)∧w.cell? ⟨(ad.add (i.toNat * 5)).block,(ad.add (i.toNat * 5)).off+1,none⟩=some (.int .i64 (rd_T169 xs i).f1)∧w.cell? ⟨(ad.add (i.toNat * 5)).block,(ad.add (i.toNat * 5)).off+2,none⟩=some (.bool (rd_T169 xs i).f2)∧w.cell? ⟨(ad.add (i.toNat * 5)).block,(ad.add (i.toNat * 5)).off+3,none⟩=some (.bool (rd_T169 xs i).f3)∧w.cell? ⟨(ad.add (i.toNat * 5)).block,(ad.add (i.toNat * 5)).off+4,none⟩=some (.int .i64 (rd_T169 xs i).f4):=by
 obtain ⟨ad,c,e,_,hK,hc0⟩:=Kd.C_get h z169 i h0 h1
 have hc:∀ j u,c[j]?=some u→w.cell? (ad.add (i.toNat * 5+j))=some u:=hc0
 obtain rfl:=k169_open hK
 exact ⟨ad,e,hc 0 _ rfl,by rw [← add_field _ _ 1 (by omega)];exact hc 1 _ rfl,by rw [← add_field _ _ 2 (by omega)];exact hc 2 _ rfl,by rw [← add_field _ _ 3 (by omega)];exact hc 3 _ rfl,by rw [← add_field _ _ 4 (by omega)];exact hc 4 _ rfl⟩
end Go.Proofs.Ytpdnabhpkdchjaa.P
namespace Go.Proofs.Ytpdnabhpkdchjaa.Facts
def sg (l : List Nat) : List Char := l.map Char.ofNat
theorem words_cons (c : Char) (hc : c ≠ Char.ofNat 32) (r : List Char) : wordsSigns (c :: r) = match wordsSigns r with | w :: ws => (c :: w) :: ws | [] => [[c]] := by
  rw [wordsSigns.eq_3 c r (fun h => hc h)]
  cases wordsSigns r <;> rfl
theorem words_blank (r : List Char) : wordsSigns (Char.ofNat 32 :: r) = [] :: wordsSigns r := rfl
theorem words_word (a r : List Char) (ha : ∀ c ∈ a, c ≠ Char.ofNat 32) : wordsSigns (a ++ Char.ofNat 32 :: r) = a :: wordsSigns r := by
  induction a with
  | nil => exact words_blank r
  | cons c a ih =>
    have h := ih (fun x hx => ha x (List.mem_cons_of_mem _ hx))
    show wordsSigns (c :: (a ++ Char.ofNat 32 :: r)) = _
    rw [words_cons c (ha c List.mem_cons_self), h]
def w1 : List Nat := [104, 97, 114, 110, 101, 115, 115]
def w2 : List Nat := [99, 98, 100, 51, 97, 55, 55, 98, 49, 48, 100, 98, 52, 102, 101, 102, 49, 101, 52, 51, 98, 57, 101, 100, 100, 49, 99, 98, 52, 98, 97, 48, 51, 53, 101, 98, 56, 53, 99, 55, 98, 97, 57, 57, 53, 52, 49, 57, 56, 56, 102, 51, 50, 55, 49, 52, 54, 99, 55, 50, 55, 52, 102, 98]
def w3 : List Nat := [99, 117, 116]
def w4 : List Nat := [97, 116, 32, 108, 111, 111, 112, 46, 101, 120, 97, 109, 112, 108, 101, 47, 116, 114, 101, 97, 100, 108, 101, 47, 108, 97, 119, 115, 46, 70, 110, 69, 120, 97, 99, 116, 67, 111, 110, 115, 116, 97, 110, 116, 115, 32, 108, 111, 111, 112, 46, 101, 120, 97, 109, 112, 108, 101, 47, 116,
  114, 101, 97, 100, 108, 101, 47, 108, 97, 119, 115, 46, 70, 110, 69, 120, 97, 99, 116, 76, 97, 121, 111, 117, 116, 79, 107, 32, 108, 111, 111, 112, 46, 101, 120, 97, 109, 112, 108, 101, 47, 116, 114, 101, 97, 100, 108, 101, 47, 108, 97, 119, 115, 46, 70, 110, 84, 111, 112, 32,
  108, 111, 111, 112, 46, 101, 120, 97, 109, 112, 108, 101, 47, 116, 114, 101, 97, 100, 108, 101, 47, 108, 97, 119, 115, 46, 70, 110, 69, 120, 97, 99, 116, 69, 118, 101, 110, 116, 79, 107, 32, 108, 111, 111, 112, 46, 101, 120, 97, 109, 112, 108, 101, 47, 116, 114, 101, 97, 100, 108,
  101, 47, 108, 97, 119, 115, 46, 70, 110, 69, 120, 97, 99, 116, 65, 114, 111, 117, 110, 100, 32, 108, 111, 111, 112, 46, 101, 120, 97, 109, 112, 108, 101, 47, 116, 114, 101, 97, 100, 108, 101, 47, 108, 97, 119, 115, 46, 70, 110, 69, 120, 97, 99, 116, 66, 101, 103, 105, 110, 32,
  108, 111, 111, 112, 46, 101, 120, 97, 109, 112, 108, 101, 47, 116, 114, 101, 97, 100, 108, 101, 47, 108, 97, 119, 115, 46, 70, 110, 69, 120, 97, 99, 116, 72, 111, 110, 101, 115, 116, 32, 108, 111, 111, 112, 46, 101, 120, 97, 109, 112, 108, 101, 47, 116, 114, 101, 97, 100, 108, 101,
  47, 108, 97, 119, 115, 46, 70, 110, 83, 112, 111, 105, 108, 116, 32, 108, 111, 111, 112, 46, 101, 120, 97, 109, 112, 108, 101, 47, 116, 114, 101, 97, 100, 108, 101, 47, 108, 97, 119, 115, 46, 70, 110, 69, 120, 97, 99, 116, 83, 116, 97, 116, 101, 79, 107, 32, 108, 111, 111, 112,
  46, 101, 120, 97, 109, 112, 108, 101, 47, 116, 114, 101, 97, 100, 108, 101, 47, 108, 97, 119, 115, 46, 70, 110, 69, 120, 97, 99, 116, 84, 114, 117, 116, 104, 32, 108, 111, 111, 112, 46, 101, 120, 97, 109, 112, 108, 101, 47, 116, 114, 101, 97, 100, 108, 101, 47, 108, 97, 119, 115,
  46, 70, 110, 74, 117, 115, 116, 32, 108, 111, 111, 112, 46, 101, 120, 97, 109, 112, 108, 101, 47, 116, 114, 101, 97, 100, 108, 101, 47, 108, 97, 119, 115, 46, 70, 110, 83, 97, 102, 101, 32, 108, 111, 111, 112, 46, 101, 120, 97, 109, 112, 108, 101, 47, 116, 114, 101, 97, 100, 108,
  101, 47, 108, 97, 119, 115, 46, 70, 110, 83, 119, 97, 112, 32, 108, 111, 111, 112, 46, 101, 120, 97, 109, 112, 108, 101, 47, 116, 114, 101, 97, 100, 108, 101, 47, 108, 97, 119, 115, 46, 70, 110, 69, 120, 97, 99, 116, 71, 97, 112, 115, 32, 108, 111, 111, 112, 46, 101, 120, 97,
  109, 112, 108, 101, 47, 116, 114, 101, 97, 100, 108, 101, 47, 108, 97, 119, 115, 46, 70, 110, 69, 120, 97, 99, 116, 68, 111, 32, 108, 111, 111, 112, 46, 101, 120, 97, 109, 112, 108, 101, 47, 116, 114, 101, 97, 100, 108, 101, 47, 108, 97, 119, 115, 46, 70, 110, 84, 114, 97, 105,
  110, 32, 108, 111, 111, 112, 46, 101, 120, 97, 109, 112, 108, 101, 47, 116, 114, 101, 97, 100, 108, 101, 47, 108, 97, 119, 115, 46, 70, 110, 69, 120, 97, 99, 116, 82, 117, 110, 32, 108, 111, 111, 112, 46, 101, 120, 97, 109, 112, 108, 101, 47, 116, 114, 101, 97, 100, 108, 101, 47,
  108, 97, 119, 115, 46, 70, 110, 69, 120, 97, 99, 116, 80, 97, 115, 115, 105, 110, 103, 32, 108, 111, 111, 112, 46, 101, 120, 97, 109, 112, 108, 101, 47, 116, 114, 101, 97, 100, 108, 101, 47, 108, 97, 119, 115, 46, 70, 110, 83, 119, 101, 101, 112]
theorem init_is : Try.prog.initOrder = String.ofList (sg (w1 ++ 32 :: (w2 ++ 32 :: (w3 ++ 32 :: w4)))) := by kernel_rfl
theorem init_list : Try.prog.initOrder.toList = sg w1 ++ Char.ofNat 32 :: (sg w2 ++ Char.ofNat 32 :: (sg w3 ++ Char.ofNat 32 :: sg w4)) := by
  rw [init_is, String.toList_ofList]
  simp [sg]
theorem w1_is : sg w1 = "harness".toList := by kernel_rfl
theorem w2_sum : isSumSigns (sg w2) = true := by kernel_rfl
theorem w3_is : sg w3 = "cut".toList := by kernel_rfl
theorem w1_nb : (sg w1).all (· != Char.ofNat 32) = true := by kernel_rfl
theorem w2_nb : (sg w2).all (· != Char.ofNat 32) = true := by kernel_rfl
theorem w3_nb : (sg w3).all (· != Char.ofNat 32) = true := by kernel_rfl
theorem nb {l : List Char} (h : l.all (· != Char.ofNat 32) = true) : ∀ c ∈ l, c ≠ Char.ofNat 32 := by
  intro c hc
  have := List.all_eq_true.1 h c hc
  simpa using this
theorem words_init : behindMainWord (wordsSigns Try.prog.initOrder.toList) = "cut".toList :: wordsSigns (sg w4) := by
  rw [init_list, words_word _ _ (nb w1_nb), words_word _ _ (nb w2_nb), words_word _ _ (nb w3_nb), w1_is, w3_is]
  simp only [behindMainWord]
  rw [if_pos]
  rw [w2_sum]
  rfl
theorem may_of (P : Program) (r : List (List Char)) (h : behindMainWord (wordsSigns P.initOrder.toList) = "cut".toList :: r) (h1 : P.laysLater = false) (h2 : P.bearsReflect = false) (h3 : P.doorRows = []) : P.mayEnter = true := by
  unfold Program.mayEnter
  rw [h]
  unfold Program.doorFits
  rw [h1, h2, h3]
  kernel_rfl
theorem lifts_of (P : Program) (r : List (List Char)) (h : behindMainWord (wordsSigns P.initOrder.toList) = "cut".toList :: r) : P.headLifts = [] := by
  unfold Program.headLifts
  rw [h]
  kernel_rfl
theorem final_of (P : Program) (r : List (List Char)) (h : behindMainWord (wordsSigns P.initOrder.toList) = "cut".toList :: r) : P.liftsFinal = false := by
  unfold Program.liftsFinal
  rw [lifts_of P r h, h]
  kernel_rfl
theorem make_of (P : Program) (r : List (List Char)) (h : behindMainWord (wordsSigns P.initOrder.toList) = "cut".toList :: r) : P.make = some .cut := by
  unfold Program.make
  rw [h]
  generalize P.headLifts = x
  kernel_rfl
theorem laysLater : Try.prog.laysLater = false := by kernel_rfl
theorem bearsReflect : Try.prog.bearsReflect = false := by kernel_rfl
theorem doorRows : Try.prog.doorRows = [] := by kernel_rfl
theorem mayEnter : Try.prog.mayEnter = true := may_of _ _ words_init laysLater bearsReflect doorRows
theorem liftsFinal : Try.prog.liftsFinal = false := final_of _ _ words_init
theorem make : Try.prog.make = some .cut := make_of _ _ words_init
theorem laidOut : laidOutB Try.prog = true := by kernel_rfl
theorem mapsRowed : Go.mapsRowed Try.prog = true := by kernel_rfl
theorem stops : (Try.prog.stops == []) = true := by kernel_rfl
theorem stopKnobs : (Try.prog.stopKnobs == []) = true := by kernel_rfl
theorem plainKeys : Try.prog.plainKeys = true := by kernel_rfl
theorem stopsHeard : Try.prog.stopsHeard = true := by kernel_rfl
theorem own : ownKnob Try.prog.godebug = none := by kernel_rfl
end Go.Proofs.Ytpdnabhpkdchjaa.Facts
namespace Go.Proofs.Ytpdnabhpkdchjaa.Open
open Go.RowKit Go.Proofs.YtpdnabhpkdchjaaW.PrintWords Go.Proofs.YtpdnabhpkdchjaaW.PrintLast Go.Proofs.YtpdnabhpkdchjaaW.PrintMore
open Go.WideShapes
set_option linter.unusedVariables false
def Opens {α : Type} (P : Program) (t : TypeId) (d : Kd α) : Prop :=
  ∀ (H : Type) (enc : TypeId × Value → H) (w : World) (base : Nat) (spare : Nat → Bool) (held : Bool) (fuel : Nat) (cs : List Value) (x : DataW H × List MemPlace),
    DataW.trod enc P w base spare held fuel t cs = some x → ∃ a, d.K w a cs
variable {P : Program} {t : TypeId}
theorem opens_int {k : IntKind} (ht : P.underlying t = some (.int k)) : Opens P t (Kd.int k) := by
  intro H enc w base spare held fuel cs x h
  obtain ⟨n, rfl, _⟩ := DataW.trod_int ht h
  exact ⟨n, rfl⟩
theorem opens_bool (ht : P.underlying t = some .bool) : Opens P t Kd.bool := by
  intro H enc w base spare held fuel cs x h
  obtain ⟨n, rfl, _⟩ := DataW.trod_bool ht h
  exact ⟨n, rfl⟩
theorem opens_iso {α β : Type} {d : Kd α} (f : β → α) (g : α → β) (hg : ∀ a, f (g a) = a) (h : Opens P t d) : Opens P t (Kd.iso d f) := by
  intro H enc w base spare held fuel cs x hx
  obtain ⟨a, ha⟩ := h H enc w base spare held fuel cs x hx
  exact ⟨g a, by show d.K w (f (g a)) cs; rw [hg]; exact ha⟩
theorem mapM_get {α β : Type} {f : α → Option β} : ∀ {l : List α} {r : List β}, l.mapM f = some r → r.length = l.length ∧ ∀ (i : Nat) u, r[i]? = some u → ∃ y, l[i]? = some y ∧ f y = some u
  | [], r, h => by
    simp at h
    subst h
    exact ⟨rfl, fun i u hu => by simp at hu⟩
  | y :: l, r, h => by
    simp only [List.mapM_cons] at h
    cases hy : f y with
    | none => simp [hy] at h
    | some b =>
      cases hl : l.mapM f with
      | none => simp [hy, hl] at h
      | some r' =>
        simp [hy, hl] at h
        subst h
        obtain ⟨h1, h2⟩ := mapM_get hl
        refine ⟨by simp [h1], fun i u hu => ?_⟩
        cases i with
        | zero =>
          simp at hu
          subst hu
          exact ⟨y, rfl, hy⟩
        | succ i =>
          simp at hu
          obtain ⟨z, hz, hf⟩ := h2 i u hu
          exact ⟨z, by simpa using hz, hf⟩
theorem opens_slice {α : Type} {d : Kd α} {e : TypeId} (ht : P.underlying t = some (.slice e)) (hc : P.cellsOf e = d.sz) (he : Opens P e d) : Opens P t (Kd.slice e d) := by
  intro H enc w base spare held fuel cs x h
  rcases DataW.trod_slice ht h with ⟨rfl, _⟩ | ⟨a, len, cap, elems, rest, n, _, rfl, _, hb, hl, hm, hlen, hel, _, _⟩
  · exact ⟨[], none, 0, rfl, Nat.le_refl _, rfl, by simp, fun hp => absurd hp (by simp)⟩
  · have each : ∀ i : Fin len, ∃ q : α × List Value, d.K w q.1 q.2 ∧ q.2.length = d.sz ∧ ∀ j u, q.2[j]? = some u → w.cell? (a.add (i.1 * d.sz + j)) = some u := by
      intro i
      have h1 := hel i.1 i.2
      rw [hc] at h1
      obtain ⟨y, hy⟩ : ∃ y, elems[i.1]? = some y := ⟨_, List.getElem?_eq_getElem (by rw [hlen]; exact i.2)⟩
      rw [hy, Option.bind_eq_some_iff] at h1
      obtain ⟨c, h2, h3⟩ := h1
      obtain ⟨v, hv⟩ := he H enc w base spare held n c y h3
      refine ⟨(v, c), hv, d.K_len hv, fun j u hu => ?_⟩
      unfold World.cells? at h2
      rw [if_pos (by unfold Addr.add; split <;> exact hb)] at h2
      obtain ⟨_, h4⟩ := mapM_get h2
      obtain ⟨z, hz, hz2⟩ := h4 j u hu
      have : z = j := by
        have := List.getElem?_eq_some_iff.1 hz
        obtain ⟨hlt, hz'⟩ := this
        simpa using hz'.symm
      subst this
      rw [Addr.add_add] at hz2
      exact hz2
    have hmx : maxLen = 9223372036854775807 := by unfold maxLen; rfl
    refine ⟨List.ofFn fun i : Fin len => (Classical.choose (each i)).1, some a, cap, by simp, by simpa using hl, ?_, by simp; omega, fun hp => ⟨a, rfl, fun j p hj => ?_⟩⟩
    · rfl
    · have hj' : j < len := by
        have := (List.getElem?_eq_some_iff.1 hj).1
        simpa using this
      have hp' : p = (Classical.choose (each ⟨j, hj'⟩)).1 := by
        rw [List.getElem?_ofFn, dif_pos hj'] at hj
        exact (Option.some.inj hj).symm
      obtain ⟨h1, h2, h3⟩ := Classical.choose_spec (each ⟨j, hj'⟩)
      exact ⟨_, h2, by rw [hp']; exact h1, h3⟩
def OpensF {α : Type} (P : Program) (fs : List Field) (off : Nat) (d : Kd α) : Prop :=
  ∀ (H : Type) (enc : TypeId × Value → H) (w : World) (base : Nat) (spare : Nat → Bool) (held : Bool) (n : Nat) (cs : List Value),
    (∀ f ∈ fs, ∃ x, DataW.trod enc P w base spare held n f.type ((cs.drop f.offset).take (P.cellsOf f.type)) = some x) → cs.length = off + d.sz → ∃ a, d.K w a (cs.drop off)
theorem opensF_one {α : Type} {d : Kd α} {f : Field} {off : Nat} (ho : f.offset = off) (hc : P.cellsOf f.type = d.sz) (h : Opens P f.type d) : OpensF P [f] off d := by
  intro H enc w base spare held n cs hf hl
  obtain ⟨x, hx⟩ := hf f List.mem_cons_self
  obtain ⟨a, ha⟩ := h H enc w base spare held n _ x hx
  refine ⟨a, ?_⟩
  rw [ho, hc, List.take_of_length_le (by simp; omega)] at ha
  exact ha
theorem opensF_cons {α β : Type} {d : Kd α} {d2 : Kd β} {f : Field} {fs : List Field} {off off2 : Nat} (ho : f.offset = off) (hc : P.cellsOf f.type = d.sz) (h2 : off2 = off + d.sz) (h : Opens P f.type d) (hr : OpensF P fs off2 d2) : OpensF P (f :: fs) off (Kd.pair d d2) := by
  intro H enc w base spare held n cs hf hl
  have hl' : cs.length = off + (d.sz + d2.sz) := hl
  obtain ⟨x, hx⟩ := hf f List.mem_cons_self
  obtain ⟨a, ha⟩ := h H enc w base spare held n _ x hx
  obtain ⟨b, hb⟩ := hr H enc w base spare held n cs (fun g hg => hf g (List.mem_cons_of_mem _ hg)) (by omega)
  refine ⟨(a, b), (cs.drop off).take d.sz, cs.drop off2, ?_, ?_, hb⟩
  · rw [h2, ← List.drop_drop, List.take_append_drop]
  · rw [ho, hc] at ha
    exact ha
theorem opens_struct {α : Type} {d : Kd α} {fs : Array Field} (ht : P.underlying t = some (.struct fs)) (hc : P.cellsOf t = d.sz) (h : OpensF P fs.toList 0 d) : Opens P t d := by
  intro H enc w base spare held fuel cs x hx
  obtain ⟨xs, n, _, _, hl, hlen, hf⟩ := DataW.trod_struct ht hx
  obtain ⟨a, ha⟩ := h H enc w base spare held n cs (fun f hm => by
    obtain ⟨i, hi⟩ := List.getElem?_of_mem hm
    have hi' : fs[i]? = some f := by simpa using hi
    have := hf i f hi'
    have hlt : i < xs.length := by
      rw [hlen]
      exact (Array.getElem?_eq_some_iff.1 hi').1
    exact ⟨_, this.trans (List.getElem?_eq_getElem hlt)⟩) (by omega)
  exact ⟨a, by simpa using ha⟩
theorem open_arg {α : Type} {d : Kd α} (h : Opens P t d) {H : Type} {enc : TypeId × Value → H} {w : World} {base : Nat} {spare : Nat → Bool} {held : Bool} {v : Value} {x : DataW H} {ps : List MemPlace}
    (hx : DataW.Trod enc P w base spare held t v x ps) : ∃ a, d.K w a v.cells.toList := by
  obtain ⟨fuel, hf⟩ := hx
  exact h H enc w base spare held fuel _ _ hf
end Go.Proofs.Ytpdnabhpkdchjaa.Open
namespace Go.Proofs.Ytpdnabhpkdchjaa.Open
open Go.RowKit Go.Proofs.YtpdnabhpkdchjaaW.PrintWords Go.Proofs.YtpdnabhpkdchjaaW.PrintLast Go.Proofs.YtpdnabhpkdchjaaW.PrintMore
open Go.ChangeShapes Go.WideShapes Go.ChangeAt P
set_option maxRecDepth 100000
set_option linter.unusedVariables false
theorem oInt : Opens Try.prog 3 (Kd.int .i64) := opens_int Try.underlying3
theorem oBool : Opens Try.prog 4 Kd.bool := opens_bool Try.underlying4
theorem o160 : Opens Try.prog 160 k160 :=
  opens_iso _ (fun a => ⟨a.1, a.2⟩) (fun _ => rfl) (opens_struct Try.underlying160 (by kernel_rfl) (opensF_cons rfl (by kernel_rfl) rfl oInt (opensF_one rfl (by kernel_rfl) oInt)))
theorem o54 : Opens Try.prog 54 k54 :=
  opens_iso _ (fun a => ⟨a.1, a.2.1, a.2.2⟩) (fun _ => rfl) (opens_struct Try.underlying54 (by kernel_rfl) (opensF_cons rfl (by kernel_rfl) rfl oInt (opensF_cons rfl (by kernel_rfl) rfl oInt (opensF_one rfl (by kernel_rfl) oInt))))
theorem o169 : Opens Try.prog 169 k169 :=
  opens_iso _ (fun a => ⟨a.1, a.2.1, a.2.2.1, a.2.2.2.1, a.2.2.2.2⟩) (fun _ => rfl) (opens_struct Try.underlying169 (by kernel_rfl) (opensF_cons rfl (by kernel_rfl) rfl oInt (opensF_cons rfl (by kernel_rfl) rfl oInt (opensF_cons rfl (by kernel_rfl) rfl oBool (opensF_cons rfl (by kernel_rfl) rfl oBool (opensF_one rfl (by kernel_rfl) oInt))))))
theorem oCounters : Opens Try.prog 23 (Kd.slice 160 k160) := opens_slice Try.underlying23 (by kernel_rfl) o160
theorem oSections : Opens Try.prog 75 (Kd.slice 169 k169) := opens_slice Try.underlying75 (by kernel_rfl) o169
theorem oBools : Opens Try.prog 44 (Kd.slice 4 Kd.bool) := opens_slice Try.underlying44 (by kernel_rfl) oBool
theorem oLayout : Opens Try.prog 25 (Kd.pair (Kd.int .i64) (Kd.slice 160 k160)) :=
  opens_struct Try.underlying25 (by kernel_rfl) (opensF_cons rfl (by kernel_rfl) rfl oInt (opensF_one rfl (by kernel_rfl) oCounters))
theorem oState : Opens Try.prog 77 (Kd.pair Kd.bool (Kd.pair (Kd.slice 169 k169) (Kd.slice 4 Kd.bool))) :=
  opens_struct Try.underlying77 (by kernel_rfl) (opensF_cons rfl (by kernel_rfl) rfl oBool (opensF_cons rfl (by kernel_rfl) rfl oSections (opensF_one rfl (by kernel_rfl) oBools)))
section
variable {H : Type} {enc : TypeId × Value → H} {W : World} {base b0 : Nat} {spare : Nat → Bool} {held : Bool} {v : Value} {x : DataW H} {ps : List MemPlace} {r : Reach}
theorem arg_layout (hv : Value.okWide Try.prog W r b0 25 v) (h : DataW.Trod enc Try.prog W base spare held 25 v x ps) :
    ∃ n A c l, v = .agg #[.int .i64 n, .slice A l.length c] ∧ Kd.C k160 W A l.length l ∧ l.length ≤ c := by
  obtain ⟨cs, rfl, _⟩ := okWide_struct Try.underlying25 hv
  obtain ⟨⟨n, l⟩, c0, c1, hcs, h0, A, c, h1, hl, hr⟩ := open_arg oLayout h
  have h0' : c0 = [.int .i64 n] := h0
  subst h0' h1
  refine ⟨n, A, c, l, ?_, hr, hl⟩
  have : cs.toList = [.int .i64 n, .slice A l.length c] := hcs
  rw [← Array.toArray_toList (xs := cs), this]
theorem arg_state (hv : Value.okWide Try.prog W r b0 77 v) (h : DataW.Trod enc Try.prog W base spare held 77 v x ps) :
    ∃ b A1 c1 l1 A2 c2 l2, v = .agg #[.bool b, .slice A1 l1.length c1, .slice A2 l2.length c2] ∧ Kd.C k169 W A1 l1.length l1 ∧ l1.length ≤ c1 ∧ Kd.C Kd.bool W A2 l2.length l2 ∧ l2.length ≤ c2 := by
  obtain ⟨cs, rfl, _⟩ := okWide_struct Try.underlying77 hv
  obtain ⟨⟨b, l1, l2⟩, d0, d1, hcs, h0, d2, d3, h1, ⟨A1, c1, h2, hl1, hr1⟩, A2, c2, h3, hl2, hr2⟩ := open_arg oState h
  have h0' : d0 = [.bool b] := h0
  subst h0' h2 h3 h1
  refine ⟨b, A1, c1, l1, A2, c2, l2, ?_, hr1, hl1, hr2, hl2⟩
  have : cs.toList = [.bool b, .slice A1 l1.length c1, .slice A2 l2.length c2] := hcs
  rw [← Array.toArray_toList (xs := cs), this]
theorem arg_event (hv : Value.okWide Try.prog W r b0 54 v) (h : DataW.Trod enc Try.prog W base spare held 54 v x ps) :
    ∃ a b c, v = .agg #[.int .i64 a, .int .i64 b, .int .i64 c] := by
  obtain ⟨cs, rfl, _⟩ := okWide_struct Try.underlying54 hv
  obtain ⟨e, h⟩ := open_arg o54 h
  have h2 := k54_open h
  refine ⟨e.f0, e.f1, e.f2, ?_⟩
  have : cs.toList = [.int .i64 e.f0, .int .i64 e.f1, .int .i64 e.f2] := h2
  rw [← Array.toArray_toList (xs := cs), this]
end
theorem joined_of (f : FuncId) (fn : Func) (s : ChangeSpec) (c : OpenClaim) (k1 : c.wf (OpenSpec.ofChange s) = true) (k4 : fn.params.all (Try.prog.readableRec ·) = true) (k5 : namedTie Try.prog c.named s.vars = true)
    (k6 : (c.stops == []) = true) (k8 : (c.knobs == []) = true) (k9 : (Try.prog.stopKnobs == []) = true) (k10 : (c.inPlace == Try.prog.inPlace f) = true) (k11 : (c.unfollowed == Try.prog.unfollowed f) = true) (k12 : (c.recurses == Try.prog.recurses f) = true) (k13 : (c.named == Try.prog.varsNamed f) = true)
    (k14 : (c.maps == (fn.params.toList ++ s.plain.varTypes Try.prog).any (Try.prog.mapsRec ·)) = true) (k15 : (c.ifaces == (fn.params.toList ++ s.plain.varTypes Try.prog).any (Try.prog.ifacesRec ·)) = true) (k16 : (c.mapsOut == Try.prog.mapsAmong fn.resultTypes.toList) = true)
    (k17 : (c.loops == (fn.params.toList ++ s.plain.varTypes Try.prog).any (Try.prog.loopsFrom ·)) = true) (k17b : (c.wideKeys == (fn.params.toList ++ s.plain.varTypes Try.prog ++ fn.resultTypes.toList).any (Try.prog.wideKeysFrom ·)) = true)
    (k18 : s.vars.all (Try.prog.varReadable ·) = true) (k19 : fn.resultTypes.all (fun t => Try.prog.readableRec t && decide (t < Try.prog.types.size)) = true) (k20 : (c.ifacesOut == fn.resultTypes.toList.any (Try.prog.ifacesRec ·)) = true) (k21 : (c.loopsOut == fn.resultTypes.toList.any (Try.prog.loopsFrom ·)) = true)
    (k22 : c.plainKeys = true) (k23 : c.shortTexts.isNone = true) (k24 : c.lifted = false) (k25 : c.make = .cut)
    (k26a : c.domain.isEmpty = true) (k26b : c.kinds = []) (k27 : (c.pinned == c.pinnedBy) = true)
    (k28 : (c.veiled == (fn.params.toList ++ s.plain.varTypes Try.prog ++ fn.resultTypes.toList).any (Try.prog.veiledRec ·)) = true) (k29 : c.veiledFits Try.prog fn.params.toList (fn.params.toList ++ s.plain.varTypes Try.prog ++ fn.resultTypes.toList) = true) :
    joinedFacts Try.prog f fn s c = true := by
  have q1 := Facts.laidOut
  have q2 := Facts.mapsRowed
  have q3 := Facts.stops
  have q4 := Facts.plainKeys
  have q5 := Facts.stopsHeard
  have q6 := Facts.mayEnter
  have q7 := Facts.liftsFinal
  have q8 := Facts.make
  generalize Try.prog = P at *
  unfold joinedFacts
  rw [k22, q4, k24, q7, k25, q8, k1, q1, q2, k4, k5, k6, q3, k8, k9, k10, k11, k12, k13, k14, k15, k16, k17, k17b, k18, k19, k20, k21, k23, q5, q6, k26a, k26b, if_pos rfl, k27, k28, k29]
  rfl
end Go.Proofs.Ytpdnabhpkdchjaa.Open
namespace Go.Proofs.Ytpdnabhpkdchjaa.P
open Go.RowKit Go.Proofs.YtpdnabhpkdchjaaW.PrintWords Go.Proofs.YtpdnabhpkdchjaaW.PrintLast Go.Proofs.YtpdnabhpkdchjaaW.PrintMore
set_option linter.unusedVariables false
set_option linter.unusedSimpArgs false
theorem ret_int {k : IntKind} {a b : Int} (h : a = b) : Ending.returned (.int k a) = .returned (.int k b) := by rw [h]
theorem ret_bool {a b : Bool} (h : a = b) : Ending.returned (.bool a) = .returned (.bool b) := by rw [h]
def inB (n x : Int) : Bool := decide (-1 ≤ x) && decide (x < n)
def ctrOk (n : Int) (x : S88) : Bool := inB n x.f0 && inB n x.f1 && !(x.f0 == x.f1)
def layoutOk (n : Int) (l : List S88) : Int := if n < 1 then 1 else if 60 < n then 1 else if 120 < l.length then 1 else if l.all (ctrOk n) then 0 else 2
def impl_LayoutOk.f (a0_0 : Int) (l0_1 : List S88) : Option Int := some (layoutOk a0_0 l0_1)
theorem in_calls (x n : Int) (v : Value) (g : Nat) (w : World) (hb : w.heap[g]? = some (.cells #[.int .i64 n, v] 30 (0, 0))) :
    Calls Try.prog 89 #[.int .i64 x, .pointer (some ⟨g, 0, none⟩)] w fun e w' => e = .returned (.bool (inB n x)) ∧ w = w' := by
  have hc : w.cell? ⟨g, 0, none⟩ = some (.int .i64 n) := (blk_cell hb 0).trans rfl
  by_cases h : -1 ≤ x
  · have h1 : decide (x ≥ -1) = true := decide_eq_true h
    go_enter Try.func89, Try.ntmps89
    go_wp2
    go_ret
    exact ⟨ret_bool (by simp [inB, h]), rfl⟩
  · have h1 : decide (x ≥ -1) = false := decide_eq_false h
    go_enter Try.func89, Try.ntmps89
    go_wp2
    go_ret
    exact ⟨ret_bool (by simp only [inB, decide_eq_false (show ¬ (-1 ≤ x) by omega), Bool.false_and]), rfl⟩
theorem layoutOk_bad {n : Int} {l : List S88} (h : ¬ (n < 1) ∧ ¬ (60 < n) ∧ ¬ (120 < l.length)) {i : Nat} (hi : i < l.length) (hb : ctrOk n (rd_T88 l i) = false) : layoutOk n l = 2 := by
  unfold layoutOk
  rw [if_neg h.1, if_neg h.2.1, if_neg h.2.2, if_neg]
  intro ha
  have := List.all_eq_true.1 ha (l.getD i z88) (by rw [List.getD_eq_getElem?_getD, List.getElem?_eq_getElem hi]; exact List.getElem_mem hi)
  simp only [rd_T88, Int.toNat_natCast] at hb
  rw [hb] at this
  cases this
theorem lay_b {n : Int} {m : Nat} (h : 1 ≤ n ∧ n ≤ 60 ∧ ¬ 120 < m) : ¬ (n < 1) ∧ ¬ (60 < n) ∧ ¬ (120 < m) := ⟨by omega, by omega, h.2.2⟩
theorem layoutOk_good {n : Int} {l : List S88} (h : ¬ (n < 1) ∧ ¬ (60 < n) ∧ ¬ (120 < l.length)) {i : Nat} (hi : ¬ i < l.length) (ht : (l.take i).all (ctrOk n) = true) : layoutOk n l = 0 := by
  rw [List.take_of_length_le (by omega)] at ht
  unfold layoutOk
  rw [if_neg h.1, if_neg h.2.1, if_neg h.2.2, if_pos ht]
theorem take_all {n : Int} {l : List S88} {i : Nat} (hi : i < l.length) (ht : (l.take i).all (ctrOk n) = true) (hb : ctrOk n (rd_T88 l i) = true) : (l.take (i + 1)).all (ctrOk n) = true := by
  rw [List.take_succ_eq_append_getElem hi, List.all_append, ht]
  simp only [rd_T88, Int.toNat_natCast, List.getD_eq_getElem?_getD, List.getElem?_eq_getElem hi, Option.getD_some] at hb
  simp [hb]
set_option maxHeartbeats 2000000 in
set_option maxRecDepth 100000 in
theorem impl_LayoutOk.calls (a0_0 : Int) (A0_1 : Option Addr) (c0_1 : Nat) (l0_1 : List (S88)) (r : Int) (w : World) (hr0_1 : Kd.C k88 w A0_1 l0_1.length l0_1) (hc0_1 : l0_1.length ≤ c0_1) (h : impl_LayoutOk.f a0_0 l0_1 = some r) :
    Calls Try.prog 25 #[.agg #[.int .i64 a0_0, .slice A0_1 l0_1.length c0_1]] w fun e w' => e = .returned (.int .i64 r) ∧ Below w.heap.size w w' := by
  obtain rfl := Option.some.inj h
  clear h
  have HR := Aside0.mk hr0_1
  clear hr0_1 hc0_1
  by_cases h1 : a0_0 < 1
  · have e : Aside0 (layoutOk a0_0 l0_1 = 1) := ⟨by unfold layoutOk; rw [if_pos h1]⟩
    have h1b : decide (a0_0 < 1) = true := decide_eq_true h1
    clear h1
    go_enter Try.func25, Try.ntmps25
    go_wp2
    go_ret
    exact ⟨ret_int e.out.symm, below_alloc (Below.refl _ _) _⟩
  · have h1b : decide (a0_0 < 1) = false := decide_eq_false h1
    by_cases h2 : 60 < a0_0
    · have e : Aside0 (layoutOk a0_0 l0_1 = 1) := ⟨by unfold layoutOk; rw [if_neg h1, if_pos h2]⟩
      have h2b : decide (a0_0 > 60) = true := decide_eq_true h2
      clear h1 h2
      go_enter Try.func25, Try.ntmps25
      go_wp2
      go_ret
      exact ⟨ret_int e.out.symm, below_alloc (Below.refl _ _) _⟩
    · have h2b : decide (a0_0 > 60) = false := decide_eq_false h2
      by_cases h3 : 120 < l0_1.length
      · have e : Aside0 (layoutOk a0_0 l0_1 = 1) := ⟨by unfold layoutOk; rw [if_neg h1, if_neg h2, if_pos h3]⟩
        have h3b : decide ((l0_1.length : Int) > 120) = true := decide_eq_true (by omega)
        have h3c : decide (120 < l0_1.length) = true := decide_eq_true h3
        clear h1 h2 h3
        go_enter Try.func25, Try.ntmps25
        go_wp2
        go_ret
        exact ⟨ret_int e.out.symm, below_alloc (Below.refl _ _) _⟩
      · have h3b : decide ((l0_1.length : Int) > 120) = false := decide_eq_false (by omega)
        have h3c : decide (120 < l0_1.length) = false := decide_eq_false h3
        have HH : Aside0 (¬ (a0_0 < 1) ∧ ¬ (60 < a0_0) ∧ ¬ (120 < l0_1.length)) := ⟨h1, h2, h3⟩
        clear h1 h2 h3
        go_enter Try.func25, Try.ntmps25
        go_wp2
        go_loopw [24] (fun v wr => ∃ i : Nat, v = .int .i64 i ∧ Aside0 (i ≤ l0_1.length ∧ (l0_1.take i).all (ctrOk a0_0) = true) ∧ Aside0 (wr.heap[w.heap.size]? = some (.cells #[.int .i64 a0_0, .slice A0_1 l0_1.length c0_1] 30 (0, 0))) ∧ Aside0 (Below w.heap.size w wr)) (fun v _ => l0_1.length - (intOf v).toNat)
        case atStart => exact ⟨0, rfl, ⟨Nat.zero_le _, by simp⟩, ⟨heap_alloc_new _ _⟩, ⟨below_alloc (Below.refl _ _) _⟩⟩
        case round =>
          obtain ⟨i, rfl, HI, BK, HB⟩ := hrel
          have hgt : Aside0 (¬ (a0_0 < 1) ∧ ¬ (60 < a0_0) ∧ ¬ (120 < l0_1.length)) := by
            have := HH.out
            exact ⟨by omega, by omega, by omega⟩
          clear HH
          have hcz0 : wr.cell? ⟨w.heap.size, 0, none⟩ = some (.int .i64 a0_0) := (blk_cell BK.out 0).trans rfl
          have hcz1 : wr.cell? ⟨w.heap.size, 1, none⟩ = some (.slice A0_1 l0_1.length c0_1) := (blk_cell BK.out 1).trans rfl
          by_cases hlt : i < l0_1.length
          · have hlt1 : decide ((i : Int) < (l0_1.length : Int)) = true := decide_eq_true (by omega)
            have hlt2 : decide (i < l0_1.length) = true := decide_eq_true hlt
            obtain ⟨ad, e, hx0, hx1⟩ := at_T88 HR.out (i : Int) (by omega) (by omega)
            subst e
            replace hx0 := (HB.out.cell (World.block_lt_of_cell? w _ hx0)).trans hx0
            replace hx1 := (HB.out.cell (World.block_lt_of_cell? w _ hx1)).trans hx1
            rw [Int.toNat_natCast] at hx0 hx1
            generalize hv : rd_T88 l0_1 i = v at hx0 hx1
            have HV := Aside0.mk hv
            clear hv
            have HLT := Aside0.mk hlt
            have hsz := Aside0.mk HB.out.size
            have hp0 : 0 ≤ (i : Int) := by omega
            have hp1 : (i : Int) < 120 := by have := hgt.out; omega
            by_cases t1 : inB a0_0 v.f0 = true
            · have T1 : Aside0 (true = inB a0_0 v.f0) := ⟨t1.symm⟩
              clear t1
              by_cases t2 : inB a0_0 v.f1 = true
              · have T2 : Aside0 (true = inB a0_0 v.f1) := ⟨t2.symm⟩
                clear t2
                by_cases t3 : v.f0 = v.f1
                · have t3b : (v.f0 == v.f1) = true := beq_iff_eq.mpr t3
                  have T3 : Aside0 (true = (v.f0 == v.f1)) := ⟨t3b.symm⟩
                  clear t3
                  go_wp2_with (go_at_call 89; refine (in_calls _ a0_0 _ w.heap.size _ (blk_alloc BK.out _)).mono ?_; rintro e w' ⟨rfl, rfl⟩; (first | rw [← T1.out] | rw [← T2.out]))
                  go_ret
                  exact ⟨ret_int (layoutOk_bad (lay_b hgt.out) HLT.out (by rw [HV.out]; simp [ctrOk, ← T3.out])).symm, below_alloc HB.out _⟩
                · have t3b : (v.f0 == v.f1) = false := beq_eq_false_iff_ne.mpr t3
                  have T3 : Aside0 (false = (v.f0 == v.f1)) := ⟨t3b.symm⟩
                  clear t3
                  go_wp2_with (go_at_call 89; refine (in_calls _ a0_0 _ w.heap.size _ (blk_alloc BK.out _)).mono ?_; rintro e w' ⟨rfl, rfl⟩; (first | rw [← T1.out] | rw [← T2.out]))
                  go_roundw
                  case rel => exact ⟨i + 1, by go_num, ⟨HLT.out, take_all HLT.out HI.out.2 (by rw [HV.out]; simp [ctrOk, ← T1.out, ← T2.out, ← T3.out])⟩, ⟨blk_alloc BK.out _⟩, ⟨below_alloc HB.out _⟩⟩
                  case measure => have := HLT.out; simp [intOf]; omega
              · have T2 : Aside0 (false = inB a0_0 v.f1) := ⟨by simpa using t2⟩
                clear t2
                go_wp2_with (go_at_call 89; refine (in_calls _ a0_0 _ w.heap.size _ (blk_alloc BK.out _)).mono ?_; rintro e w' ⟨rfl, rfl⟩; (first | rw [← T1.out] | rw [← T2.out]))
                go_ret
                exact ⟨ret_int (layoutOk_bad (lay_b hgt.out) HLT.out (by rw [HV.out]; simp [ctrOk, ← T2.out])).symm, below_alloc HB.out _⟩
            · have T1 : Aside0 (false = inB a0_0 v.f0) := ⟨by simpa using t1⟩
              clear t1
              go_wp2_with (go_at_call 89; refine (in_calls _ a0_0 _ w.heap.size _ (blk_alloc BK.out _)).mono ?_; rintro e w' ⟨rfl, rfl⟩; rw [← T1.out])
              go_ret
              exact ⟨ret_int (layoutOk_bad (lay_b hgt.out) HLT.out (by rw [HV.out]; simp [ctrOk, ← T1.out])).symm, below_alloc HB.out _⟩
          · have hlt1 : decide ((i : Int) < (l0_1.length : Int)) = false := decide_eq_false (by omega)
            have hlt2 : decide (i < l0_1.length) = false := decide_eq_false hlt
            have HLT := Aside0.mk hlt
            clear hlt
            go_wp2
            go_ret
            exact ⟨ret_int (layoutOk_good (lay_b hgt.out) HLT.out HI.out.2).symm, HB.out⟩
end Go.Proofs.Ytpdnabhpkdchjaa.P
namespace Go.Proofs.Ytpdnabhpkdchjaa.P
open Go.RowKit Go.Proofs.YtpdnabhpkdchjaaW.PrintWords Go.Proofs.YtpdnabhpkdchjaaW.PrintLast Go.Proofs.YtpdnabhpkdchjaaW.PrintMore
set_option linter.unusedVariables false
set_option linter.unusedSimpArgs false
section
variable {w : World} {base : Nat} {ok : Nat → Prop} {g n c : Nat} {l : List S50}
theorem sec_at (h : Kd.R k50 50 w base ok (.slice (some ⟨g, 0, none⟩) n c) l) (i : Int) (h0 : 0 ≤ i) (h1 : i < n) :
    w.cell? ⟨g, i.toNat * 5, none⟩ = some (.int .i64 (rd_T50 l i).f0) ∧ w.cell? ⟨g, i.toNat * 5 + 1, none⟩ = some (.int .i64 (rd_T50 l i).f1) ∧ w.cell? ⟨g, i.toNat * 5 + 2, none⟩ = some (.bool (rd_T50 l i).f2) ∧
    w.cell? ⟨g, i.toNat * 5 + 3, none⟩ = some (.bool (rd_T50 l i).f3) ∧ w.cell? ⟨g, i.toNat * 5 + 4, none⟩ = some (.int .i64 (rd_T50 l i).f4) ∧
    w.frozen? ⟨g, i.toNat * 5, none⟩ = false ∧ w.frozen? ⟨g, i.toNat * 5 + 1, none⟩ = false ∧ w.frozen? ⟨g, i.toNat * 5 + 2, none⟩ = false ∧ w.frozen? ⟨g, i.toNat * 5 + 3, none⟩ = false ∧ w.frozen? ⟨g, i.toNat * 5 + 4, none⟩ = false := by
  obtain ⟨ce, hcl, hM, hcc, hfr⟩ := Kd.R_elem h z50 i h0 h1
  obtain rfl := k50_openM hM
  exact ⟨hcc 0 _ rfl, hcc 1 _ rfl, hcc 2 _ rfl, hcc 3 _ rfl, hcc 4 _ rfl, hfr 0, hfr 1, hfr 2, hfr 3, hfr 4⟩
theorem sec_put (h : Kd.R k50 50 w base ok (.slice (some ⟨g, 0, none⟩) n c) l) (i : Int) (h0 : 0 ≤ i) (h1 : i < n) (j : Nat) (hj : j < 5) (u : Value) (x' : S50)
    (hx : ([.int .i64 (rd_T50 l i).f0, .int .i64 (rd_T50 l i).f1, .bool (rd_T50 l i).f2, .bool (rd_T50 l i).f3, .int .i64 (rd_T50 l i).f4] : List Value).take j ++ [u] ++ ([.int .i64 (rd_T50 l i).f0, .int .i64 (rd_T50 l i).f1, .bool (rd_T50 l i).f2, .bool (rd_T50 l i).f3, .int .i64 (rd_T50 l i).f4] : List Value).drop (j + 1) = [.int .i64 x'.f0, .int .i64 x'.f1, .bool x'.f2, .bool x'.f3, .int .i64 x'.f4]) :
    Kd.R k50 50 (w.setCell ⟨g, i.toNat * 5 + j, none⟩ u) base ok (.slice (some ⟨g, 0, none⟩) n c) (l.set i.toNat x') ∧ w.grownBy (w.setCell ⟨g, i.toNat * 5 + j, none⟩ u) (some g) := by
  obtain ⟨ce, hcl, hM, hcc, hfr⟩ := Kd.R_elem h z50 i h0 h1
  have hM0 := k50_openM hM
  change ce = [.int .i64 (rd_T50 l i).f0, .int .i64 (rd_T50 l i).f1, .bool (rd_T50 l i).f2, .bool (rd_T50 l i).f3, .int .i64 (rd_T50 l i).f4] at hM0
  subst hM0
  have HP := Kd.R_seg h i h0 h1 (seg := [u]) (j := j) (okp := fun k => ok k ∧ k ≠ g) hcl hcc (show j + 1 ≤ 5 by omega) (x' := x') (by
    have e : ([.int .i64 (rd_T50 l i).f0, .int .i64 (rd_T50 l i).f1, .bool (rd_T50 l i).f2, .bool (rd_T50 l i).f3, .int .i64 (rd_T50 l i).f4] : List Value).take j ++ [u] ++ ([.int .i64 (rd_T50 l i).f0, .int .i64 (rd_T50 l i).f1, .bool (rd_T50 l i).f2, .bool (rd_T50 l i).f3, .int .i64 (rd_T50 l i).f4] : List Value).drop (j + 1) = _ := hx
    show k50.M w base _ x' (_ ++ [u] ++ List.drop (j + 1) _)
    rw [e]
    exact k50_mkM _ _ _ x') (fun _ hk => hk)
  exact HP
def SecSt (base : Nat) (ok : Nat → Prop) (g n c : Nat) (l : List S50) (i : Int) (w0 w : World) (y : S50) : Prop :=
  Kd.R k50 50 w base ok (.slice (some ⟨g, 0, none⟩) n c) (l.set i.toNat y) ∧ w0.grownBy w (some g)
variable {i : Int} {w0 : World} {a0 a1 a4 : Int} {a2 a3 : Bool}
theorem SecSt.start (h : Kd.R k50 50 w base ok (.slice (some ⟨g, 0, none⟩) n c) l) (h0 : 0 ≤ i) (h1 : i < n) : SecSt base ok g n c l i w w ⟨(rd_T50 l i).f0, (rd_T50 l i).f1, (rd_T50 l i).f2, (rd_T50 l i).f3, (rd_T50 l i).f4⟩ := by
  refine ⟨?_, World.grownBy.refl w _⟩
  have hl := (Kd.R_reads' h).1
  have e : l.set i.toNat ⟨(rd_T50 l i).f0, (rd_T50 l i).f1, (rd_T50 l i).f2, (rd_T50 l i).f3, (rd_T50 l i).f4⟩ = l := by
    have hlt : i.toNat < l.length := by omega
    show l.set i.toNat (rd_T50 l i) = l
    simp only [rd_T50, List.getD_eq_getElem?_getD, List.getElem?_eq_getElem hlt, Option.getD_some, List.set_getElem_self]
  rw [e]
  exact h
theorem SecSt.put (h : SecSt base ok g n c l i w0 w ⟨a0, a1, a2, a3, a4⟩) (h0 : 0 ≤ i) (h1 : i < n) (j : Nat) (hj : j < 5) (u : Value) (x' : S50)
    (hx : ([.int .i64 a0, .int .i64 a1, .bool a2, .bool a3, .int .i64 a4] : List Value).take j ++ [u] ++ ([.int .i64 a0, .int .i64 a1, .bool a2, .bool a3, .int .i64 a4] : List Value).drop (j + 1) = [.int .i64 x'.f0, .int .i64 x'.f1, .bool x'.f2, .bool x'.f3, .int .i64 x'.f4]) :
    SecSt base ok g n c l i w0 (w.setCell ⟨g, i.toNat * 5 + j, none⟩ u) x' := by
  have hl := (Kd.R_reads' h.1).1
  have hlt : i.toNat < l.length := by simp at hl; omega
  have e : rd_T50 (l.set i.toNat ⟨a0, a1, a2, a3, a4⟩) i = ⟨a0, a1, a2, a3, a4⟩ := by
    simp [rd_T50, List.getD_eq_getElem?_getD, List.getElem?_set_self hlt]
  obtain ⟨h2, h3⟩ := sec_put h.1 i h0 h1 j hj u x' (by rw [e]; exact hx)
  rw [List.set_set] at h2
  exact ⟨h2, h.2.trans h3⟩
theorem SecSt.put0 (h : SecSt base ok g n c l i w0 w ⟨a0, a1, a2, a3, a4⟩) (h0 : 0 ≤ i) (h1 : i < n) {u : Int} {off : Nat} (ho : off = i.toNat * 5 + 0) : SecSt base ok g n c l i w0 (w.setCell ⟨g, off, none⟩ (.int .i64 u)) ⟨u, a1, a2, a3, a4⟩ := ho ▸ h.put h0 h1 0 (by omega) _ _ rfl
theorem SecSt.put1 (h : SecSt base ok g n c l i w0 w ⟨a0, a1, a2, a3, a4⟩) (h0 : 0 ≤ i) (h1 : i < n) {u : Int} {off : Nat} (ho : off = i.toNat * 5 + 1) : SecSt base ok g n c l i w0 (w.setCell ⟨g, off, none⟩ (.int .i64 u)) ⟨a0, u, a2, a3, a4⟩ := ho ▸ h.put h0 h1 1 (by omega) _ _ rfl
theorem SecSt.put2 (h : SecSt base ok g n c l i w0 w ⟨a0, a1, a2, a3, a4⟩) (h0 : 0 ≤ i) (h1 : i < n) {u : Bool} {off : Nat} (ho : off = i.toNat * 5 + 2) : SecSt base ok g n c l i w0 (w.setCell ⟨g, off, none⟩ (.bool u)) ⟨a0, a1, u, a3, a4⟩ := ho ▸ h.put h0 h1 2 (by omega) _ _ rfl
theorem SecSt.put3 (h : SecSt base ok g n c l i w0 w ⟨a0, a1, a2, a3, a4⟩) (h0 : 0 ≤ i) (h1 : i < n) {u : Bool} {off : Nat} (ho : off = i.toNat * 5 + 3) : SecSt base ok g n c l i w0 (w.setCell ⟨g, off, none⟩ (.bool u)) ⟨a0, a1, a2, u, a4⟩ := ho ▸ h.put h0 h1 3 (by omega) _ _ rfl
theorem SecSt.put4 (h : SecSt base ok g n c l i w0 w ⟨a0, a1, a2, a3, a4⟩) (h0 : 0 ≤ i) (h1 : i < n) {u : Int} {off : Nat} (ho : off = i.toNat * 5 + 4) : SecSt base ok g n c l i w0 (w.setCell ⟨g, off, none⟩ (.int .i64 u)) ⟨a0, a1, a2, a3, u⟩ := ho ▸ h.put h0 h1 4 (by omega) _ _ rfl
theorem SecSt.eq {y z : S50} (h : SecSt base ok g n c l i w0 w y) (e : z = y) : SecSt base ok g n c l i w0 w z := e ▸ h
end
def cntN (x : S50) (b : Int) : Int := if -1000000 ≤ wrap64 (x.f1 + b) ∧ wrap64 (x.f1 + b) ≤ 1000000 then wrap64 (x.f1 + b) else x.f1
def countS (x : S50) (b : Int) : S50 := ⟨x.f0, cntN x b, x.f2 || decide (cntN x b < 0), x.f3 && !(decide (cntN x b = 0) && decide (b = -1)), b⟩
theorem cnt_in {x : S50} {b : Int} (h1 : -1000000 ≤ wrap64 (x.f1 + b)) (h2 : wrap64 (x.f1 + b) ≤ 1000000) : cntN x b = wrap64 (x.f1 + b) := by unfold cntN; rw [if_pos ⟨h1, h2⟩]
theorem cnt_lo {x : S50} {b : Int} (h1 : ¬ -1000000 ≤ wrap64 (x.f1 + b)) : cntN x b = x.f1 := by unfold cntN; rw [if_neg (fun h => h1 h.1)]
theorem cnt_hi {x : S50} {b : Int} (h1 : ¬ wrap64 (x.f1 + b) ≤ 1000000) : cntN x b = x.f1 := by unfold cntN; rw [if_neg (fun h => h1 h.2)]
theorem countS_eq {x : S50} {b C : Int} {lost sw : Bool} (hC : cntN x b = C) (hl : (x.f2 || decide (C < 0)) = lost) (hs : (x.f3 && !(decide (C = 0) && decide (b = -1))) = sw) : countS x b = ⟨x.f0, C, lost, sw, b⟩ := by
  unfold countS
  rw [hC, hl, hs]
theorem cnt_out (s b : Int) (v : Value) (w : World) (h : s < 0) : Calls Try.prog 130 #[.int .i64 s, .int .i64 b, v] w fun e w' => e = .returned (.tuple #[]) ∧ w = w' := by
  have h1 : decide (s < 0) = true := decide_eq_true h
  go_enter Try.func130, Try.ntmps130
  go_wp2
  refine bodyPost_ret (results_none rfl _ _ _) rfl ?_
  exact ⟨rfl, rfl⟩
set_option maxHeartbeats 4000000 in
set_option maxRecDepth 100000 in
theorem cnt_calls (s b : Int) (bo : Bool) (g gr n c : Nat) (v2 : Value) (l : List S50) (w : World) (base : Nat) (ok : Nat → Prop) (h0 : 0 ≤ s) (h1 : s < n)
    (hb : w.heap[g]? = some (.cells #[.bool bo, .slice (some ⟨gr, 0, none⟩) n c, v2] 46 (0, 0))) (HO : Kd.R k50 50 w base ok (.slice (some ⟨gr, 0, none⟩) n c) l) :
    Calls Try.prog 130 #[.int .i64 s, .int .i64 b, .pointer (some ⟨g, 0, none⟩)] w fun e w' => e = .returned (.tuple #[]) ∧ Kd.R k50 50 w' base ok (.slice (some ⟨gr, 0, none⟩) n c) (l.set s.toNat (countS (rd_T50 l s) b)) ∧ w.grownBy w' (some gr) := by
  obtain ⟨x0, x1, x2, x3, x4, f0, f1, f2, f3, f4⟩ := sec_at HO s h0 h1
  have hc1 : w.cell? ⟨g, 1, none⟩ = some (.slice (some ⟨gr, 0, none⟩) n c) := (blk_cell hb 1).trans rfl
  have hs : decide (s < 0) = false := decide_eq_false (by omega)
  have H0 := Aside0.mk h0
  have H1 := Aside0.mk h1
  have HO2 := Aside0.mk HO
  have hp0 := eq_true h0
  have hp1 := eq_true h1
  have ST := Aside0.mk (SecSt.start HO H0.out H1.out)
  generalize hx : rd_T50 l s = x at x0 x1 x2 x3 x4 ST ⊢
  have HX := hx
  clear hx hb h0 h1 HO HO2 HX
  by_cases q1 : -1000000 ≤ wrap64 (x.f1 + b)
  · skip
    have f1 : decide (wrap64 (x.f1 + b) ≥ -1000000) = true := decide_eq_true q1
    have Q1 := Aside0.mk q1
    clear q1
    by_cases q2 : wrap64 (x.f1 + b) ≤ 1000000
    · skip
      have f2 : decide (wrap64 (x.f1 + b) ≤ 1000000) = true := decide_eq_true q2
      have Q2 := Aside0.mk q2
      clear q2
      by_cases q3 : wrap64 (x.f1 + b) < 0
      · skip
        have f3 : decide (wrap64 (x.f1 + b) < 0) = true := decide_eq_true q3
        have Q3 := Aside0.mk q3
        clear q3
        rcases Bool.eq_false_or_eq_true x.f3 with q4 | q4
        · skip
          by_cases q5 : wrap64 (x.f1 + b) = 0
          · skip
            have f5 : (wrap64 (x.f1 + b) == 0) = true := beq_iff_eq.mpr q5
            have Q5 := Aside0.mk q5
            clear q5
            exact absurd Q5.out (by have := Q3.out; omega)
          · skip
            have f5 : (wrap64 (x.f1 + b) == 0) = false := beq_eq_false_iff_ne.mpr q5
            have Q5 := Aside0.mk q5
            clear q5
            go_enter Try.func130, Try.ntmps130
            go_wp2
            go_end0
            exact ⟨rfl, SecSt.eq (((ST.out.put1 H0.out H1.out rfl).put4 H0.out H1.out rfl).put2 H0.out H1.out rfl) (countS_eq (cnt_in (by have := Q1.out; omega) (by have := Q2.out; omega)) (by rw [decide_eq_true (by have := Q3.out; omega)]; simp) (by rw [decide_eq_false (by have := Q5.out; omega)]; simp))⟩
        · have Q4 := Aside0.mk q4
          go_enter Try.func130, Try.ntmps130
          go_wp2
          go_end0
          exact ⟨rfl, SecSt.eq (((ST.out.put1 H0.out H1.out rfl).put4 H0.out H1.out rfl).put2 H0.out H1.out rfl) (countS_eq (cnt_in (by have := Q1.out; omega) (by have := Q2.out; omega)) (by rw [decide_eq_true (by have := Q3.out; omega)]; simp) (by rw [Q4.out]; rfl))⟩
      · skip
        have f3 : decide (wrap64 (x.f1 + b) < 0) = false := decide_eq_false q3
        have Q3 := Aside0.mk q3
        clear q3
        rcases Bool.eq_false_or_eq_true x.f3 with q4 | q4
        · skip
          by_cases q5 : wrap64 (x.f1 + b) = 0
          · skip
            have f5 : (wrap64 (x.f1 + b) == 0) = true := beq_iff_eq.mpr q5
            have Q5 := Aside0.mk q5
            clear q5
            by_cases q6 : b = -1
            · skip
              have f6 : (b == -1) = true := beq_iff_eq.mpr q6
              have Q6 := Aside0.mk q6
              clear q6
              go_enter Try.func130, Try.ntmps130
              go_wp2
              go_end0
              exact ⟨rfl, SecSt.eq (((ST.out.put1 H0.out H1.out rfl).put4 H0.out H1.out rfl).put3 H0.out H1.out rfl) (countS_eq (cnt_in (by have := Q1.out; omega) (by have := Q2.out; omega)) (by rw [decide_eq_false (by have := Q3.out; omega)]; simp) (by rw [decide_eq_true (by have := Q5.out; omega), decide_eq_true (by have := Q6.out; omega)]; simp))⟩
            · skip
              have f6 : (b == -1) = false := beq_eq_false_iff_ne.mpr q6
              have Q6 := Aside0.mk q6
              clear q6
              go_enter Try.func130, Try.ntmps130
              go_wp2
              go_end0
              exact ⟨rfl, SecSt.eq ((ST.out.put1 H0.out H1.out rfl).put4 H0.out H1.out rfl) (countS_eq (cnt_in (by have := Q1.out; omega) (by have := Q2.out; omega)) (by rw [decide_eq_false (by have := Q3.out; omega)]; simp) (by rw [decide_eq_false (show ¬ b = -1 from Q6.out)]; simp))⟩
          · skip
            have f5 : (wrap64 (x.f1 + b) == 0) = false := beq_eq_false_iff_ne.mpr q5
            have Q5 := Aside0.mk q5
            clear q5
            go_enter Try.func130, Try.ntmps130
            go_wp2
            go_end0
            exact ⟨rfl, SecSt.eq ((ST.out.put1 H0.out H1.out rfl).put4 H0.out H1.out rfl) (countS_eq (cnt_in (by have := Q1.out; omega) (by have := Q2.out; omega)) (by rw [decide_eq_false (by have := Q3.out; omega)]; simp) (by rw [decide_eq_false (by have := Q5.out; omega)]; simp))⟩
        · have Q4 := Aside0.mk q4
          go_enter Try.func130, Try.ntmps130
          go_wp2
          go_end0
          exact ⟨rfl, SecSt.eq ((ST.out.put1 H0.out H1.out rfl).put4 H0.out H1.out rfl) (countS_eq (cnt_in (by have := Q1.out; omega) (by have := Q2.out; omega)) (by rw [decide_eq_false (by have := Q3.out; omega)]; simp) (by rw [Q4.out]; rfl))⟩
    · skip
      have f2 : decide (wrap64 (x.f1 + b) ≤ 1000000) = false := decide_eq_false q2
      have Q2 := Aside0.mk q2
      clear q2
      by_cases q3 : x.f1 < 0
      · skip
        have f3 : decide (x.f1 < 0) = true := decide_eq_true q3
        have Q3 := Aside0.mk q3
        clear q3
        rcases Bool.eq_false_or_eq_true x.f3 with q4 | q4
        · skip
          by_cases q5 : x.f1 = 0
          · skip
            have f5 : (x.f1 == 0) = true := beq_iff_eq.mpr q5
            have Q5 := Aside0.mk q5
            clear q5
            exact absurd Q5.out (by have := Q3.out; omega)
          · skip
            have f5 : (x.f1 == 0) = false := beq_eq_false_iff_ne.mpr q5
            have Q5 := Aside0.mk q5
            clear q5
            go_enter Try.func130, Try.ntmps130
            go_wp2
            go_end0
            exact ⟨rfl, SecSt.eq ((ST.out.put4 H0.out H1.out rfl).put2 H0.out H1.out rfl) (countS_eq (cnt_hi (by have := Q2.out; omega)) (by rw [decide_eq_true (by have := Q3.out; omega)]; simp) (by rw [decide_eq_false (by have := Q5.out; omega)]; simp))⟩
        · have Q4 := Aside0.mk q4
          go_enter Try.func130, Try.ntmps130
          go_wp2
          go_end0
          exact ⟨rfl, SecSt.eq ((ST.out.put4 H0.out H1.out rfl).put2 H0.out H1.out rfl) (countS_eq (cnt_hi (by have := Q2.out; omega)) (by rw [decide_eq_true (by have := Q3.out; omega)]; simp) (by rw [Q4.out]; rfl))⟩
      · skip
        have f3 : decide (x.f1 < 0) = false := decide_eq_false q3
        have Q3 := Aside0.mk q3
        clear q3
        rcases Bool.eq_false_or_eq_true x.f3 with q4 | q4
        · skip
          by_cases q5 : x.f1 = 0
          · skip
            have f5 : (x.f1 == 0) = true := beq_iff_eq.mpr q5
            have Q5 := Aside0.mk q5
            clear q5
            by_cases q6 : b = -1
            · skip
              have f6 : (b == -1) = true := beq_iff_eq.mpr q6
              have Q6 := Aside0.mk q6
              clear q6
              go_enter Try.func130, Try.ntmps130
              go_wp2
              go_end0
              exact ⟨rfl, SecSt.eq ((ST.out.put4 H0.out H1.out rfl).put3 H0.out H1.out rfl) (countS_eq (cnt_hi (by have := Q2.out; omega)) (by rw [decide_eq_false (by have := Q3.out; omega)]; simp) (by rw [decide_eq_true (by have := Q5.out; omega), decide_eq_true (by have := Q6.out; omega)]; simp))⟩
            · skip
              have f6 : (b == -1) = false := beq_eq_false_iff_ne.mpr q6
              have Q6 := Aside0.mk q6
              clear q6
              go_enter Try.func130, Try.ntmps130
              go_wp2
              go_end0
              exact ⟨rfl, SecSt.eq (ST.out.put4 H0.out H1.out rfl) (countS_eq (cnt_hi (by have := Q2.out; omega)) (by rw [decide_eq_false (by have := Q3.out; omega)]; simp) (by rw [decide_eq_false (show ¬ b = -1 from Q6.out)]; simp))⟩
          · skip
            have f5 : (x.f1 == 0) = false := beq_eq_false_iff_ne.mpr q5
            have Q5 := Aside0.mk q5
            clear q5
            go_enter Try.func130, Try.ntmps130
            go_wp2
            go_end0
            exact ⟨rfl, SecSt.eq (ST.out.put4 H0.out H1.out rfl) (countS_eq (cnt_hi (by have := Q2.out; omega)) (by rw [decide_eq_false (by have := Q3.out; omega)]; simp) (by rw [decide_eq_false (by have := Q5.out; omega)]; simp))⟩
        · have Q4 := Aside0.mk q4
          go_enter Try.func130, Try.ntmps130
          go_wp2
          go_end0
          exact ⟨rfl, SecSt.eq (ST.out.put4 H0.out H1.out rfl) (countS_eq (cnt_hi (by have := Q2.out; omega)) (by rw [decide_eq_false (by have := Q3.out; omega)]; simp) (by rw [Q4.out]; rfl))⟩
  · skip
    have f1 : decide (wrap64 (x.f1 + b) ≥ -1000000) = false := decide_eq_false q1
    have Q1 := Aside0.mk q1
    clear q1
    by_cases q3 : x.f1 < 0
    · skip
      have f3 : decide (x.f1 < 0) = true := decide_eq_true q3
      have Q3 := Aside0.mk q3
      clear q3
      rcases Bool.eq_false_or_eq_true x.f3 with q4 | q4
      · skip
        by_cases q5 : x.f1 = 0
        · skip
          have f5 : (x.f1 == 0) = true := beq_iff_eq.mpr q5
          have Q5 := Aside0.mk q5
          clear q5
          exact absurd Q5.out (by have := Q3.out; omega)
        · skip
          have f5 : (x.f1 == 0) = false := beq_eq_false_iff_ne.mpr q5
          have Q5 := Aside0.mk q5
          clear q5
          go_enter Try.func130, Try.ntmps130
          go_wp2
          go_end0
          exact ⟨rfl, SecSt.eq ((ST.out.put4 H0.out H1.out rfl).put2 H0.out H1.out rfl) (countS_eq (cnt_lo (by have := Q1.out; omega)) (by rw [decide_eq_true (by have := Q3.out; omega)]; simp) (by rw [decide_eq_false (by have := Q5.out; omega)]; simp))⟩
      · have Q4 := Aside0.mk q4
        go_enter Try.func130, Try.ntmps130
        go_wp2
        go_end0
        exact ⟨rfl, SecSt.eq ((ST.out.put4 H0.out H1.out rfl).put2 H0.out H1.out rfl) (countS_eq (cnt_lo (by have := Q1.out; omega)) (by rw [decide_eq_true (by have := Q3.out; omega)]; simp) (by rw [Q4.out]; rfl))⟩
    · skip
      have f3 : decide (x.f1 < 0) = false := decide_eq_false q3
      have Q3 := Aside0.mk q3
      clear q3
      rcases Bool.eq_false_or_eq_true x.f3 with q4 | q4
      · skip
        by_cases q5 : x.f1 = 0
        · skip
          have f5 : (x.f1 == 0) = true := beq_iff_eq.mpr q5
          have Q5 := Aside0.mk q5
          clear q5
          by_cases q6 : b = -1
          · skip
            have f6 : (b == -1) = true := beq_iff_eq.mpr q6
            have Q6 := Aside0.mk q6
            clear q6
            go_enter Try.func130, Try.ntmps130
            go_wp2
            go_end0
            exact ⟨rfl, SecSt.eq ((ST.out.put4 H0.out H1.out rfl).put3 H0.out H1.out rfl) (countS_eq (cnt_lo (by have := Q1.out; omega)) (by rw [decide_eq_false (by have := Q3.out; omega)]; simp) (by rw [decide_eq_true (by have := Q5.out; omega), decide_eq_true (by have := Q6.out; omega)]; simp))⟩
          · skip
            have f6 : (b == -1) = false := beq_eq_false_iff_ne.mpr q6
            have Q6 := Aside0.mk q6
            clear q6
            go_enter Try.func130, Try.ntmps130
            go_wp2
            go_end0
            exact ⟨rfl, SecSt.eq (ST.out.put4 H0.out H1.out rfl) (countS_eq (cnt_lo (by have := Q1.out; omega)) (by rw [decide_eq_false (by have := Q3.out; omega)]; simp) (by rw [decide_eq_false (show ¬ b = -1 from Q6.out)]; simp))⟩
        · skip
          have f5 : (x.f1 == 0) = false := beq_eq_false_iff_ne.mpr q5
          have Q5 := Aside0.mk q5
          clear q5
          go_enter Try.func130, Try.ntmps130
          go_wp2
          go_end0
          exact ⟨rfl, SecSt.eq (ST.out.put4 H0.out H1.out rfl) (countS_eq (cnt_lo (by have := Q1.out; omega)) (by rw [decide_eq_false (by have := Q3.out; omega)]; simp) (by rw [decide_eq_false (by have := Q5.out; omega)]; simp))⟩
      · have Q4 := Aside0.mk q4
        go_enter Try.func130, Try.ntmps130
        go_wp2
        go_end0
        exact ⟨rfl, SecSt.eq (ST.out.put4 H0.out H1.out rfl) (countS_eq (cnt_lo (by have := Q1.out; omega)) (by rw [decide_eq_false (by have := Q3.out; omega)]; simp) (by rw [Q4.out]; rfl))⟩
end Go.Proofs.Ytpdnabhpkdchjaa.P
namespace Go.Proofs.Ytpdnabhpkdchjaa.P
open Go.RowKit Go.Proofs.YtpdnabhpkdchjaaW.PrintWords Go.Proofs.YtpdnabhpkdchjaaW.PrintLast Go.Proofs.YtpdnabhpkdchjaaW.PrintMore
set_option linter.unusedVariables false
set_option linter.unusedSimpArgs false
def loseS (x : S50) : S50 := ⟨x.f0, x.f1, true, x.f3, x.f4⟩
theorem lose_none (s : Int) (v : Value) (w : World) (h : s < 0) : Calls Try.prog 131 #[.int .i64 s, v] w fun e w' => e = .returned (.tuple #[]) ∧ w = w' := by
  have h1 : decide (s ≥ 0) = false := decide_eq_false (by omega)
  go_enter Try.func131, Try.ntmps131
  go_wp2
  go_end0
  exact ⟨rfl, rfl⟩
set_option maxHeartbeats 4000000 in
set_option maxRecDepth 100000 in
theorem lose_calls (s : Int) (bo : Bool) (g gr n c : Nat) (v2 : Value) (l : List S50) (w : World) (base : Nat) (ok : Nat → Prop) (h0 : 0 ≤ s) (h1 : s < n)
    (hb : w.heap[g]? = some (.cells #[.bool bo, .slice (some ⟨gr, 0, none⟩) n c, v2] 46 (0, 0))) (HO : Kd.R k50 50 w base ok (.slice (some ⟨gr, 0, none⟩) n c) l) :
    Calls Try.prog 131 #[.int .i64 s, .pointer (some ⟨g, 0, none⟩)] w fun e w' => e = .returned (.tuple #[]) ∧ Kd.R k50 50 w' base ok (.slice (some ⟨gr, 0, none⟩) n c) (l.set s.toNat (loseS (rd_T50 l s))) ∧ w.grownBy w' (some gr) := by
  obtain ⟨x0, x1, x2, x3, x4, f0, f1, f2, f3, f4⟩ := sec_at HO s h0 h1
  have hc1 : w.cell? ⟨g, 1, none⟩ = some (.slice (some ⟨gr, 0, none⟩) n c) := (blk_cell hb 1).trans rfl
  have hs : decide (s ≥ 0) = true := decide_eq_true (by omega)
  have H0 := Aside0.mk h0
  have H1 := Aside0.mk h1
  have hp0 := eq_true h0
  have hp1 := eq_true h1
  have ST := Aside0.mk (SecSt.start HO H0.out H1.out)
  generalize hx : rd_T50 l s = x at x0 x1 x2 x3 x4 ST ⊢
  clear hx hb h0 h1 HO
  go_enter Try.func131, Try.ntmps131
  go_wp2
  go_end0
  exact ⟨rfl, SecSt.eq (ST.out.put2 H0.out H1.out rfl) rfl⟩
end Go.Proofs.Ytpdnabhpkdchjaa.P
namespace Go.Proofs.Ytpdnabhpkdchjaa.P
open Go.RowKit Go.Proofs.YtpdnabhpkdchjaaW.PrintWords Go.Proofs.YtpdnabhpkdchjaaW.PrintLast Go.Proofs.YtpdnabhpkdchjaaW.PrintMore
attribute [local go_sem] max2_int min2_int max_two min_two max_three min_three max_four min_four
set_option linter.unusedVariables false
set_option linter.unusedSimpArgs false
def laws_szCounterS.f (l0:List (S160)) (a1:Int):Option (Int):=if (wrap64 (a1 - (l0.length:Int)))<0 then (some (-1)) else (some (wrap64 (a1 - (l0.length:Int))))
set_option maxHeartbeats 8000000 in
set_option maxRecDepth 100000 in
theorem laws_szCounterS.calls (A0:Option Addr) (c0:Nat) (l0:List (S160)) (a1:Int) (r:Int) (w:World) (hr0:Kd.C k160 w A0 l0.length l0) (hc0:l0.length≤c0) (h:laws_szCounterS.f l0 a1=some r) :
  Calls Try.prog 86 #[.slice A0 l0.length c0,.int .i64 a1] w fun e w'=>e=.returned (.int .i64 r)∧Drawn0 w w':=by
 have HR0:=Aside0.mk hr0
 have HC0:=Aside0.mk hc0
 clear hr0 hc0
 have H:(if (wrap64 (a1 - (l0.length:Int)))<0 then (some (-1)) else (some (wrap64 (a1 - (l0.length:Int)))))=some r:=h
 clear h
 by_cases c3:(wrap64 (a1 - (l0.length:Int)))<0
 ·rw [if_pos c3] at H
  have c3b0:decide ((wrap64 (a1 - (l0.length:Int)))<0)=true:=decide_eq_true c3
  clear c3
  obtain rfl:=Option.some.inj H
  go_enter Try.func86,Try.ntmps86
  go_wp2
  go_ret
  exact ⟨by first|rfl|(simp;done)|(simp [*];done),by repeat (first|exact Drawn0.refl _|apply Drawn0.step)⟩
 rw [if_neg c3] at H
 have c3b0:decide ((wrap64 (a1 - (l0.length:Int)))<0)=false:=decide_eq_false c3
 clear c3
 obtain rfl:=Option.some.inj H
 go_enter Try.func86,Try.ntmps86
 go_wp2
 go_ret
 exact ⟨by first|rfl|(simp;done)|(simp [*];done),by repeat (first|exact Drawn0.refl _|apply Drawn0.step)⟩
end Go.Proofs.Ytpdnabhpkdchjaa.P
namespace Go.Proofs.Ytpdnabhpkdchjaa.P
open Go.RowKit Go.Proofs.YtpdnabhpkdchjaaW.PrintWords Go.Proofs.YtpdnabhpkdchjaaW.PrintLast Go.Proofs.YtpdnabhpkdchjaaW.PrintMore
attribute [local go_sem] max2_int min2_int max_two min_two max_three min_three max_four min_four
set_option linter.unusedVariables false
set_option linter.unusedSimpArgs false
def laws_szLayout.f (a0_0:Int) (l0_1:List (S160)) (a1:Int):Option (Int):=(laws_szCounterS.f l0_1 a1).bind fun t102=>(if t102<0 then (some (-1)) else (some t102))
set_option maxHeartbeats 8000000 in
set_option maxRecDepth 100000 in
theorem laws_szLayout.calls (a0_0:Int) (A0_1:Option Addr) (c0_1:Nat) (l0_1:List (S160)) (a1:Int) (r:Int) (w:World) (hr0_1:Kd.C k160 w A0_1 l0_1.length l0_1) (hc0_1:l0_1.length≤c0_1) (h:laws_szLayout.f a0_0 l0_1 a1=some r) :
  Calls Try.prog 22 #[.agg #[.int .i64 a0_0,.slice A0_1 l0_1.length c0_1],.int .i64 a1] w fun e w'=>e=.returned (.int .i64 r)∧Below w.heap.size w w':=by
 have hu25:=Try.underlying25
 have HR0_1:=Aside0.mk hr0_1
 have HC0_1:=Aside0.mk hc0_1
 clear hr0_1 hc0_1
 have HB:=Aside0.mk (Below.refl w.heap.size w)
 have H:((laws_szCounterS.f l0_1 a1).bind fun t102=>(if t102<0 then (some (-1)) else (some t102)))=some r:=h
 clear h
 replace H:=Option.bind_eq_some_iff.mp H
 obtain ⟨t102,A30,H⟩:=H
 replace H:(if t102<0 then (some (-1)) else (some t102))=some r:=H
 have A3:=Aside0.mk A30
 clear A30
 by_cases c4:t102<0
 ·rw [if_pos c4] at H
  have c4b0:decide (t102<0)=true:=decide_eq_true c4
  clear c4
  obtain rfl:=Option.some.inj H
  go_enter Try.func22,Try.ntmps22
  go_wp2_with (first|((with_reducible refine gate_dst (N:=2) rfl ?_);refine box_event ?hg (N:=2) ?hd (cs:=#[.int .i64 a0_0,.slice A0_1 l0_1.length c0_1]) (t:=25) ?hr ?_;(case hd=>rfl);(case hg=>rfl);(case hr=>first|(go_simp;done)|(go_simp;rfl));intro gb101 hg w5 hbox hb;have n0_:=Aside0.mk (below_step (by repeat (first|(with_reducible first|exact HB.out|apply below_alloc|apply pw_below_drewN|apply below_drew1)|exact HB.out)) hb);have n1_:=Aside0.mk (hbox);have n2_:=Aside0.mk ((by rw [hg];exact (below_size (by repeat (first|(with_reducible first|exact HB.out|apply below_alloc|apply pw_below_drewN|apply below_drew1)|exact HB.out))):w.heap.size≤gb101));have n3_:=Aside0.mk ((by rw [hg];exact (below_size (by repeat (first|(with_reducible first|exact HB.out|apply below_alloc|apply pw_below_drewN|apply below_drew1)|exact HB.out))):w.heap.size≤gb101));clear HB;have HB:=n0_;have BK101:=n1_;have GW101:=n2_;have GE101:=n3_;clear n0_ n1_ n2_ n3_;clear hb hbox hg;have hcz6_0:w5.cell? ⟨gb101,0,none⟩=some (.int .i64 a0_0):=(blk_cell BK101.out 0).trans rfl;have hcz6_1:w5.cell? ⟨gb101,1,none⟩=some (.slice A0_1 l0_1.length c0_1):=(blk_cell BK101.out 1).trans rfl;have hfz6_0:=blk_frozen BK101.out 0;have hfz6_1:=blk_frozen BK101.out 1)|((with_reducible refine gate_callee (f:=86) rfl ?_);refine goesL_ (some 8) rfl rfl Try.func86 (by kernel_rfl) rfl #[.slice A0_1 l0_1.length c0_1,.int .i64 a1] rfl (by (try simp only [List.map_toArray,List.map_cons,List.map_nil]);first|done|rfl|(simp only [List.length_drop,List.length_take];rfl)) ?_;(with_reducible refine (laws_szCounterS.calls _ _ l0_1 a1 t102 _ ?side1 ?side2 A3.out).mono ?_);(case side1=>repeat (first|exact (Kd.C_below HR0_1.out HB.out)|(with_reducible refine Kd.C_alloc ?_ _)|(with_reducible refine Kd.C_drewN ?_ _)|(with_reducible refine Kd.C_drew ?_)));(case side2=>exact HC0_1.out);rintro e w' ⟨rfl,⟨nd,rfl⟩⟩;refine ⟨_,rfl,?_⟩))
  go_ret
  exact ⟨by first|rfl|(simp [errW_none,errW_some] <;> rfl)|(simp [*,errW_none,errW_some] <;> rfl),by repeat (first|(with_reducible first|exact HB.out|apply below_alloc|apply pw_below_drewN|apply below_drew1|refine below_set ?_ GE101.out)|exact HB.out)⟩
 rw [if_neg c4] at H
 have c4b0:decide (t102<0)=false:=decide_eq_false c4
 clear c4
 obtain rfl:=Option.some.inj H
 go_enter Try.func22,Try.ntmps22
 go_wp2_with (first|((with_reducible refine gate_dst (N:=2) rfl ?_);refine box_event ?hg (N:=2) ?hd (cs:=#[.int .i64 a0_0,.slice A0_1 l0_1.length c0_1]) (t:=25) ?hr ?_;(case hd=>rfl);(case hg=>rfl);(case hr=>first|(go_simp;done)|(go_simp;rfl));intro gb101 hg w7 hbox hb;have n0_:=Aside0.mk (below_step (by repeat (first|(with_reducible first|exact HB.out|apply below_alloc|apply pw_below_drewN|apply below_drew1)|exact HB.out)) hb);have n1_:=Aside0.mk (hbox);have n2_:=Aside0.mk ((by rw [hg];exact (below_size (by repeat (first|(with_reducible first|exact HB.out|apply below_alloc|apply pw_below_drewN|apply below_drew1)|exact HB.out))):w.heap.size≤gb101));have n3_:=Aside0.mk ((by rw [hg];exact (below_size (by repeat (first|(with_reducible first|exact HB.out|apply below_alloc|apply pw_below_drewN|apply below_drew1)|exact HB.out))):w.heap.size≤gb101));clear HB;have HB:=n0_;have BK101:=n1_;have GW101:=n2_;have GE101:=n3_;clear n0_ n1_ n2_ n3_;clear hb hbox hg;have hcz8_0:w7.cell? ⟨gb101,0,none⟩=some (.int .i64 a0_0):=(blk_cell BK101.out 0).trans rfl;have hcz8_1:w7.cell? ⟨gb101,1,none⟩=some (.slice A0_1 l0_1.length c0_1):=(blk_cell BK101.out 1).trans rfl;have hfz8_0:=blk_frozen BK101.out 0;have hfz8_1:=blk_frozen BK101.out 1)|((with_reducible refine gate_callee (f:=86) rfl ?_);refine goesL_ (some 8) rfl rfl Try.func86 (by kernel_rfl) rfl #[.slice A0_1 l0_1.length c0_1,.int .i64 a1] rfl (by (try simp only [List.map_toArray,List.map_cons,List.map_nil]);first|done|rfl|(simp only [List.length_drop,List.length_take];rfl)) ?_;(with_reducible refine (laws_szCounterS.calls _ _ l0_1 a1 t102 _ ?side1 ?side2 A3.out).mono ?_);(case side1=>repeat (first|exact (Kd.C_below HR0_1.out HB.out)|(with_reducible refine Kd.C_alloc ?_ _)|(with_reducible refine Kd.C_drewN ?_ _)|(with_reducible refine Kd.C_drew ?_)));(case side2=>exact HC0_1.out);rintro e w' ⟨rfl,⟨nd,rfl⟩⟩;refine ⟨_,rfl,?_⟩))
 go_ret
 exact ⟨by first|rfl|(simp [errW_none,errW_some] <;> rfl)|(simp [*,errW_none,errW_some] <;> rfl),by repeat (first|(with_reducible first|exact HB.out|apply below_alloc|apply pw_below_drewN|apply below_drew1|refine below_set ?_ GE101.out)|exact HB.out)⟩
end Go.Proofs.Ytpdnabhpkdchjaa.P
namespace Go.Proofs.Ytpdnabhpkdchjaa.P
open Go.RowKit Go.Proofs.YtpdnabhpkdchjaaW.PrintWords Go.Proofs.YtpdnabhpkdchjaaW.PrintLast Go.Proofs.YtpdnabhpkdchjaaW.PrintMore
attribute [local go_sem] max2_int min2_int max_two min_two max_three min_three max_four min_four
set_option linter.unusedVariables false
set_option linter.unusedSimpArgs false
def spec_l1in.f (a0:Int) (a1:Int) (a2:Int):Option (Bool):=if a0 ≥ a1 then (some (decide (a0≤a2))) else (some false)
set_option maxHeartbeats 8000000 in
set_option maxRecDepth 100000 in
theorem spec_l1in.calls (a0:Int) (a1:Int) (a2:Int) (r:Bool) (w:World) (h:spec_l1in.f a0 a1 a2=some r) :
  Calls Try.prog 87 #[.int .i64 a0,.int .i64 a1,.int .i64 a2] w fun e w'=>e=.returned (.bool r)∧Drawn0 w w':=by
 have H:(if a0 ≥ a1 then (some (decide (a0≤a2))) else (some false))=some r:=h
 clear h
 by_cases c4:a0 ≥ a1
 ·rw [if_pos c4] at H
  have c4b0:decide (a1≤a0)=true:=decide_eq_true c4
  clear c4
  obtain rfl:=Option.some.inj H
  go_enter Try.func87,Try.ntmps87
  go_wp2
  go_ret
  exact ⟨by first|rfl|(simp;done)|(simp [*];done),by repeat (first|exact Drawn0.refl _|apply Drawn0.step)⟩
 rw [if_neg c4] at H
 have c4b0:decide (a1≤a0)=false:=decide_eq_false c4
 clear c4
 obtain rfl:=Option.some.inj H
 go_enter Try.func87,Try.ntmps87
 go_wp2
 go_ret
 exact ⟨by first|rfl|(simp;done)|(simp [*];done),by repeat (first|exact Drawn0.refl _|apply Drawn0.step)⟩
end Go.Proofs.Ytpdnabhpkdchjaa.P
namespace Go.Proofs.Ytpdnabhpkdchjaa.P
open Go.RowKit Go.Proofs.YtpdnabhpkdchjaaW.PrintWords Go.Proofs.YtpdnabhpkdchjaaW.PrintLast Go.Proofs.YtpdnabhpkdchjaaW.PrintMore
attribute [local go_sem] max2_int min2_int max_two min_two max_three min_three max_four min_four
set_option linter.unusedVariables false
set_option linter.unusedSimpArgs false
mutual
def spec_LayoutOk.j0:Nat→Bool→Int→List (S88)→Option (Int)
 | 0,_,_,_=>none
 | k+1,x14,x104000,x104001=>if x14=true then (some 1) else (spec_LayoutOk.l0 k x104001 (x104001.length:Int) 0 x104000 x104001)
def spec_LayoutOk.l0:Nat→List (S88)→Int→Int→Int→List (S88)→Option (Int)
 | 0,_,_,_,_,_=>none
 | k+1,x16,x17,x18,x104000,x104001=>if x18<x17 then (if 0≤x18 then (if x18<(x16.length:Int) then ((spec_l1in.f ((rd_T88 x16 x18).f0) (-1) (wrap64 (x104000 - 1))).bind fun t107=>(if t107=true then ((spec_l1in.f ((rd_T88 x16 x18).f1) (-1) (wrap64 (x104000 - 1))).bind fun t108=>(if t108=true then (if ((rd_T88 x16 x18).f0)=((rd_T88 x16 x18).f1) then (some 2) else (spec_LayoutOk.l0 k x16 x17 (wrap64 (x18+1)) x104000 x104001)) else (some 2))) else (some 2))) else (none)) else (none)) else (some 0)
end
def spec_LayoutOk.f (k:Nat) (a0_0:Int) (l0_1:List (S88)):Option (Int):=(spec_l1in.f a0_0 1 60).bind fun t104=>(if t104=true then (spec_LayoutOk.j0 k (decide ((l0_1.length:Int) > 120)) a0_0 l0_1) else (spec_LayoutOk.j0 k true a0_0 l0_1))
set_option maxHeartbeats 8000000 in
set_option maxRecDepth 100000 in
theorem spec_LayoutOk.calls (k:Nat) (a0_0:Int) (A0_1:Option Addr) (c0_1:Nat) (l0_1:List (S88)) (r:Int) (w:World) (hr0_1:Kd.C k88 w A0_1 l0_1.length l0_1) (hc0_1:l0_1.length≤c0_1) (h:spec_LayoutOk.f k a0_0 l0_1=some r) :
  Calls Try.prog 23 #[.agg #[.int .i64 a0_0,.slice A0_1 l0_1.length c0_1]] w fun e w'=>e=.returned (.int .i64 r)∧Below w.heap.size w w':=by
 have hu30:=Try.underlying30
 have hu88:=Try.underlying88
 have HR0_1:=Aside0.mk hr0_1
 have HC0_1:=Aside0.mk hc0_1
 clear hr0_1 hc0_1
 have HB:=Aside0.mk (Below.refl w.heap.size w)
 have H:((spec_l1in.f a0_0 1 60).bind fun t104=>(if t104=true then (spec_LayoutOk.j0 k (decide ((l0_1.length:Int) > 120)) a0_0 l0_1) else (spec_LayoutOk.j0 k true a0_0 l0_1)))=some r:=h
 clear h
 have HC2:=Aside0.mk H
 clear H
 go_enter Try.func23,Try.ntmps23
 go_upto_region 1 with (first|((with_reducible refine gate_dst (N:=1) rfl ?_);refine box_event ?hg (N:=1) ?hd (cs:=#[.int .i64 a0_0,.slice A0_1 l0_1.length c0_1]) (t:=30) ?hr ?_;(case hd=>rfl);(case hg=>rfl);(case hr=>first|(go_simp;done)|(go_simp;rfl));intro gb103 hg w3 hbox hb;have n0_:=Aside0.mk (below_step (by exact HB.out) hb);have n1_:=Aside0.mk (hbox);have n2_:=Aside0.mk ((by rw [hg];exact (below_size (by exact HB.out)):w.heap.size≤gb103));have n3_:=Aside0.mk ((by rw [hg];exact (below_size (by exact HB.out)):w.heap.size≤gb103));clear HB;have HB:=n0_;have BK103:=n1_;have GW103:=n2_;have GE103:=n3_;clear n0_ n1_ n2_ n3_;clear hb hbox hg))
 (try simp only [Act.put,List.setIfInBounds_toArray,List.set_cons_zero,List.set_cons_succ])
 go_cut [14] (fun v14 wc=>∃ (kq:Nat) (x14_1:Bool),v14=.bool x14_1∧Aside0 (spec_LayoutOk.j0 kq x14_1 a0_0 l0_1=some r)∧Aside0 (kq≤k)∧Aside0 (wc.heap[gb103]?=some (.cells #[.int .i64 a0_0,(.slice A0_1 l0_1.length c0_1)] 30 (0,0)))∧Aside0 (Below w.heap.size w wc))
 case first =>
  have H:=HC2.out
  clear HC2
  replace H:=Option.bind_eq_some_iff.mp H
  obtain ⟨t104,A40,H⟩:=H
  replace H:(if t104=true then (spec_LayoutOk.j0 k (decide ((l0_1.length:Int) > 120)) a0_0 l0_1) else (spec_LayoutOk.j0 k true a0_0 l0_1))=some r:=H
  have A4:=Aside0.mk A40
  clear A40
  by_cases c5:t104=true
  ·subst c5
   have H1:(spec_LayoutOk.j0 k (decide ((l0_1.length:Int) > 120)) a0_0 l0_1)=some r:=by rw [if_pos rfl] at H;exact H
   clear H
   have H:=H1
   clear H1
   have H':=Aside0.mk H
   clear H
   have hcz6_0:w3.cell? ⟨gb103,0,none⟩=some (.int .i64 a0_0):=(blk_cell BK103.out 0).trans rfl
   have hcz6_1:w3.cell? ⟨gb103,1,none⟩=some (.slice A0_1 l0_1.length c0_1):=(blk_cell BK103.out 1).trans rfl
   have hfz6_0:=blk_frozen BK103.out 0
   have hfz6_1:=blk_frozen BK103.out 1
   go_wp2_with (first|((with_reducible refine gate_callee (f:=87) rfl ?_);refine goesL_ (some 7) rfl rfl Try.func87 (by kernel_rfl) rfl #[.int .i64 a0_0,.int .i64 1,.int .i64 60] rfl (by (try simp only [List.map_toArray,List.map_cons,List.map_nil]);first|done|rfl|(simp only [List.length_drop,List.length_take];rfl)) ?_;(with_reducible refine (spec_l1in.calls a0_0 1 60 true _ A4.out).mono ?_);rintro e w' ⟨rfl,⟨nd,rfl⟩⟩;refine ⟨_,rfl,?_⟩))
   go_meet
   case rel=>exact ⟨_,(decide ((l0_1.length:Int) > 120)),(by first|rfl|(simp;done)|(simp [*];done)),H',⟨by first|omega|exact Nat.le_refl _⟩,⟨by exact BK103.out⟩,⟨by repeat (first|(with_reducible first|exact HB.out|apply below_alloc|apply pw_below_drewN|apply below_drew1|refine below_set ?_ GE103.out)|exact HB.out)⟩⟩
  replace c5:=Bool.eq_false_iff.mpr c5
  subst c5
  have H1:(spec_LayoutOk.j0 k true a0_0 l0_1)=some r:=by rw [if_neg (show ¬ (false=true) by decide)] at H;exact H
  clear H
  have H:=H1
  clear H1
  have H':=Aside0.mk H
  clear H
  have hcz7_0:w3.cell? ⟨gb103,0,none⟩=some (.int .i64 a0_0):=(blk_cell BK103.out 0).trans rfl
  have hcz7_1:w3.cell? ⟨gb103,1,none⟩=some (.slice A0_1 l0_1.length c0_1):=(blk_cell BK103.out 1).trans rfl
  have hfz7_0:=blk_frozen BK103.out 0
  have hfz7_1:=blk_frozen BK103.out 1
  go_wp2_with (first|((with_reducible refine gate_callee (f:=87) rfl ?_);refine goesL_ (some 7) rfl rfl Try.func87 (by kernel_rfl) rfl #[.int .i64 a0_0,.int .i64 1,.int .i64 60] rfl (by (try simp only [List.map_toArray,List.map_cons,List.map_nil]);first|done|rfl|(simp only [List.length_drop,List.length_take];rfl)) ?_;(with_reducible refine (spec_l1in.calls a0_0 1 60 false _ A4.out).mono ?_);rintro e w' ⟨rfl,⟨nd,rfl⟩⟩;refine ⟨_,rfl,?_⟩))
  go_meet
  case rel=>exact ⟨_,(true),(by first|rfl|(simp;done)|(simp [*];done)),H',⟨by first|omega|exact Nat.le_refl _⟩,⟨by exact BK103.out⟩,⟨by repeat (first|(with_reducible first|exact HB.out|apply below_alloc|apply pw_below_drewN|apply below_drew1|refine below_set ?_ GE103.out)|exact HB.out)⟩⟩
 case rest =>
  clear HC2
  try clear c2
  try clear p2
  try clear c5
  try clear hcz6_0
  try clear hcz6_1
  try clear hcz7_0
  try clear hcz7_1
  try clear hfz6_0
  try clear hfz6_1
  try clear hfz7_0
  try clear hfz7_1
  obtain ⟨kq,x14_1,rfl,HA,HJ1,BK103,HB⟩:=hcut
  cases kq with
  | zero=>exact absurd HA.out (by simp [spec_LayoutOk.j0])
  | succ kj1 =>
   have H:=HA.out
   clear HA
   simp only [spec_LayoutOk.j0] at H
   by_cases c8:x14_1=true
   ·subst c8
    have H1:(some 1)=some r:=by rw [if_pos rfl] at H;exact H
    clear H
    have H:=H1
    clear H1
    obtain rfl:=Option.some.inj H
    go_wp2
    go_ret
    exact ⟨by first|rfl|(simp [errW_none,errW_some] <;> rfl)|(simp [*,errW_none,errW_some] <;> rfl),by exact HB.out⟩
   replace c8:=Bool.eq_false_iff.mpr c8
   subst c8
   have H1:(spec_LayoutOk.l0 kj1 l0_1 (l0_1.length:Int) 0 a0_0 l0_1)=some r:=by rw [if_neg (show ¬ (false=true) by decide)] at H;exact H
   clear H
   have H:=H1
   clear H1
   have H':=Aside0.mk H
   clear H
   have hcz9_0:wc.cell? ⟨gb103,0,none⟩=some (.int .i64 a0_0):=(blk_cell BK103.out 0).trans rfl
   have hcz9_1:wc.cell? ⟨gb103,1,none⟩=some (.slice A0_1 l0_1.length c0_1):=(blk_cell BK103.out 1).trans rfl
   have hfz9_0:=blk_frozen BK103.out 0
   have hfz9_1:=blk_frozen BK103.out 1
   go_wp2
   go_loopg [18] kj1 (fun kq v18 w'=>∃ (x18_2:Int),v18=.int .i64 x18_2∧Aside0 (spec_LayoutOk.l0 kq l0_1 (l0_1.length:Int) x18_2 a0_0 l0_1=some r)∧Aside0 (kq≤kj1)∧Aside0 (w'.heap[gb103]?=some (.cells #[.int .i64 a0_0,(.slice A0_1 l0_1.length c0_1)] 30 (0,0)))∧Aside0 (Below w.heap.size w w'))
   case atStart=>exact ⟨(0),(by first|rfl|(simp;done)|(simp [*];done)),H',⟨Nat.le_refl _⟩,⟨by exact BK103.out⟩,⟨by exact HB.out⟩⟩
   case round =>
    clear H'
    try clear c2
    try clear p2
    try clear c5
    try clear c8
    try clear hcz6_0
    try clear hcz6_1
    try clear hcz7_0
    try clear hcz7_1
    try clear hcz9_0
    try clear hcz9_1
    try clear hfz6_0
    try clear hfz6_1
    try clear hfz7_0
    try clear hfz7_1
    try clear hfz9_0
    try clear hfz9_1
    try clear p2
    obtain ⟨x18_2,rfl,HA,HK2,BK103,HB⟩:=hrel
    cases gk with
    | zero=>exact absurd HA.out (by simp [spec_LayoutOk.l0])
    | succ k2 =>
     have H:=HA.out
     clear HA
     simp only [spec_LayoutOk.l0] at H
     by_cases c10:x18_2<(l0_1.length:Int)
     ·rw [if_pos c10] at H
      have c10b0:decide (x18_2<(l0_1.length:Int))=true:=decide_eq_true c10
      clear c10
      by_cases c11:0≤x18_2
      ·rw [if_pos c11] at H
       have c11b0:decide (0≤x18_2)=true:=decide_eq_true c11
       clear c11
       by_cases c12:x18_2<(l0_1.length:Int)
       ·rw [if_pos c12] at H
        have c12b0:decide (x18_2<(l0_1.length:Int))=true:=decide_eq_true c12
        clear c12
        replace H:=Option.bind_eq_some_iff.mp H
        obtain ⟨t107,A130,H⟩:=H
        replace H:(if t107=true then ((spec_l1in.f ((rd_T88 l0_1 x18_2).f1) (-1) (wrap64 (a0_0 - 1))).bind fun t108=>(if t108=true then (if ((rd_T88 l0_1 x18_2).f0)=((rd_T88 l0_1 x18_2).f1) then (some 2) else (spec_LayoutOk.l0 k2 l0_1 (l0_1.length:Int) (wrap64 (x18_2+1)) a0_0 l0_1)) else (some 2))) else (some 2))=some r:=H
        have A13:=Aside0.mk A130
        clear A130
        by_cases c14:t107=true
        ·subst c14
         have H1:((spec_l1in.f ((rd_T88 l0_1 x18_2).f1) (-1) (wrap64 (a0_0 - 1))).bind fun t108=>(if t108=true then (if ((rd_T88 l0_1 x18_2).f0)=((rd_T88 l0_1 x18_2).f1) then (some 2) else (spec_LayoutOk.l0 k2 l0_1 (l0_1.length:Int) (wrap64 (x18_2+1)) a0_0 l0_1)) else (some 2)))=some r:=by rw [if_pos rfl] at H;exact H
         clear H
         have H:=H1
         clear H1
         replace H:=Option.bind_eq_some_iff.mp H
         obtain ⟨t108,A150,H⟩:=H
         replace H:(if t108=true then (if ((rd_T88 l0_1 x18_2).f0)=((rd_T88 l0_1 x18_2).f1) then (some 2) else (spec_LayoutOk.l0 k2 l0_1 (l0_1.length:Int) (wrap64 (x18_2+1)) a0_0 l0_1)) else (some 2))=some r:=H
         have A15:=Aside0.mk A150
         clear A150
         by_cases c16:t108=true
         ·subst c16
          have H1:(if ((rd_T88 l0_1 x18_2).f0)=((rd_T88 l0_1 x18_2).f1) then (some 2) else (spec_LayoutOk.l0 k2 l0_1 (l0_1.length:Int) (wrap64 (x18_2+1)) a0_0 l0_1))=some r:=by rw [if_pos rfl] at H;exact H
          clear H
          have H:=H1
          clear H1
          by_cases c17:((rd_T88 l0_1 x18_2).f0)=((rd_T88 l0_1 x18_2).f1)
          ·rw [if_pos c17] at H
           have c17b0:(((rd_T88 l0_1 x18_2).f0)==((rd_T88 l0_1 x18_2).f1))=true:=beq_iff_eq.mpr c17
           have c17b1:(((rd_T88 l0_1 x18_2).f0) != ((rd_T88 l0_1 x18_2).f1))=false:=bne_eq_false_iff_eq.mpr c17
           clear c17
           obtain rfl:=Option.some.inj H
           have p105:0≤(x18_2:Int):=of_decide_eq_true (by first|(with_reducible assumption)|assumption)
           have q105:x18_2<(l0_1.length:Int):=of_decide_eq_true (by first|(with_reducible assumption)|assumption)
           obtain ⟨ad105,e105,hx105_0,hx105_1⟩:=at_T88 HR0_1.out x18_2 p105 q105
           cases e105
           replace hx105_0:=(HB.out.cell (World.block_lt_of_cell? w _ hx105_0)).trans hx105_0
           replace hx105_1:=(HB.out.cell (World.block_lt_of_cell? w _ hx105_1)).trans hx105_1
           replace p105:=eq_true p105
           replace q105:=eq_true q105
           go_wp2_with (first|((with_reducible refine gate_dst (N:=4) rfl ?_);refine box_event ?hg (N:=4) ?hd (cs:=#[.int .i64 0,.int .i64 0]) (t:=88) ?hr ?_;(case hd=>rfl);(case hg=>rfl);(case hr=>first|(go_simp;done)|(go_simp;rfl));intro gb106 hg w18 hbox hb;have n0_:=Aside0.mk (blk_below (g:=gb103) (o:=.cells #[.int .i64 a0_0,.slice (some ad105) l0_1.length c0_1] 30 (0,0)) (by exact BK103.out) hb);have n1_:=Aside0.mk (below_step (by exact HB.out) hb);have n2_:=Aside0.mk (hbox);have n3_:=Aside0.mk ((by rw [hg];exact (below_size (by exact HB.out)):w.heap.size≤gb106));have n4_:=Aside0.mk ((by rw [hg];exact (below_size (by exact HB.out)):w.heap.size≤gb106));have n5_:=Aside0.mk ((by rw [hg];exact Nat.ne_of_lt (blk_lt (g:=gb103) (o:=.cells #[.int .i64 a0_0,.slice (some ad105) l0_1.length c0_1] 30 (0,0)) (by exact BK103.out)):gb103 ≠ gb106));have n6_:=Aside0.mk ((by rw [hg];exact Nat.ne_of_gt (blk_lt (g:=gb103) (o:=.cells #[.int .i64 a0_0,.slice (some ad105) l0_1.length c0_1] 30 (0,0)) (by exact BK103.out)):gb106 ≠ gb103));clear BK103;clear HB;have BK103:=n0_;have HB:=n1_;have BK106:=n2_;have GW106:=n3_;have GE106:=n4_;have NB103_106:=n5_;have NB106_103:=n6_;clear n0_ n1_ n2_ n3_ n4_ n5_ n6_;clear hb hbox hg;have hnb19:=NB106_103.out;have hnc19:=NB103_106.out;have hcz20_0:w18.cell? ⟨gb106,0,none⟩=some (.int .i64 0):=(blk_cell BK106.out 0).trans rfl;have hcz20_1:w18.cell? ⟨gb106,1,none⟩=some (.int .i64 0):=(blk_cell BK106.out 1).trans rfl;have hfz20_0:=blk_frozen BK106.out 0;have hfz20_1:=blk_frozen BK106.out 1;have hcz21_0:w18.cell? ⟨gb103,0,none⟩=some (.int .i64 a0_0):=(blk_cell BK103.out 0).trans rfl;have hcz21_1:w18.cell? ⟨gb103,1,none⟩=some (.slice (some ad105) l0_1.length c0_1):=(blk_cell BK103.out 1).trans rfl;have hfz21_0:=blk_frozen BK103.out 0;have hfz21_1:=blk_frozen BK103.out 1)|((with_reducible refine gate_callee (f:=87) rfl ?_);refine goesL_ (some 27) rfl rfl Try.func87 (by kernel_rfl) rfl #[.int .i64 ((rd_T88 l0_1 x18_2).f0),.int .i64 (-1),.int .i64 (wrap64 (a0_0 - 1))] rfl (by (try simp only [List.map_toArray,List.map_cons,List.map_nil]);first|done|rfl|(simp only [List.length_drop,List.length_take];rfl)) ?_;(with_reducible refine (spec_l1in.calls ((rd_T88 l0_1 x18_2).f0) (-1) (wrap64 (a0_0 - 1)) true _ A13.out).mono ?_);rintro e w' ⟨rfl,⟨nd,rfl⟩⟩;refine ⟨_,rfl,?_⟩)|(go_at_call 87;(with_reducible refine (spec_l1in.calls ((rd_T88 l0_1 x18_2).f1) (-1) (wrap64 (a0_0 - 1)) true _ A15.out).mono ?_);rintro e w' ⟨rfl,⟨nd,rfl⟩⟩))
           go_ret
           exact ⟨by first|rfl|(simp [errW_none,errW_some] <;> rfl)|(simp [*,errW_none,errW_some] <;> rfl),by repeat (first|(with_reducible first|exact HB.out|apply below_alloc|apply pw_below_drewN|apply below_drew1|refine below_set ?_ GE103.out|refine below_set ?_ GE106.out)|exact HB.out)⟩
          rw [if_neg c17] at H
          have c17b0:(((rd_T88 l0_1 x18_2).f0)==((rd_T88 l0_1 x18_2).f1))=false:=beq_eq_false_iff_ne.mpr c17
          have c17b1:(((rd_T88 l0_1 x18_2).f0) != ((rd_T88 l0_1 x18_2).f1))=true:=bne_iff_ne.mpr c17
          have H':=Aside0.mk H
          clear H
          have p105:0≤(x18_2:Int):=of_decide_eq_true (by first|(with_reducible assumption)|assumption)
          have q105:x18_2<(l0_1.length:Int):=of_decide_eq_true (by first|(with_reducible assumption)|assumption)
          obtain ⟨ad105,e105,hx105_0,hx105_1⟩:=at_T88 HR0_1.out x18_2 p105 q105
          cases e105
          replace hx105_0:=(HB.out.cell (World.block_lt_of_cell? w _ hx105_0)).trans hx105_0
          replace hx105_1:=(HB.out.cell (World.block_lt_of_cell? w _ hx105_1)).trans hx105_1
          replace p105:=eq_true p105
          replace q105:=eq_true q105
          go_wp2_with (first|((with_reducible refine gate_dst (N:=4) rfl ?_);refine box_event ?hg (N:=4) ?hd (cs:=#[.int .i64 0,.int .i64 0]) (t:=88) ?hr ?_;(case hd=>rfl);(case hg=>rfl);(case hr=>first|(go_simp;done)|(go_simp;rfl));intro gb106 hg w22 hbox hb;have n0_:=Aside0.mk (blk_below (g:=gb103) (o:=.cells #[.int .i64 a0_0,.slice (some ad105) l0_1.length c0_1] 30 (0,0)) (by exact BK103.out) hb);have n1_:=Aside0.mk (below_step (by exact HB.out) hb);have n2_:=Aside0.mk (hbox);have n3_:=Aside0.mk ((by rw [hg];exact (below_size (by exact HB.out)):w.heap.size≤gb106));have n4_:=Aside0.mk ((by rw [hg];exact (below_size (by exact HB.out)):w.heap.size≤gb106));have n5_:=Aside0.mk ((by rw [hg];exact Nat.ne_of_lt (blk_lt (g:=gb103) (o:=.cells #[.int .i64 a0_0,.slice (some ad105) l0_1.length c0_1] 30 (0,0)) (by exact BK103.out)):gb103 ≠ gb106));have n6_:=Aside0.mk ((by rw [hg];exact Nat.ne_of_gt (blk_lt (g:=gb103) (o:=.cells #[.int .i64 a0_0,.slice (some ad105) l0_1.length c0_1] 30 (0,0)) (by exact BK103.out)):gb106 ≠ gb103));clear BK103;clear HB;have BK103:=n0_;have HB:=n1_;have BK106:=n2_;have GW106:=n3_;have GE106:=n4_;have NB103_106:=n5_;have NB106_103:=n6_;clear n0_ n1_ n2_ n3_ n4_ n5_ n6_;clear hb hbox hg;have hnb23:=NB106_103.out;have hnc23:=NB103_106.out;have hcz24_0:w22.cell? ⟨gb106,0,none⟩=some (.int .i64 0):=(blk_cell BK106.out 0).trans rfl;have hcz24_1:w22.cell? ⟨gb106,1,none⟩=some (.int .i64 0):=(blk_cell BK106.out 1).trans rfl;have hfz24_0:=blk_frozen BK106.out 0;have hfz24_1:=blk_frozen BK106.out 1;have hcz25_0:w22.cell? ⟨gb103,0,none⟩=some (.int .i64 a0_0):=(blk_cell BK103.out 0).trans rfl;have hcz25_1:w22.cell? ⟨gb103,1,none⟩=some (.slice (some ad105) l0_1.length c0_1):=(blk_cell BK103.out 1).trans rfl;have hfz25_0:=blk_frozen BK103.out 0;have hfz25_1:=blk_frozen BK103.out 1)|((with_reducible refine gate_callee (f:=87) rfl ?_);refine goesL_ (some 27) rfl rfl Try.func87 (by kernel_rfl) rfl #[.int .i64 ((rd_T88 l0_1 x18_2).f0),.int .i64 (-1),.int .i64 (wrap64 (a0_0 - 1))] rfl (by (try simp only [List.map_toArray,List.map_cons,List.map_nil]);first|done|rfl|(simp only [List.length_drop,List.length_take];rfl)) ?_;(with_reducible refine (spec_l1in.calls ((rd_T88 l0_1 x18_2).f0) (-1) (wrap64 (a0_0 - 1)) true _ A13.out).mono ?_);rintro e w' ⟨rfl,⟨nd,rfl⟩⟩;refine ⟨_,rfl,?_⟩)|(go_at_call 87;(with_reducible refine (spec_l1in.calls ((rd_T88 l0_1 x18_2).f1) (-1) (wrap64 (a0_0 - 1)) true _ A15.out).mono ?_);rintro e w' ⟨rfl,⟨nd,rfl⟩⟩))
          go_roundg k2
          case measure=>have:=HJ1.out;have:=HK2.out;omega
          case rel=>exact ⟨(wrap64 (x18_2+1)),(by first|rfl|(simp;done)|(simp [*];done)),H',⟨by have:=HJ1.out;have:=HK2.out;omega⟩,⟨by refine blk_far ?_ NB103_106.out _;refine blk_far ?_ NB103_106.out _;exact BK103.out⟩,⟨by repeat (first|(with_reducible first|exact HB.out|apply below_alloc|apply pw_below_drewN|apply below_drew1|refine below_set ?_ GE103.out|refine below_set ?_ GE106.out)|exact HB.out)⟩⟩
         replace c16:=Bool.eq_false_iff.mpr c16
         subst c16
         have H1:(some 2)=some r:=by rw [if_neg (show ¬ (false=true) by decide)] at H;exact H
         clear H
         have H:=H1
         clear H1
         obtain rfl:=Option.some.inj H
         have p105:0≤(x18_2:Int):=of_decide_eq_true (by first|(with_reducible assumption)|assumption)
         have q105:x18_2<(l0_1.length:Int):=of_decide_eq_true (by first|(with_reducible assumption)|assumption)
         obtain ⟨ad105,e105,hx105_0,hx105_1⟩:=at_T88 HR0_1.out x18_2 p105 q105
         cases e105
         replace hx105_0:=(HB.out.cell (World.block_lt_of_cell? w _ hx105_0)).trans hx105_0
         replace hx105_1:=(HB.out.cell (World.block_lt_of_cell? w _ hx105_1)).trans hx105_1
         replace p105:=eq_true p105
         replace q105:=eq_true q105
         go_wp2_with (first|((with_reducible refine gate_dst (N:=4) rfl ?_);refine box_event ?hg (N:=4) ?hd (cs:=#[.int .i64 0,.int .i64 0]) (t:=88) ?hr ?_;(case hd=>rfl);(case hg=>rfl);(case hr=>first|(go_simp;done)|(go_simp;rfl));intro gb106 hg w26 hbox hb;have n0_:=Aside0.mk (blk_below (g:=gb103) (o:=.cells #[.int .i64 a0_0,.slice (some ad105) l0_1.length c0_1] 30 (0,0)) (by exact BK103.out) hb);have n1_:=Aside0.mk (below_step (by exact HB.out) hb);have n2_:=Aside0.mk (hbox);have n3_:=Aside0.mk ((by rw [hg];exact (below_size (by exact HB.out)):w.heap.size≤gb106));have n4_:=Aside0.mk ((by rw [hg];exact (below_size (by exact HB.out)):w.heap.size≤gb106));have n5_:=Aside0.mk ((by rw [hg];exact Nat.ne_of_lt (blk_lt (g:=gb103) (o:=.cells #[.int .i64 a0_0,.slice (some ad105) l0_1.length c0_1] 30 (0,0)) (by exact BK103.out)):gb103 ≠ gb106));have n6_:=Aside0.mk ((by rw [hg];exact Nat.ne_of_gt (blk_lt (g:=gb103) (o:=.cells #[.int .i64 a0_0,.slice (some ad105) l0_1.length c0_1] 30 (0,0)) (by exact BK103.out)):gb106 ≠ gb103));clear BK103;clear HB;have BK103:=n0_;have HB:=n1_;have BK106:=n2_;have GW106:=n3_;have GE106:=n4_;have NB103_106:=n5_;have NB106_103:=n6_;clear n0_ n1_ n2_ n3_ n4_ n5_ n6_;clear hb hbox hg;have hnb27:=NB106_103.out;have hnc27:=NB103_106.out;have hcz28_0:w26.cell? ⟨gb106,0,none⟩=some (.int .i64 0):=(blk_cell BK106.out 0).trans rfl;have hcz28_1:w26.cell? ⟨gb106,1,none⟩=some (.int .i64 0):=(blk_cell BK106.out 1).trans rfl;have hfz28_0:=blk_frozen BK106.out 0;have hfz28_1:=blk_frozen BK106.out 1;have hcz29_0:w26.cell? ⟨gb103,0,none⟩=some (.int .i64 a0_0):=(blk_cell BK103.out 0).trans rfl;have hcz29_1:w26.cell? ⟨gb103,1,none⟩=some (.slice (some ad105) l0_1.length c0_1):=(blk_cell BK103.out 1).trans rfl;have hfz29_0:=blk_frozen BK103.out 0;have hfz29_1:=blk_frozen BK103.out 1)|((with_reducible refine gate_callee (f:=87) rfl ?_);refine goesL_ (some 27) rfl rfl Try.func87 (by kernel_rfl) rfl #[.int .i64 ((rd_T88 l0_1 x18_2).f0),.int .i64 (-1),.int .i64 (wrap64 (a0_0 - 1))] rfl (by (try simp only [List.map_toArray,List.map_cons,List.map_nil]);first|done|rfl|(simp only [List.length_drop,List.length_take];rfl)) ?_;(with_reducible refine (spec_l1in.calls ((rd_T88 l0_1 x18_2).f0) (-1) (wrap64 (a0_0 - 1)) true _ A13.out).mono ?_);rintro e w' ⟨rfl,⟨nd,rfl⟩⟩;refine ⟨_,rfl,?_⟩)|(go_at_call 87;(with_reducible refine (spec_l1in.calls ((rd_T88 l0_1 x18_2).f1) (-1) (wrap64 (a0_0 - 1)) false _ A15.out).mono ?_);rintro e w' ⟨rfl,⟨nd,rfl⟩⟩))
         go_ret
         exact ⟨by first|rfl|(simp [errW_none,errW_some] <;> rfl)|(simp [*,errW_none,errW_some] <;> rfl),by repeat (first|(with_reducible first|exact HB.out|apply below_alloc|apply pw_below_drewN|apply below_drew1|refine below_set ?_ GE103.out|refine below_set ?_ GE106.out)|exact HB.out)⟩
        replace c14:=Bool.eq_false_iff.mpr c14
        subst c14
        have H1:(some 2)=some r:=by rw [if_neg (show ¬ (false=true) by decide)] at H;exact H
        clear H
        have H:=H1
        clear H1
        obtain rfl:=Option.some.inj H
        have p105:0≤(x18_2:Int):=of_decide_eq_true (by first|(with_reducible assumption)|assumption)
        have q105:x18_2<(l0_1.length:Int):=of_decide_eq_true (by first|(with_reducible assumption)|assumption)
        obtain ⟨ad105,e105,hx105_0,hx105_1⟩:=at_T88 HR0_1.out x18_2 p105 q105
        cases e105
        replace hx105_0:=(HB.out.cell (World.block_lt_of_cell? w _ hx105_0)).trans hx105_0
        replace hx105_1:=(HB.out.cell (World.block_lt_of_cell? w _ hx105_1)).trans hx105_1
        replace p105:=eq_true p105
        replace q105:=eq_true q105
        go_wp2_with (first|((with_reducible refine gate_dst (N:=4) rfl ?_);refine box_event ?hg (N:=4) ?hd (cs:=#[.int .i64 0,.int .i64 0]) (t:=88) ?hr ?_;(case hd=>rfl);(case hg=>rfl);(case hr=>first|(go_simp;done)|(go_simp;rfl));intro gb106 hg w30 hbox hb;have n0_:=Aside0.mk (blk_below (g:=gb103) (o:=.cells #[.int .i64 a0_0,.slice (some ad105) l0_1.length c0_1] 30 (0,0)) (by exact BK103.out) hb);have n1_:=Aside0.mk (below_step (by exact HB.out) hb);have n2_:=Aside0.mk (hbox);have n3_:=Aside0.mk ((by rw [hg];exact (below_size (by exact HB.out)):w.heap.size≤gb106));have n4_:=Aside0.mk ((by rw [hg];exact (below_size (by exact HB.out)):w.heap.size≤gb106));have n5_:=Aside0.mk ((by rw [hg];exact Nat.ne_of_lt (blk_lt (g:=gb103) (o:=.cells #[.int .i64 a0_0,.slice (some ad105) l0_1.length c0_1] 30 (0,0)) (by exact BK103.out)):gb103 ≠ gb106));have n6_:=Aside0.mk ((by rw [hg];exact Nat.ne_of_gt (blk_lt (g:=gb103) (o:=.cells #[.int .i64 a0_0,.slice (some ad105) l0_1.length c0_1] 30 (0,0)) (by exact BK103.out)):gb106 ≠ gb103));clear BK103;clear HB;have BK103:=n0_;have HB:=n1_;have BK106:=n2_;have GW106:=n3_;have GE106:=n4_;have NB103_106:=n5_;have NB106_103:=n6_;clear n0_ n1_ n2_ n3_ n4_ n5_ n6_;clear hb hbox hg;have hnb31:=NB106_103.out;have hnc31:=NB103_106.out;have hcz32_0:w30.cell? ⟨gb106,0,none⟩=some (.int .i64 0):=(blk_cell BK106.out 0).trans rfl;have hcz32_1:w30.cell? ⟨gb106,1,none⟩=some (.int .i64 0):=(blk_cell BK106.out 1).trans rfl;have hfz32_0:=blk_frozen BK106.out 0;have hfz32_1:=blk_frozen BK106.out 1;have hcz33_0:w30.cell? ⟨gb103,0,none⟩=some (.int .i64 a0_0):=(blk_cell BK103.out 0).trans rfl;have hcz33_1:w30.cell? ⟨gb103,1,none⟩=some (.slice (some ad105) l0_1.length c0_1):=(blk_cell BK103.out 1).trans rfl;have hfz33_0:=blk_frozen BK103.out 0;have hfz33_1:=blk_frozen BK103.out 1)|((with_reducible refine gate_callee (f:=87) rfl ?_);refine goesL_ (some 27) rfl rfl Try.func87 (by kernel_rfl) rfl #[.int .i64 ((rd_T88 l0_1 x18_2).f0),.int .i64 (-1),.int .i64 (wrap64 (a0_0 - 1))] rfl (by (try simp only [List.map_toArray,List.map_cons,List.map_nil]);first|done|rfl|(simp only [List.length_drop,List.length_take];rfl)) ?_;(with_reducible refine (spec_l1in.calls ((rd_T88 l0_1 x18_2).f0) (-1) (wrap64 (a0_0 - 1)) false _ A13.out).mono ?_);rintro e w' ⟨rfl,⟨nd,rfl⟩⟩;refine ⟨_,rfl,?_⟩))
        go_ret
        exact ⟨by first|rfl|(simp [errW_none,errW_some] <;> rfl)|(simp [*,errW_none,errW_some] <;> rfl),by repeat (first|(with_reducible first|exact HB.out|apply below_alloc|apply pw_below_drewN|apply below_drew1|refine below_set ?_ GE103.out|refine below_set ?_ GE106.out)|exact HB.out)⟩
       rw [if_neg c12] at H
       exact absurd H (by simp)
      rw [if_neg c11] at H
      exact absurd H (by simp)
     rw [if_neg c10] at H
     have c10b0:decide (x18_2<(l0_1.length:Int))=false:=decide_eq_false c10
     clear c10
     obtain rfl:=Option.some.inj H
     go_wp2
     go_ret
     exact ⟨by first|rfl|(simp [errW_none,errW_some] <;> rfl)|(simp [*,errW_none,errW_some] <;> rfl),by exact HB.out⟩
end Go.Proofs.Ytpdnabhpkdchjaa.P
namespace Go.Proofs.Ytpdnabhpkdchjaa.P
open Go.RowKit Go.Proofs.YtpdnabhpkdchjaaW.PrintWords Go.Proofs.YtpdnabhpkdchjaaW.PrintLast Go.Proofs.YtpdnabhpkdchjaaW.PrintMore
attribute [local go_sem] max2_int min2_int max_two min_two max_three min_three max_four min_four
set_option linter.unusedVariables false
set_option linter.unusedSimpArgs false
def laws_toCounter.f (a0_0:Int) (a0_1:Int):Option (Int × Int):=some (a0_0,a0_1)
set_option maxHeartbeats 8000000 in
set_option maxRecDepth 100000 in
theorem laws_toCounter.calls (a0_0:Int) (a0_1:Int) (r1:Int) (r2:Int) (w:World) (h:laws_toCounter.f a0_0 a0_1=some (r1,r2)) :
  Calls Try.prog 128 #[.agg #[.int .i64 a0_0,.int .i64 a0_1]] w fun e w'=>e=.returned (.agg #[.int .i64 r1,.int .i64 r2])∧Below w.heap.size w w':=by
 have hu160:=Try.underlying160
 have hu88:=Try.underlying88
 have HB:=Aside0.mk (Below.refl w.heap.size w)
 have H:(some (a0_0,a0_1))=some (r1,r2):=h
 clear h
 simp only [Option.some.injEq,Prod.mk.injEq] at H
 obtain ⟨rfl,rfl⟩:=H
 go_enter Try.func128,Try.ntmps128
 go_wp2_with (first|((with_reducible refine gate_dst (N:=1) rfl ?_);refine box_event ?hg (N:=1) ?hd (cs:=#[.int .i64 a0_0,.int .i64 a0_1]) (t:=160) ?hr ?_;(case hd=>rfl);(case hg=>rfl);(case hr=>first|(go_simp;done)|(go_simp;rfl));intro gb109 hg w2 hbox hb;have n0_:=Aside0.mk (below_step (by repeat (first|(with_reducible first|exact HB.out|apply below_alloc|apply pw_below_drewN|apply below_drew1)|exact HB.out)) hb);have n1_:=Aside0.mk (hbox);have n2_:=Aside0.mk ((by rw [hg];exact (below_size (by repeat (first|(with_reducible first|exact HB.out|apply below_alloc|apply pw_below_drewN|apply below_drew1)|exact HB.out))):w.heap.size≤gb109));have n3_:=Aside0.mk ((by rw [hg];exact (below_size (by repeat (first|(with_reducible first|exact HB.out|apply below_alloc|apply pw_below_drewN|apply below_drew1)|exact HB.out))):w.heap.size≤gb109));clear HB;have HB:=n0_;have BK109:=n1_;have GW109:=n2_;have GE109:=n3_;clear n0_ n1_ n2_ n3_;clear hb hbox hg)|((with_reducible refine gate_dst (N:=2) rfl ?_);refine box_event ?hg (N:=2) ?hd (cs:=#[.int .i64 0,.int .i64 0]) (t:=88) ?hr ?_;(case hd=>rfl);(case hg=>rfl);(case hr=>first|(go_simp;done)|(go_simp;rfl));intro gb110 hg w3 hbox hb;have n0_:=Aside0.mk (blk_below (g:=gb109) (o:=.cells #[.int .i64 a0_0,.int .i64 a0_1] 160 (0,0)) (by (with_reducible repeat (first|refine blk_drewN ?_ _|refine blk_drew ?_|refine blk_alloc ?_ _));exact BK109.out) hb);have n1_:=Aside0.mk (below_step (by repeat (first|(with_reducible first|exact HB.out|apply below_alloc|apply pw_below_drewN|apply below_drew1|refine below_set ?_ GE109.out)|exact HB.out)) hb);have n2_:=Aside0.mk (hbox);have n3_:=Aside0.mk ((by rw [hg];exact (below_size (by repeat (first|(with_reducible first|exact HB.out|apply below_alloc|apply pw_below_drewN|apply below_drew1|refine below_set ?_ GE109.out)|exact HB.out))):w.heap.size≤gb110));have n4_:=Aside0.mk ((by rw [hg];exact (below_size (by repeat (first|(with_reducible first|exact HB.out|apply below_alloc|apply pw_below_drewN|apply below_drew1|refine below_set ?_ GE109.out)|exact HB.out))):w.heap.size≤gb110));have n5_:=Aside0.mk ((by rw [hg];exact Nat.ne_of_lt (blk_lt (g:=gb109) (o:=.cells #[.int .i64 a0_0,.int .i64 a0_1] 160 (0,0)) (by (with_reducible repeat (first|refine blk_drewN ?_ _|refine blk_drew ?_|refine blk_alloc ?_ _));exact BK109.out)):gb109 ≠ gb110));have n6_:=Aside0.mk ((by rw [hg];exact Nat.ne_of_gt (blk_lt (g:=gb109) (o:=.cells #[.int .i64 a0_0,.int .i64 a0_1] 160 (0,0)) (by (with_reducible repeat (first|refine blk_drewN ?_ _|refine blk_drew ?_|refine blk_alloc ?_ _));exact BK109.out)):gb110 ≠ gb109));clear BK109;clear HB;have BK109:=n0_;have HB:=n1_;have BK110:=n2_;have GW110:=n3_;have GE110:=n4_;have NB109_110:=n5_;have NB110_109:=n6_;clear n0_ n1_ n2_ n3_ n4_ n5_ n6_;clear hb hbox hg)|((with_reducible refine gate_dst (N:=3) rfl ?_);refine box_event ?hg (N:=3) ?hd (cs:=#[.int .i64 0,.int .i64 0]) (t:=88) ?hr ?_;(case hd=>rfl);(case hg=>rfl);(case hr=>first|(go_simp;done)|(go_simp;rfl));intro gb111 hg w4 hbox hb;have n0_:=Aside0.mk (blk_below (g:=gb109) (o:=.cells #[.int .i64 a0_0,.int .i64 a0_1] 160 (0,0)) (by (with_reducible repeat (first|refine blk_drewN ?_ _|refine blk_drew ?_|refine blk_alloc ?_ _));exact BK109.out) hb);have n1_:=Aside0.mk (blk_below (g:=gb110) (o:=.cells #[.int .i64 0,.int .i64 0] 88 (0,0)) (by (with_reducible repeat (first|refine blk_drewN ?_ _|refine blk_drew ?_|refine blk_alloc ?_ _));exact BK110.out) hb);have n2_:=Aside0.mk (below_step (by repeat (first|(with_reducible first|exact HB.out|apply below_alloc|apply pw_below_drewN|apply below_drew1|refine below_set ?_ GE109.out|refine below_set ?_ GE110.out)|exact HB.out)) hb);have n3_:=Aside0.mk (hbox);have n4_:=Aside0.mk ((by rw [hg];exact (below_size (by repeat (first|(with_reducible first|exact HB.out|apply below_alloc|apply pw_below_drewN|apply below_drew1|refine below_set ?_ GE109.out|refine below_set ?_ GE110.out)|exact HB.out))):w.heap.size≤gb111));have n5_:=Aside0.mk ((by rw [hg];exact (below_size (by repeat (first|(with_reducible first|exact HB.out|apply below_alloc|apply pw_below_drewN|apply below_drew1|refine below_set ?_ GE109.out|refine below_set ?_ GE110.out)|exact HB.out))):w.heap.size≤gb111));have n6_:=Aside0.mk ((by rw [hg];exact Nat.ne_of_lt (blk_lt (g:=gb109) (o:=.cells #[.int .i64 a0_0,.int .i64 a0_1] 160 (0,0)) (by (with_reducible repeat (first|refine blk_drewN ?_ _|refine blk_drew ?_|refine blk_alloc ?_ _));exact BK109.out)):gb109 ≠ gb111));have n7_:=Aside0.mk ((by rw [hg];exact Nat.ne_of_gt (blk_lt (g:=gb109) (o:=.cells #[.int .i64 a0_0,.int .i64 a0_1] 160 (0,0)) (by (with_reducible repeat (first|refine blk_drewN ?_ _|refine blk_drew ?_|refine blk_alloc ?_ _));exact BK109.out)):gb111 ≠ gb109));have n8_:=Aside0.mk ((by rw [hg];exact Nat.ne_of_lt (blk_lt (g:=gb110) (o:=.cells #[.int .i64 0,.int .i64 0] 88 (0,0)) (by (with_reducible repeat (first|refine blk_drewN ?_ _|refine blk_drew ?_|refine blk_alloc ?_ _));exact BK110.out)):gb110 ≠ gb111));have n9_:=Aside0.mk ((by rw [hg];exact Nat.ne_of_gt (blk_lt (g:=gb110) (o:=.cells #[.int .i64 0,.int .i64 0] 88 (0,0)) (by (with_reducible repeat (first|refine blk_drewN ?_ _|refine blk_drew ?_|refine blk_alloc ?_ _));exact BK110.out)):gb111 ≠ gb110));clear BK109;clear BK110;clear HB;have BK109:=n0_;have BK110:=n1_;have HB:=n2_;have BK111:=n3_;have GW111:=n4_;have GE111:=n5_;have NB109_111:=n6_;have NB111_109:=n7_;have NB110_111:=n8_;have NB111_110:=n9_;clear n0_ n1_ n2_ n3_ n4_ n5_ n6_ n7_ n8_ n9_;clear hb hbox hg;have hnb5:=NB109_110.out;have hnc5:=NB110_109.out;have hnb6:=NB109_111.out;have hnc6:=NB111_109.out;have hcz7_0:w4.cell? ⟨gb109,0,none⟩=some (.int .i64 a0_0):=(blk_cell BK109.out 0).trans rfl;have hcz7_1:w4.cell? ⟨gb109,1,none⟩=some (.int .i64 a0_1):=(blk_cell BK109.out 1).trans rfl;have hfz7_0:=blk_frozen BK109.out 0;have hfz7_1:=blk_frozen BK109.out 1;have hnb8:=NB111_110.out;have hnc8:=NB110_111.out;have hcz9_0:w4.cell? ⟨gb111,0,none⟩=some (.int .i64 0):=(blk_cell BK111.out 0).trans rfl;have hcz9_1:w4.cell? ⟨gb111,1,none⟩=some (.int .i64 0):=(blk_cell BK111.out 1).trans rfl;have hfz9_0:=blk_frozen BK111.out 0;have hfz9_1:=blk_frozen BK111.out 1;have hcz10_0:w4.cell? ⟨gb110,0,none⟩=some (.int .i64 0):=(blk_cell BK110.out 0).trans rfl;have hcz10_1:w4.cell? ⟨gb110,1,none⟩=some (.int .i64 0):=(blk_cell BK110.out 1).trans rfl;have hfz10_0:=blk_frozen BK110.out 0;have hfz10_1:=blk_frozen BK110.out 1))
 refine bodyPost_ret (results_cell_row rfl _ _ gb110 88 #[.int .i64 a0_0,.int .i64 a0_1] (0,0) _ rfl (by (with_reducible repeat (first|refine blk_drewN ?_ _|refine blk_drew ?_|refine blk_alloc ?_ _));refine blk_put (cs:=#[.int .i64 a0_0,.int .i64 0]) ?_ 1 _ rfl;(with_reducible repeat (first|refine blk_drewN ?_ _|refine blk_drew ?_|refine blk_alloc ?_ _));refine blk_put (cs:=#[.int .i64 0,.int .i64 0]) ?_ 0 _ rfl;(with_reducible repeat (first|refine blk_drewN ?_ _|refine blk_drew ?_|refine blk_alloc ?_ _));refine blk_far ?_ NB110_111.out _;(with_reducible repeat (first|refine blk_drewN ?_ _|refine blk_drew ?_|refine blk_alloc ?_ _));refine blk_far ?_ NB110_111.out _;(with_reducible repeat (first|refine blk_drewN ?_ _|refine blk_drew ?_|refine blk_alloc ?_ _));exact BK110.out) Try.underlying88 rfl (by kernel_rfl)) rfl ?_
 exact ⟨by first|rfl|(simp [errW_none,errW_some] <;> rfl)|(simp [*,errW_none,errW_some] <;> rfl),by repeat (first|(with_reducible first|exact HB.out|apply below_alloc|apply pw_below_drewN|apply below_drew1|refine below_set ?_ GE109.out|refine below_set ?_ GE110.out|refine below_set ?_ GE111.out)|exact HB.out)⟩
end Go.Proofs.Ytpdnabhpkdchjaa.P
namespace Go.Proofs.Ytpdnabhpkdchjaa.P
open Go.RowKit Go.Proofs.YtpdnabhpkdchjaaW.PrintWords Go.Proofs.YtpdnabhpkdchjaaW.PrintLast Go.Proofs.YtpdnabhpkdchjaaW.PrintMore
attribute [local go_sem] max2_int min2_int max_two min_two max_three min_three max_four min_four
set_option linter.unusedVariables false
set_option linter.unusedSimpArgs false
def laws_toCounterS.l0:Nat→List (S160)→List (S88)→Int→Option ((List (S88)))
 | 0,_,_,_=>none
 | k+1,x0,x3,x4=>if x4<(x0.length:Int) then (if 0≤x4 then ((laws_toCounter.f ((rd_T160 x0 x4).f0) ((rd_T160 x0 x4).f1)).bind fun bt116=>(if x4<(x3.length:Int) then (laws_toCounterS.l0 k x0 (x3.set (x4:Int).toNat (⟨bt116.1,bt116.2⟩:S88)) (wrap64 (x4+1))) else (none))) else (none)) else (some x3)
def laws_toCounterS.f (k:Nat) (l0:List (S160)):Option ((List (S88))):=if 0≤(l0.length:Int) then (if ((l0.length:Int):Int).toNat≤17592186044416 then (laws_toCounterS.l0 k l0 (List.replicate ((l0.length:Int):Int).toNat z88) 0) else (none)) else (none)
set_option maxHeartbeats 8000000 in
set_option maxRecDepth 100000 in
theorem laws_toCounterS.calls (k:Nat) (A0:Option Addr) (c0:Nat) (l0:List (S160)) (r:List (S88)) (w:World) (hr0:Kd.C k160 w A0 l0.length l0) (hc0:l0.length≤c0) (h:laws_toCounterS.f k l0=some r) :
  Calls Try.prog 88 #[.slice A0 l0.length c0] w fun e w'=>∃ v0_:Value,e=.returned (v0_)∧Kd.R k88 88 w' w.heap.size (fun _=>True) v0_ r∧Below w.heap.size w w':=by
 have hu160:=Try.underlying160
 have hu88:=Try.underlying88
 have HR0:=Aside0.mk hr0
 have HC0:=Aside0.mk hc0
 clear hr0 hc0
 have HB:=Aside0.mk (Below.refl w.heap.size w)
 have H:(if 0≤(l0.length:Int) then (if ((l0.length:Int):Int).toNat≤17592186044416 then (laws_toCounterS.l0 k l0 (List.replicate ((l0.length:Int):Int).toNat z88) 0) else (none)) else (none))=some r:=h
 clear h
 by_cases c2:0≤(l0.length:Int)
 ·rw [if_pos c2] at H
  have c2b0:=eq_true c2
  have c2b1:decide (0≤(l0.length:Int))=true:=decide_eq_true c2
  clear c2
  by_cases c3:((l0.length:Int):Int).toNat≤17592186044416
  ·rw [if_pos c3] at H
   have c3b0:=eq_true c3
   have c3b1:decide (((l0.length:Int):Int).toNat≤17592186044416)=true:=decide_eq_true c3
   clear c3
   obtain ⟨y112,hy112⟩:∃ y_:List (S88),y_=(List.replicate ((l0.length:Int):Int).toNat z88):=⟨_,rfl⟩
   replace H:(laws_toCounterS.l0 k l0 y112 0)=some r:=by first|(rw [hy112];with_reducible exact H)|(have H2_:=(Option.bind_some _ _).symm.trans H;rw [hy112];with_reducible exact H2_)|(have H2_:=(Option.bind_some _ _).symm.trans H;with_reducible exact H2_)|with_reducible exact H|(rw [hy112];exact H)|exact H
   have Ny112:=Aside0.mk hy112
   clear hy112
   have H':=Aside0.mk H
   clear H
   go_enter Try.func88,Try.ntmps88
   go_wp2_with (first|((with_reducible refine gate_dst (N:=7) rfl ?_);refine Kd.R_make k88 _ 88 rfl (N:=7) rfl 28 _ _ rfl (l0.length:Int) rfl rfl Try.underlying28 (.agg #[(.int .i64 0),(.int .i64 0)]) 16 info88 rfl (by decide) (by omega) z88 (ok:=fun _=>True) (okp:=fun _=>True) (k88_mkM _ _ _ z88 ) (fun _ hk=>hk) trivial (of_decide_eq_true (by first|(with_reducible assumption)|assumption)) (Nat.le_trans (Nat.mul_le_mul_right _ (of_decide_eq_true (by first|(with_reducible assumption)|assumption):(l0.length:Int).toNat≤17592186044416)) (by omega)) (Below.refl _ _) (Nat.le_refl _) ?_;intro v113 w4 ho5 hb hg_ hnew_;clear hg_ hnew_;(first|rw [← Ny112.out] at ho5|(simp only [Int.reduceToNat] at ho5;rw [← Ny112.out] at ho5));have n0_:=Aside0.mk (Kd.R_lower ho5 (below_size (by repeat (first|(with_reducible first|exact HB.out|apply below_alloc|apply pw_below_drewN|apply below_drew1)|exact HB.out))));have n1_:=Aside0.mk (below_step (by repeat (first|(with_reducible first|exact HB.out|apply below_alloc|apply pw_below_drewN|apply below_drew1)|exact HB.out)) hb);clear HB;have HO114:=n0_;have HB:=n1_;clear n0_ n1_;clear hb ho5))
   go_loopg [4] k (fun kq v4 w'=>∃ (x3_1:List (S88)) (x4_1:Int),v4=.int .i64 x4_1∧Aside0 (laws_toCounterS.l0 kq l0 x3_1 x4_1=some r)∧Aside0 (kq≤k)∧Aside0 (Kd.R k88 88 w' w.heap.size (fun _=>True) v113 x3_1)∧Aside0 (Below w.heap.size w w'))
   case atStart=>exact ⟨(y112),(0),(by first|rfl|(simp;done)|(simp [*];done)),H',⟨Nat.le_refl _⟩,⟨by (with_reducible repeat (first|apply Kd.R_alloc|apply Kd.R_drewN|apply Kd.R_drew));exact HO114.out⟩,⟨by repeat (first|(with_reducible first|exact HB.out|apply below_alloc|apply pw_below_drewN|apply below_drew1)|exact HB.out)⟩⟩
   case round =>
    clear H'
    try clear c2
    try clear c2b0
    try clear c2b1
    try clear p2
    try clear c3
    try clear c3b0
    try clear c3b1
    obtain ⟨x3_1,x4_1,rfl,HA,HK1,HO_3,HB⟩:=hrel
    cases gk with
    | zero=>exact absurd HA.out (by simp [laws_toCounterS.l0])
    | succ k1 =>
     have H:=HA.out
     clear HA
     simp only [laws_toCounterS.l0] at H
     by_cases c6:x4_1<(l0.length:Int)
     ·rw [if_pos c6] at H
      have c6b0:decide (x4_1<(l0.length:Int))=true:=decide_eq_true c6
      clear c6
      by_cases c7:0≤x4_1
      ·rw [if_pos c7] at H
       have c7b0:decide (0≤x4_1)=true:=decide_eq_true c7
       clear c7
       replace H:=Option.bind_eq_some_iff.mp H
       obtain ⟨⟨t116,t117⟩,A80,H⟩:=H
       replace H:(if x4_1<(x3_1.length:Int) then (laws_toCounterS.l0 k1 l0 (x3_1.set (x4_1:Int).toNat (⟨t116,t117⟩:S88)) (wrap64 (x4_1+1))) else (none))=some r:=H
       have A8:=Aside0.mk A80
       clear A80
       by_cases c9:x4_1<(x3_1.length:Int)
       ·rw [if_pos c9] at H
        have c9b0:decide (x4_1<(x3_1.length:Int))=true:=decide_eq_true c9
        clear c9
        obtain ⟨y118,hy118⟩:∃ y_:List (S88),y_=(x3_1.set (x4_1:Int).toNat (⟨t116,t117⟩:S88)):=⟨_,rfl⟩
        replace H:(laws_toCounterS.l0 k1 l0 y118 (wrap64 (x4_1+1)))=some r:=by first|(rw [hy118];with_reducible exact H)|(have H2_:=(Option.bind_some _ _).symm.trans H;rw [hy118];with_reducible exact H2_)|(have H2_:=(Option.bind_some _ _).symm.trans H;with_reducible exact H2_)|with_reducible exact H|(rw [hy118];exact H)|exact H
        have Ny118:=Aside0.mk hy118
        clear hy118
        have H':=Aside0.mk H
        clear H
        have p115:0≤(x4_1:Int):=of_decide_eq_true (by first|(with_reducible assumption)|assumption)
        have q115:x4_1<(l0.length:Int):=of_decide_eq_true (by first|(with_reducible assumption)|assumption)
        obtain ⟨ad115,e115,hx115_0,hx115_1⟩:=at_T160 HR0.out x4_1 p115 q115
        cases e115
        replace hx115_0:=(HB.out.cell (World.block_lt_of_cell? w _ hx115_0)).trans hx115_0
        replace hx115_1:=(HB.out.cell (World.block_lt_of_cell? w _ hx115_1)).trans hx115_1
        replace p115:=eq_true p115
        replace q115:=eq_true q115
        go_wp2_with (first|((with_reducible refine gate_callee (f:=128) rfl ?_);refine goesL_ (some 20) rfl rfl Try.func128 (by kernel_rfl) rfl #[.agg #[.int .i64 ((rd_T160 l0 x4_1).f0),.int .i64 ((rd_T160 l0 x4_1).f1)]] rfl (by (try simp only [List.map_toArray,List.map_cons,List.map_nil]);first|done|rfl|(simp only [List.length_drop,List.length_take];rfl)) ?_;(with_reducible refine (laws_toCounter.calls ((rd_T160 l0 x4_1).f0) ((rd_T160 l0 x4_1).f1) t116 t117 _ A8.out).mono ?_);rintro e w11 ⟨rfl,hb⟩;refine ⟨_,rfl,?_⟩;have n0_:=Aside0.mk (Kd.R_below (by (with_reducible repeat (first|apply Kd.R_alloc|apply Kd.R_drewN|apply Kd.R_drew));exact HO_3.out) hb);have n1_:=Aside0.mk (below_step (by repeat (first|(with_reducible first|exact HB.out|apply below_alloc|apply pw_below_drewN|apply below_drew1)|exact HB.out)) hb);clear HO_3;clear HB;have HO_3:=n0_;have HB:=n1_;clear n0_ n1_;(try clear hb);(try clear hb2);(try clear hk);(try clear hi);have p10:0≤(x4_1:Int):=of_decide_eq_true (by first|(with_reducible assumption)|assumption);have q10:(x4_1:Int)<((x3_1.length:Int):Int):=of_decide_eq_true (by first|(with_reducible assumption)|assumption);obtain ⟨go10,co10,eo10,gb10,gl10,cl10,HG10⟩:=Kd.R_form HO_3.out (by omega);(first|cases eo10|(injection eo10 with ea_ en_ ec_;(first|subst ea_|(injection ea_ with ea_;subst ea_));subst ec_;clear en_));have GB10:=Aside0.mk gb10;have GG10:=Aside0.mk HG10;clear gb10 gl10 HG10;obtain ⟨ce10,hcl10,hM10,hcc10,hfr10⟩:=Kd.R_elem HO_3.out z88 (x4_1:Int) p10 q10;obtain rfl:=k88_openM hM10;have hx10_0:w11.cell? ⟨go10,(x4_1:Int).toNat * 2,none⟩=some (.int .i64 ((rd_T88 x3_1 x4_1).f0)):=hcc10 0 _ rfl;have hx10_1:w11.cell? ⟨go10,(x4_1:Int).toNat * 2+1,none⟩=some (.int .i64 ((rd_T88 x3_1 x4_1).f1)):=hcc10 1 _ rfl;have hf10_0:w11.frozen? ⟨go10,(x4_1:Int).toNat * 2,none⟩=false:=hfr10 0;have hf10_1:w11.frozen? ⟨go10,(x4_1:Int).toNat * 2+1,none⟩=false:=hfr10 1;clear hcl10 hcc10 hfr10 hM10;replace p10:=eq_true p10;replace q10:=eq_true q10;have HX12:=Aside0.mk (show Kd.R k88 88 w11 w.heap.size (fun _=>True) (.slice (some ⟨go10,0,none⟩) x3_1.length co10) x3_1 from (by (with_reducible repeat (first|apply Kd.R_alloc|apply Kd.R_drewN|apply Kd.R_drew));exact HO_3.out));obtain ⟨ce12,hcl12,hM12,hcc12,hfr12⟩:=Kd.R_elem HX12.out z88 (x4_1:Int) (of_decide_eq_true (by first|(with_reducible assumption)|assumption)) (by have h_:(x4_1:Int)<((x3_1.length:Int):Int):=of_decide_eq_true (by first|(with_reducible assumption)|assumption);first|exact h_|(have e_:=(Kd.R_reads' HO_3.out).1;omega)|simpa using h_);obtain rfl:=k88_openM hM12;have HP12:=Kd.R_seg HX12.out (x4_1:Int) (of_decide_eq_true (by first|(with_reducible assumption)|assumption)) (by have h_:(x4_1:Int)<((x3_1.length:Int):Int):=of_decide_eq_true (by first|(with_reducible assumption)|assumption);first|exact h_|(have e_:=(Kd.R_reads' HO_3.out).1;omega)|simpa using h_) (seg:=[.int .i64 t116,.int .i64 t117]) (j:=0) hcl12 hcc12 (show 2≤2 from by decide) (x':=(⟨t116,t117⟩:S88)) (k88_mkM _ _ _ (⟨t116,t117⟩:S88) ) (fun _ hk=>hk);have hx12_0:=hcc12 0 _ rfl;(try simp only [show (k88).sz=2 from rfl,Nat.mul_one,Nat.add_zero] at hx12_0);have hf12_0:=hfr12 0;(try simp only [show (k88).sz=2 from rfl,Nat.mul_one,Nat.add_zero] at hf12_0);have hx12_1:=hcc12 1 _ rfl;(try simp only [show (k88).sz=2 from rfl,Nat.mul_one,Nat.add_zero] at hx12_1);have hf12_1:=hfr12 1;(try simp only [show (k88).sz=2 from rfl,Nat.mul_one,Nat.add_zero] at hf12_1);clear hcl12 hcc12 hfr12 hM12)|((with_reducible refine gate_store (t:=88) (p:=21) rfl ?_);refine store_event (t:=88) (p:=21) (v:=?vo_w13) (w1:=((w11.setCell ⟨go10,(x4_1:Int).toNat * 2,none⟩ (.int .i64 t116)).setCell ⟨go10,(x4_1:Int).toNat * 2+1,none⟩ (.int .i64 t117))) ?hg ?ho ?hn ?hr ?_;(case ho=>rfl);(case hg=>rfl);(case hn=>rfl);(case hr=>first|(go_simp;done)|(go_simp;rfl));intro w13 hw;have hg:w11.grownBy w13 (some go10):=(by rw [hw];exact HP12.2);have hp_:Kd.R k88 88 w13 w.heap.size (fun _=>True) (.slice (some ⟨go10,0,none⟩) x3_1.length co10) y118:=(by rw [hw,Ny118.out];exact HP12.1);clear HP12;have n0_:=Aside0.mk (hp_);have n1_:=Aside0.mk ((by rw [hw];exact below_set (below_set (HB.out) GB10.out) GB10.out:Below w.heap.size w w13));clear HO_3;clear HB;have HO_3:=n0_;have HB:=n1_;clear n0_ n1_;clear hg hw hp_))
        go_roundg k1
        case measure=>have:=HK1.out;omega
        case rel=>exact ⟨(y118),(wrap64 (x4_1+1)),(by first|rfl|(simp;done)|(simp [*];done)),H',⟨by have:=HK1.out;omega⟩,⟨by (with_reducible repeat (first|apply Kd.R_alloc|apply Kd.R_drewN|apply Kd.R_drew));exact HO_3.out⟩,⟨by repeat (first|(with_reducible first|exact HB.out|apply below_alloc|apply pw_below_drewN|apply below_drew1)|exact HB.out)⟩⟩
       rw [if_neg c9] at H
       exact absurd H (by simp)
      rw [if_neg c7] at H
      exact absurd H (by simp)
     rw [if_neg c6] at H
     have c6b0:decide (x4_1<(l0.length:Int))=false:=decide_eq_false c6
     clear c6
     obtain rfl:=Option.some.inj H
     go_wp2
     go_ret
     exact ⟨_,by first|rfl|(simp [errW_none,errW_some] <;> rfl)|(simp [*,errW_none,errW_some] <;> rfl),by (with_reducible repeat (first|apply Kd.R_alloc|apply Kd.R_drewN|apply Kd.R_drew));exact HO_3.out,by repeat (first|(with_reducible first|exact HB.out|apply below_alloc|apply pw_below_drewN|apply below_drew1)|exact HB.out)⟩
  rw [if_neg c3] at H
  exact absurd H (by simp)
 rw [if_neg c2] at H
 exact absurd H (by simp)
end Go.Proofs.Ytpdnabhpkdchjaa.P
namespace Go.Proofs.Ytpdnabhpkdchjaa.P
open Go.RowKit Go.Proofs.YtpdnabhpkdchjaaW.PrintWords Go.Proofs.YtpdnabhpkdchjaaW.PrintLast Go.Proofs.YtpdnabhpkdchjaaW.PrintMore
attribute [local go_sem] max2_int min2_int max_two min_two max_three min_three max_four min_four
set_option linter.unusedVariables false
set_option linter.unusedSimpArgs false
def laws_toLayout.f (k:Nat) (a0_0:Int) (l0_1:List (S160)):Option (Int × (List (S88))):=(laws_toCounterS.f k l0_1).bind fun t122=>(some (a0_0,t122))
set_option maxHeartbeats 8000000 in
set_option maxRecDepth 100000 in
theorem laws_toLayout.calls (k:Nat) (a0_0:Int) (A0_1:Option Addr) (c0_1:Nat) (l0_1:List (S160)) (r1:Int) (r2:List (S88)) (w:World) (hr0_1:Kd.C k160 w A0_1 l0_1.length l0_1) (hc0_1:l0_1.length≤c0_1) (h:laws_toLayout.f k a0_0 l0_1=some (r1,r2)) :
  Calls Try.prog 24 #[.agg #[.int .i64 a0_0,.slice A0_1 l0_1.length c0_1]] w fun e w'=>∃ v1_:Value,e=.returned (.agg #[.int .i64 r1,v1_])∧Kd.R k88 88 w' w.heap.size (fun _=>True) v1_ r2∧Below w.heap.size w w':=by
 have hu25:=Try.underlying25
 have hu30:=Try.underlying30
 have HR0_1:=Aside0.mk hr0_1
 have HC0_1:=Aside0.mk hc0_1
 clear hr0_1 hc0_1
 have HB:=Aside0.mk (Below.refl w.heap.size w)
 have H:((laws_toCounterS.f k l0_1).bind fun t122=>(some (a0_0,t122)))=some (r1,r2):=h
 clear h
 replace H:=Option.bind_eq_some_iff.mp H
 obtain ⟨t122,A20,H⟩:=H
 replace H:(some (a0_0,t122))=some (r1,r2):=H
 have A2:=Aside0.mk A20
 clear A20
 simp only [Option.some.injEq,Prod.mk.injEq] at H
 obtain ⟨rfl,rfl⟩:=H
 go_enter Try.func24,Try.ntmps24
 go_wp2_with (first|((with_reducible refine gate_dst (N:=1) rfl ?_);refine box_event ?hg (N:=1) ?hd (cs:=#[.int .i64 a0_0,.slice A0_1 l0_1.length c0_1]) (t:=25) ?hr ?_;(case hd=>rfl);(case hg=>rfl);(case hr=>first|(go_simp;done)|(go_simp;rfl));intro gb119 hg w3 hbox hb;have n0_:=Aside0.mk (below_step (by repeat (first|(with_reducible first|exact HB.out|apply below_alloc|apply pw_below_drewN|apply below_drew1)|exact HB.out)) hb);have n1_:=Aside0.mk (hbox);have n2_:=Aside0.mk ((by rw [hg];exact (below_size (by repeat (first|(with_reducible first|exact HB.out|apply below_alloc|apply pw_below_drewN|apply below_drew1)|exact HB.out))):w.heap.size≤gb119));have n3_:=Aside0.mk ((by rw [hg];exact (below_size (by repeat (first|(with_reducible first|exact HB.out|apply below_alloc|apply pw_below_drewN|apply below_drew1)|exact HB.out))):w.heap.size≤gb119));clear HB;have HB:=n0_;have BK119:=n1_;have GW119:=n2_;have GE119:=n3_;clear n0_ n1_ n2_ n3_;clear hb hbox hg)|((with_reducible refine gate_dst (N:=2) rfl ?_);refine box_event ?hg (N:=2) ?hd (cs:=#[.int .i64 0,.slice none 0 0]) (t:=30) ?hr ?_;(case hd=>rfl);(case hg=>rfl);(case hr=>first|(go_simp;done)|(go_simp;rfl));intro gb120 hg w4 hbox hb;have n0_:=Aside0.mk (blk_below (g:=gb119) (o:=.cells #[.int .i64 a0_0,.slice A0_1 l0_1.length c0_1] 25 (0,0)) (by (with_reducible repeat (first|refine blk_drewN ?_ _|refine blk_drew ?_|refine blk_alloc ?_ _));exact BK119.out) hb);have n1_:=Aside0.mk (below_step (by repeat (first|(with_reducible first|exact HB.out|apply below_alloc|apply pw_below_drewN|apply below_drew1|refine below_set ?_ GE119.out)|exact HB.out)) hb);have n2_:=Aside0.mk (hbox);have n3_:=Aside0.mk ((by rw [hg];exact (below_size (by repeat (first|(with_reducible first|exact HB.out|apply below_alloc|apply pw_below_drewN|apply below_drew1|refine below_set ?_ GE119.out)|exact HB.out))):w.heap.size≤gb120));have n4_:=Aside0.mk ((by rw [hg];exact (below_size (by repeat (first|(with_reducible first|exact HB.out|apply below_alloc|apply pw_below_drewN|apply below_drew1|refine below_set ?_ GE119.out)|exact HB.out))):w.heap.size≤gb120));have n5_:=Aside0.mk ((by rw [hg];exact Nat.ne_of_lt (blk_lt (g:=gb119) (o:=.cells #[.int .i64 a0_0,.slice A0_1 l0_1.length c0_1] 25 (0,0)) (by (with_reducible repeat (first|refine blk_drewN ?_ _|refine blk_drew ?_|refine blk_alloc ?_ _));exact BK119.out)):gb119 ≠ gb120));have n6_:=Aside0.mk ((by rw [hg];exact Nat.ne_of_gt (blk_lt (g:=gb119) (o:=.cells #[.int .i64 a0_0,.slice A0_1 l0_1.length c0_1] 25 (0,0)) (by (with_reducible repeat (first|refine blk_drewN ?_ _|refine blk_drew ?_|refine blk_alloc ?_ _));exact BK119.out)):gb120 ≠ gb119));clear BK119;clear HB;have BK119:=n0_;have HB:=n1_;have BK120:=n2_;have GW120:=n3_;have GE120:=n4_;have NB119_120:=n5_;have NB120_119:=n6_;clear n0_ n1_ n2_ n3_ n4_ n5_ n6_;clear hb hbox hg)|((with_reducible refine gate_dst (N:=3) rfl ?_);refine box_event ?hg (N:=3) ?hd (cs:=#[.int .i64 0,.slice none 0 0]) (t:=30) ?hr ?_;(case hd=>rfl);(case hg=>rfl);(case hr=>first|(go_simp;done)|(go_simp;rfl));intro gb121 hg w5 hbox hb;have n0_:=Aside0.mk (blk_below (g:=gb119) (o:=.cells #[.int .i64 a0_0,.slice A0_1 l0_1.length c0_1] 25 (0,0)) (by (with_reducible repeat (first|refine blk_drewN ?_ _|refine blk_drew ?_|refine blk_alloc ?_ _));exact BK119.out) hb);have n1_:=Aside0.mk (blk_below (g:=gb120) (o:=.cells #[.int .i64 0,.slice none 0 0] 30 (0,0)) (by (with_reducible repeat (first|refine blk_drewN ?_ _|refine blk_drew ?_|refine blk_alloc ?_ _));exact BK120.out) hb);have n2_:=Aside0.mk (below_step (by repeat (first|(with_reducible first|exact HB.out|apply below_alloc|apply pw_below_drewN|apply below_drew1|refine below_set ?_ GE119.out|refine below_set ?_ GE120.out)|exact HB.out)) hb);have n3_:=Aside0.mk (hbox);have n4_:=Aside0.mk ((by rw [hg];exact (below_size (by repeat (first|(with_reducible first|exact HB.out|apply below_alloc|apply pw_below_drewN|apply below_drew1|refine below_set ?_ GE119.out|refine below_set ?_ GE120.out)|exact HB.out))):w.heap.size≤gb121));have n5_:=Aside0.mk ((by rw [hg];exact (below_size (by repeat (first|(with_reducible first|exact HB.out|apply below_alloc|apply pw_below_drewN|apply below_drew1|refine below_set ?_ GE119.out|refine below_set ?_ GE120.out)|exact HB.out))):w.heap.size≤gb121));have n6_:=Aside0.mk ((by rw [hg];exact Nat.ne_of_lt (blk_lt (g:=gb119) (o:=.cells #[.int .i64 a0_0,.slice A0_1 l0_1.length c0_1] 25 (0,0)) (by (with_reducible repeat (first|refine blk_drewN ?_ _|refine blk_drew ?_|refine blk_alloc ?_ _));exact BK119.out)):gb119 ≠ gb121));have n7_:=Aside0.mk ((by rw [hg];exact Nat.ne_of_gt (blk_lt (g:=gb119) (o:=.cells #[.int .i64 a0_0,.slice A0_1 l0_1.length c0_1] 25 (0,0)) (by (with_reducible repeat (first|refine blk_drewN ?_ _|refine blk_drew ?_|refine blk_alloc ?_ _));exact BK119.out)):gb121 ≠ gb119));have n8_:=Aside0.mk ((by rw [hg];exact Nat.ne_of_lt (blk_lt (g:=gb120) (o:=.cells #[.int .i64 0,.slice none 0 0] 30 (0,0)) (by (with_reducible repeat (first|refine blk_drewN ?_ _|refine blk_drew ?_|refine blk_alloc ?_ _));exact BK120.out)):gb120 ≠ gb121));have n9_:=Aside0.mk ((by rw [hg];exact Nat.ne_of_gt (blk_lt (g:=gb120) (o:=.cells #[.int .i64 0,.slice none 0 0] 30 (0,0)) (by (with_reducible repeat (first|refine blk_drewN ?_ _|refine blk_drew ?_|refine blk_alloc ?_ _));exact BK120.out)):gb121 ≠ gb120));clear BK119;clear BK120;clear HB;have BK119:=n0_;have BK120:=n1_;have HB:=n2_;have BK121:=n3_;have GW121:=n4_;have GE121:=n5_;have NB119_121:=n6_;have NB121_119:=n7_;have NB120_121:=n8_;have NB121_120:=n9_;clear n0_ n1_ n2_ n3_ n4_ n5_ n6_ n7_ n8_ n9_;clear hb hbox hg;have hnb6:=NB119_120.out;have hnc6:=NB120_119.out;have hnb7:=NB119_121.out;have hnc7:=NB121_119.out;have hcz8_0:w5.cell? ⟨gb119,0,none⟩=some (.int .i64 a0_0):=(blk_cell BK119.out 0).trans rfl;have hcz8_1:w5.cell? ⟨gb119,1,none⟩=some (.slice A0_1 l0_1.length c0_1):=(blk_cell BK119.out 1).trans rfl;have hfz8_0:=blk_frozen BK119.out 0;have hfz8_1:=blk_frozen BK119.out 1;have hnb9:=NB121_120.out;have hnc9:=NB120_121.out;have hcz10_0:w5.cell? ⟨gb121,0,none⟩=some (.int .i64 0):=(blk_cell BK121.out 0).trans rfl;have hcz10_1:w5.cell? ⟨gb121,1,none⟩=some (.slice none 0 0):=(blk_cell BK121.out 1).trans rfl;have hfz10_0:=blk_frozen BK121.out 0;have hfz10_1:=blk_frozen BK121.out 1)|((with_reducible refine gate_callee (f:=88) rfl ?_);refine goesL_ (some 9) rfl rfl Try.func88 (by kernel_rfl) rfl #[.slice A0_1 l0_1.length c0_1] rfl (by (try simp only [List.map_toArray,List.map_cons,List.map_nil]);first|done|rfl|(simp only [List.length_drop,List.length_take];rfl)) ?_;(with_reducible refine (laws_toCounterS.calls k _ _ l0_1 t122 _ ?side1 ?side2 A2.out).mono ?_);(case side1=>exact Kd.C_below HR0_1.out (by repeat (first|(with_reducible first|exact HB.out|apply below_alloc|apply pw_below_drewN|apply below_drew1|refine below_set ?_ GE119.out|refine below_set ?_ GE120.out|refine below_set ?_ GE121.out)|exact HB.out)));(case side2=>exact HC0_1.out);rintro e w11 ⟨v123,rfl,ho0,hb⟩;refine ⟨_,rfl,?_⟩;have n0_:=Aside0.mk (Kd.R_lower ho0 (below_size (by repeat (first|(with_reducible first|exact HB.out|apply below_alloc|apply pw_below_drewN|apply below_drew1|refine below_set ?_ GE119.out|refine below_set ?_ GE120.out|refine below_set ?_ GE121.out)|exact HB.out))));have n1_:=Aside0.mk (blk_below (g:=gb119) (o:=.cells #[.int .i64 a0_0,.slice A0_1 l0_1.length c0_1] 25 (0,0)) (by (with_reducible repeat (first|refine blk_drewN ?_ _|refine blk_drew ?_|refine blk_alloc ?_ _));refine blk_far ?_ NB119_121.out _;(with_reducible repeat (first|refine blk_drewN ?_ _|refine blk_drew ?_|refine blk_alloc ?_ _));exact BK119.out) hb);have n2_:=Aside0.mk (blk_below (g:=gb120) (o:=.cells #[.int .i64 0,.slice none 0 0] 30 (0,0)) (by (with_reducible repeat (first|refine blk_drewN ?_ _|refine blk_drew ?_|refine blk_alloc ?_ _));refine blk_far ?_ NB120_121.out _;(with_reducible repeat (first|refine blk_drewN ?_ _|refine blk_drew ?_|refine blk_alloc ?_ _));exact BK120.out) hb);have n3_:=Aside0.mk (blk_below (g:=gb121) (o:=.cells #[.int .i64 a0_0,.slice none 0 0] 30 (0,0)) (by (with_reducible repeat (first|refine blk_drewN ?_ _|refine blk_drew ?_|refine blk_alloc ?_ _));refine blk_put (cs:=#[.int .i64 0,.slice none 0 0]) ?_ 0 _ rfl;(with_reducible repeat (first|refine blk_drewN ?_ _|refine blk_drew ?_|refine blk_alloc ?_ _));exact BK121.out) hb);have n4_:=Aside0.mk (below_step (by repeat (first|(with_reducible first|exact HB.out|apply below_alloc|apply pw_below_drewN|apply below_drew1|refine below_set ?_ GE119.out|refine below_set ?_ GE120.out|refine below_set ?_ GE121.out)|exact HB.out)) hb);clear BK119;clear BK120;clear BK121;clear HB;have HO124:=n0_;have BK119:=n1_;have BK120:=n2_;have BK121:=n3_;have HB:=n4_;clear n0_ n1_ n2_ n3_ n4_;(try clear hb);(try clear hb2);(try clear hk);(try clear hi);(try clear ho0);obtain ⟨Ao12,co12,eo12⟩:=Kd.R_slice HO124.out;subst eo12;have hcz13_0:w11.cell? ⟨gb121,0,none⟩=some (.int .i64 a0_0):=(blk_cell BK121.out 0).trans rfl;have hcz13_1:w11.cell? ⟨gb121,1,none⟩=some (.slice none 0 0):=(blk_cell BK121.out 1).trans rfl;have hfz13_0:=blk_frozen BK121.out 0;have hfz13_1:=blk_frozen BK121.out 1;have hcz14_0:w11.cell? ⟨gb120,0,none⟩=some (.int .i64 0):=(blk_cell BK120.out 0).trans rfl;have hcz14_1:w11.cell? ⟨gb120,1,none⟩=some (.slice none 0 0):=(blk_cell BK120.out 1).trans rfl;have hfz14_0:=blk_frozen BK120.out 0;have hfz14_1:=blk_frozen BK120.out 1))
 refine bodyPost_ret (results_cell_row rfl _ _ gb120 30 #[.int .i64 a0_0,.slice Ao12 t122.length co12] (0,0) _ rfl (by (with_reducible repeat (first|refine blk_drewN ?_ _|refine blk_drew ?_|refine blk_alloc ?_ _));refine blk_put (cs:=#[.int .i64 a0_0,.slice none 0 0]) ?_ 1 _ rfl;(with_reducible repeat (first|refine blk_drewN ?_ _|refine blk_drew ?_|refine blk_alloc ?_ _));refine blk_put (cs:=#[.int .i64 0,.slice none 0 0]) ?_ 0 _ rfl;(with_reducible repeat (first|refine blk_drewN ?_ _|refine blk_drew ?_|refine blk_alloc ?_ _));refine blk_far ?_ NB120_121.out _;(with_reducible repeat (first|refine blk_drewN ?_ _|refine blk_drew ?_|refine blk_alloc ?_ _));exact BK120.out) Try.underlying30 rfl (by kernel_rfl)) rfl ?_
 exact ⟨_,by first|rfl|(simp [errW_none,errW_some] <;> rfl)|(simp [*,errW_none,errW_some] <;> rfl),by (with_reducible repeat (first|apply Kd.R_alloc|apply Kd.R_drewN|apply Kd.R_drew));exact Kd.R_mono (Kd.R_far (p:=⟨gb120,1,none⟩) (Kd.R_far (p:=⟨gb120,0,none⟩) (Kd.R_far (p:=⟨gb121,1,none⟩) (Kd.R_types (Kd.R_types HO124.out BK121.out (by decide)) BK120.out (by decide)) (fun _ hk=>hk.1.2) (.slice Ao12 t122.length co12)) (fun _ hk=>hk.2) (.int .i64 a0_0)) (fun _ hk=>hk.2) (.slice Ao12 t122.length co12)) (fun _ hk=>trivial),by repeat (first|(with_reducible first|exact HB.out|apply below_alloc|apply pw_below_drewN|apply below_drew1|refine below_set ?_ GE119.out|refine below_set ?_ GE120.out|refine below_set ?_ GE121.out)|exact HB.out)⟩
end Go.Proofs.Ytpdnabhpkdchjaa.P
namespace Go.Proofs.Ytpdnabhpkdchjaa.P
open Go.RowKit Go.Proofs.YtpdnabhpkdchjaaW.PrintWords Go.Proofs.YtpdnabhpkdchjaaW.PrintLast Go.Proofs.YtpdnabhpkdchjaaW.PrintMore
attribute [local go_sem] max2_int min2_int max_two min_two max_three min_three max_four min_four
set_option linter.unusedVariables false
set_option linter.unusedSimpArgs false
def laws_eqCounter.f (a0_0:Int) (a0_1:Int) (a1_0:Int) (a1_1:Int):Option (Bool):=if a0_0=a1_0 then (if a0_1=a1_1 then (some true) else (some false)) else (some false)
set_option maxHeartbeats 8000000 in
set_option maxRecDepth 100000 in
theorem laws_eqCounter.calls (a0_0:Int) (a0_1:Int) (a1_0:Int) (a1_1:Int) (r:Bool) (w:World) (h:laws_eqCounter.f a0_0 a0_1 a1_0 a1_1=some r) :
  Calls Try.prog 129 #[.agg #[.int .i64 a0_0,.int .i64 a0_1],.agg #[.int .i64 a1_0,.int .i64 a1_1]] w fun e w'=>e=.returned (.bool r)∧Below w.heap.size w w':=by
 have hu88:=Try.underlying88
 have HB:=Aside0.mk (Below.refl w.heap.size w)
 have H:(if a0_0=a1_0 then (if a0_1=a1_1 then (some true) else (some false)) else (some false))=some r:=h
 clear h
 by_cases c3:a0_0=a1_0
 ·rw [if_pos c3] at H
  have c3b0:(a0_0==a1_0)=true:=beq_iff_eq.mpr c3
  have c3b1:(a0_0 != a1_0)=false:=bne_eq_false_iff_eq.mpr c3
  clear c3
  by_cases c4:a0_1=a1_1
  ·rw [if_pos c4] at H
   have c4b0:(a0_1==a1_1)=true:=beq_iff_eq.mpr c4
   have c4b1:(a0_1 != a1_1)=false:=bne_eq_false_iff_eq.mpr c4
   clear c4
   obtain rfl:=Option.some.inj H
   go_enter Try.func129,Try.ntmps129
   go_wp2_with (first|((with_reducible refine gate_dst (N:=2) rfl ?_);refine box_event ?hg (N:=2) ?hd (cs:=#[.int .i64 a0_0,.int .i64 a0_1]) (t:=88) ?hr ?_;(case hd=>rfl);(case hg=>rfl);(case hr=>first|(go_simp;done)|(go_simp;rfl));intro gb126 hg w5 hbox hb;have n0_:=Aside0.mk (below_step (by repeat (first|(with_reducible first|exact HB.out|apply below_alloc|apply pw_below_drewN|apply below_drew1)|exact HB.out)) hb);have n1_:=Aside0.mk (hbox);have n2_:=Aside0.mk ((by rw [hg];exact (below_size (by repeat (first|(with_reducible first|exact HB.out|apply below_alloc|apply pw_below_drewN|apply below_drew1)|exact HB.out))):w.heap.size≤gb126));have n3_:=Aside0.mk ((by rw [hg];exact (below_size (by repeat (first|(with_reducible first|exact HB.out|apply below_alloc|apply pw_below_drewN|apply below_drew1)|exact HB.out))):w.heap.size≤gb126));clear HB;have HB:=n0_;have BK126:=n1_;have GW126:=n2_;have GE126:=n3_;clear n0_ n1_ n2_ n3_;clear hb hbox hg)|((with_reducible refine gate_dst (N:=3) rfl ?_);refine box_event ?hg (N:=3) ?hd (cs:=#[.int .i64 a1_0,.int .i64 a1_1]) (t:=88) ?hr ?_;(case hd=>rfl);(case hg=>rfl);(case hr=>first|(go_simp;done)|(go_simp;rfl));intro gb127 hg w6 hbox hb;have n0_:=Aside0.mk (blk_below (g:=gb126) (o:=.cells #[.int .i64 a0_0,.int .i64 a0_1] 88 (0,0)) (by (with_reducible repeat (first|refine blk_drewN ?_ _|refine blk_drew ?_|refine blk_alloc ?_ _));exact BK126.out) hb);have n1_:=Aside0.mk (below_step (by repeat (first|(with_reducible first|exact HB.out|apply below_alloc|apply pw_below_drewN|apply below_drew1|refine below_set ?_ GE126.out)|exact HB.out)) hb);have n2_:=Aside0.mk (hbox);have n3_:=Aside0.mk ((by rw [hg];exact (below_size (by repeat (first|(with_reducible first|exact HB.out|apply below_alloc|apply pw_below_drewN|apply below_drew1|refine below_set ?_ GE126.out)|exact HB.out))):w.heap.size≤gb127));have n4_:=Aside0.mk ((by rw [hg];exact (below_size (by repeat (first|(with_reducible first|exact HB.out|apply below_alloc|apply pw_below_drewN|apply below_drew1|refine below_set ?_ GE126.out)|exact HB.out))):w.heap.size≤gb127));have n5_:=Aside0.mk ((by rw [hg];exact Nat.ne_of_lt (blk_lt (g:=gb126) (o:=.cells #[.int .i64 a0_0,.int .i64 a0_1] 88 (0,0)) (by (with_reducible repeat (first|refine blk_drewN ?_ _|refine blk_drew ?_|refine blk_alloc ?_ _));exact BK126.out)):gb126 ≠ gb127));have n6_:=Aside0.mk ((by rw [hg];exact Nat.ne_of_gt (blk_lt (g:=gb126) (o:=.cells #[.int .i64 a0_0,.int .i64 a0_1] 88 (0,0)) (by (with_reducible repeat (first|refine blk_drewN ?_ _|refine blk_drew ?_|refine blk_alloc ?_ _));exact BK126.out)):gb127 ≠ gb126));clear BK126;clear HB;have BK126:=n0_;have HB:=n1_;have BK127:=n2_;have GW127:=n3_;have GE127:=n4_;have NB126_127:=n5_;have NB127_126:=n6_;clear n0_ n1_ n2_ n3_ n4_ n5_ n6_;clear hb hbox hg;have hnb7:=NB126_127.out;have hnc7:=NB127_126.out;have hcz8_0:w6.cell? ⟨gb126,0,none⟩=some (.int .i64 a0_0):=(blk_cell BK126.out 0).trans rfl;have hcz8_1:w6.cell? ⟨gb126,1,none⟩=some (.int .i64 a0_1):=(blk_cell BK126.out 1).trans rfl;have hfz8_0:=blk_frozen BK126.out 0;have hfz8_1:=blk_frozen BK126.out 1;have hcz9_0:w6.cell? ⟨gb127,0,none⟩=some (.int .i64 a1_0):=(blk_cell BK127.out 0).trans rfl;have hcz9_1:w6.cell? ⟨gb127,1,none⟩=some (.int .i64 a1_1):=(blk_cell BK127.out 1).trans rfl;have hfz9_0:=blk_frozen BK127.out 0;have hfz9_1:=blk_frozen BK127.out 1))
   go_ret
   exact ⟨by first|rfl|(simp [errW_none,errW_some] <;> rfl)|(simp [*,errW_none,errW_some] <;> rfl),by repeat (first|(with_reducible first|exact HB.out|apply below_alloc|apply pw_below_drewN|apply below_drew1|refine below_set ?_ GE126.out|refine below_set ?_ GE127.out)|exact HB.out)⟩
  rw [if_neg c4] at H
  have c4b0:(a0_1==a1_1)=false:=beq_eq_false_iff_ne.mpr c4
  have c4b1:(a0_1 != a1_1)=true:=bne_iff_ne.mpr c4
  obtain rfl:=Option.some.inj H
  go_enter Try.func129,Try.ntmps129
  go_wp2_with (first|((with_reducible refine gate_dst (N:=2) rfl ?_);refine box_event ?hg (N:=2) ?hd (cs:=#[.int .i64 a0_0,.int .i64 a0_1]) (t:=88) ?hr ?_;(case hd=>rfl);(case hg=>rfl);(case hr=>first|(go_simp;done)|(go_simp;rfl));intro gb126 hg w10 hbox hb;have n0_:=Aside0.mk (below_step (by repeat (first|(with_reducible first|exact HB.out|apply below_alloc|apply pw_below_drewN|apply below_drew1)|exact HB.out)) hb);have n1_:=Aside0.mk (hbox);have n2_:=Aside0.mk ((by rw [hg];exact (below_size (by repeat (first|(with_reducible first|exact HB.out|apply below_alloc|apply pw_below_drewN|apply below_drew1)|exact HB.out))):w.heap.size≤gb126));have n3_:=Aside0.mk ((by rw [hg];exact (below_size (by repeat (first|(with_reducible first|exact HB.out|apply below_alloc|apply pw_below_drewN|apply below_drew1)|exact HB.out))):w.heap.size≤gb126));clear HB;have HB:=n0_;have BK126:=n1_;have GW126:=n2_;have GE126:=n3_;clear n0_ n1_ n2_ n3_;clear hb hbox hg)|((with_reducible refine gate_dst (N:=3) rfl ?_);refine box_event ?hg (N:=3) ?hd (cs:=#[.int .i64 a1_0,.int .i64 a1_1]) (t:=88) ?hr ?_;(case hd=>rfl);(case hg=>rfl);(case hr=>first|(go_simp;done)|(go_simp;rfl));intro gb127 hg w11 hbox hb;have n0_:=Aside0.mk (blk_below (g:=gb126) (o:=.cells #[.int .i64 a0_0,.int .i64 a0_1] 88 (0,0)) (by (with_reducible repeat (first|refine blk_drewN ?_ _|refine blk_drew ?_|refine blk_alloc ?_ _));exact BK126.out) hb);have n1_:=Aside0.mk (below_step (by repeat (first|(with_reducible first|exact HB.out|apply below_alloc|apply pw_below_drewN|apply below_drew1|refine below_set ?_ GE126.out)|exact HB.out)) hb);have n2_:=Aside0.mk (hbox);have n3_:=Aside0.mk ((by rw [hg];exact (below_size (by repeat (first|(with_reducible first|exact HB.out|apply below_alloc|apply pw_below_drewN|apply below_drew1|refine below_set ?_ GE126.out)|exact HB.out))):w.heap.size≤gb127));have n4_:=Aside0.mk ((by rw [hg];exact (below_size (by repeat (first|(with_reducible first|exact HB.out|apply below_alloc|apply pw_below_drewN|apply below_drew1|refine below_set ?_ GE126.out)|exact HB.out))):w.heap.size≤gb127));have n5_:=Aside0.mk ((by rw [hg];exact Nat.ne_of_lt (blk_lt (g:=gb126) (o:=.cells #[.int .i64 a0_0,.int .i64 a0_1] 88 (0,0)) (by (with_reducible repeat (first|refine blk_drewN ?_ _|refine blk_drew ?_|refine blk_alloc ?_ _));exact BK126.out)):gb126 ≠ gb127));have n6_:=Aside0.mk ((by rw [hg];exact Nat.ne_of_gt (blk_lt (g:=gb126) (o:=.cells #[.int .i64 a0_0,.int .i64 a0_1] 88 (0,0)) (by (with_reducible repeat (first|refine blk_drewN ?_ _|refine blk_drew ?_|refine blk_alloc ?_ _));exact BK126.out)):gb127 ≠ gb126));clear BK126;clear HB;have BK126:=n0_;have HB:=n1_;have BK127:=n2_;have GW127:=n3_;have GE127:=n4_;have NB126_127:=n5_;have NB127_126:=n6_;clear n0_ n1_ n2_ n3_ n4_ n5_ n6_;clear hb hbox hg;have hnb12:=NB126_127.out;have hnc12:=NB127_126.out;have hcz13_0:w11.cell? ⟨gb126,0,none⟩=some (.int .i64 a0_0):=(blk_cell BK126.out 0).trans rfl;have hcz13_1:w11.cell? ⟨gb126,1,none⟩=some (.int .i64 a0_1):=(blk_cell BK126.out 1).trans rfl;have hfz13_0:=blk_frozen BK126.out 0;have hfz13_1:=blk_frozen BK126.out 1;have hcz14_0:w11.cell? ⟨gb127,0,none⟩=some (.int .i64 a1_0):=(blk_cell BK127.out 0).trans rfl;have hcz14_1:w11.cell? ⟨gb127,1,none⟩=some (.int .i64 a1_1):=(blk_cell BK127.out 1).trans rfl;have hfz14_0:=blk_frozen BK127.out 0;have hfz14_1:=blk_frozen BK127.out 1))
  go_ret
  exact ⟨by first|rfl|(simp [errW_none,errW_some] <;> rfl)|(simp [*,errW_none,errW_some] <;> rfl),by repeat (first|(with_reducible first|exact HB.out|apply below_alloc|apply pw_below_drewN|apply below_drew1|refine below_set ?_ GE126.out|refine below_set ?_ GE127.out)|exact HB.out)⟩
 rw [if_neg c3] at H
 have c3b0:(a0_0==a1_0)=false:=beq_eq_false_iff_ne.mpr c3
 have c3b1:(a0_0 != a1_0)=true:=bne_iff_ne.mpr c3
 obtain rfl:=Option.some.inj H
 go_enter Try.func129,Try.ntmps129
 go_wp2_with (first|((with_reducible refine gate_dst (N:=2) rfl ?_);refine box_event ?hg (N:=2) ?hd (cs:=#[.int .i64 a0_0,.int .i64 a0_1]) (t:=88) ?hr ?_;(case hd=>rfl);(case hg=>rfl);(case hr=>first|(go_simp;done)|(go_simp;rfl));intro gb126 hg w15 hbox hb;have n0_:=Aside0.mk (below_step (by repeat (first|(with_reducible first|exact HB.out|apply below_alloc|apply pw_below_drewN|apply below_drew1)|exact HB.out)) hb);have n1_:=Aside0.mk (hbox);have n2_:=Aside0.mk ((by rw [hg];exact (below_size (by repeat (first|(with_reducible first|exact HB.out|apply below_alloc|apply pw_below_drewN|apply below_drew1)|exact HB.out))):w.heap.size≤gb126));have n3_:=Aside0.mk ((by rw [hg];exact (below_size (by repeat (first|(with_reducible first|exact HB.out|apply below_alloc|apply pw_below_drewN|apply below_drew1)|exact HB.out))):w.heap.size≤gb126));clear HB;have HB:=n0_;have BK126:=n1_;have GW126:=n2_;have GE126:=n3_;clear n0_ n1_ n2_ n3_;clear hb hbox hg)|((with_reducible refine gate_dst (N:=3) rfl ?_);refine box_event ?hg (N:=3) ?hd (cs:=#[.int .i64 a1_0,.int .i64 a1_1]) (t:=88) ?hr ?_;(case hd=>rfl);(case hg=>rfl);(case hr=>first|(go_simp;done)|(go_simp;rfl));intro gb127 hg w16 hbox hb;have n0_:=Aside0.mk (blk_below (g:=gb126) (o:=.cells #[.int .i64 a0_0,.int .i64 a0_1] 88 (0,0)) (by (with_reducible repeat (first|refine blk_drewN ?_ _|refine blk_drew ?_|refine blk_alloc ?_ _));exact BK126.out) hb);have n1_:=Aside0.mk (below_step (by repeat (first|(with_reducible first|exact HB.out|apply below_alloc|apply pw_below_drewN|apply below_drew1|refine below_set ?_ GE126.out)|exact HB.out)) hb);have n2_:=Aside0.mk (hbox);have n3_:=Aside0.mk ((by rw [hg];exact (below_size (by repeat (first|(with_reducible first|exact HB.out|apply below_alloc|apply pw_below_drewN|apply below_drew1|refine below_set ?_ GE126.out)|exact HB.out))):w.heap.size≤gb127));have n4_:=Aside0.mk ((by rw [hg];exact (below_size (by repeat (first|(with_reducible first|exact HB.out|apply below_alloc|apply pw_below_drewN|apply below_drew1|refine below_set ?_ GE126.out)|exact HB.out))):w.heap.size≤gb127));have n5_:=Aside0.mk ((by rw [hg];exact Nat.ne_of_lt (blk_lt (g:=gb126) (o:=.cells #[.int .i64 a0_0,.int .i64 a0_1] 88 (0,0)) (by (with_reducible repeat (first|refine blk_drewN ?_ _|refine blk_drew ?_|refine blk_alloc ?_ _));exact BK126.out)):gb126 ≠ gb127));have n6_:=Aside0.mk ((by rw [hg];exact Nat.ne_of_gt (blk_lt (g:=gb126) (o:=.cells #[.int .i64 a0_0,.int .i64 a0_1] 88 (0,0)) (by (with_reducible repeat (first|refine blk_drewN ?_ _|refine blk_drew ?_|refine blk_alloc ?_ _));exact BK126.out)):gb127 ≠ gb126));clear BK126;clear HB;have BK126:=n0_;have HB:=n1_;have BK127:=n2_;have GW127:=n3_;have GE127:=n4_;have NB126_127:=n5_;have NB127_126:=n6_;clear n0_ n1_ n2_ n3_ n4_ n5_ n6_;clear hb hbox hg;have hnb17:=NB126_127.out;have hnc17:=NB127_126.out;have hcz18_0:w16.cell? ⟨gb126,0,none⟩=some (.int .i64 a0_0):=(blk_cell BK126.out 0).trans rfl;have hcz18_1:w16.cell? ⟨gb126,1,none⟩=some (.int .i64 a0_1):=(blk_cell BK126.out 1).trans rfl;have hfz18_0:=blk_frozen BK126.out 0;have hfz18_1:=blk_frozen BK126.out 1;have hcz19_0:w16.cell? ⟨gb127,0,none⟩=some (.int .i64 a1_0):=(blk_cell BK127.out 0).trans rfl;have hcz19_1:w16.cell? ⟨gb127,1,none⟩=some (.int .i64 a1_1):=(blk_cell BK127.out 1).trans rfl;have hfz19_0:=blk_frozen BK127.out 0;have hfz19_1:=blk_frozen BK127.out 1))
 go_ret
 exact ⟨by first|rfl|(simp [errW_none,errW_some] <;> rfl)|(simp [*,errW_none,errW_some] <;> rfl),by repeat (first|(with_reducible first|exact HB.out|apply below_alloc|apply pw_below_drewN|apply below_drew1|refine below_set ?_ GE126.out|refine below_set ?_ GE127.out)|exact HB.out)⟩
end Go.Proofs.Ytpdnabhpkdchjaa.P
namespace Go.Proofs.Ytpdnabhpkdchjaa.P
open Go.RowKit Go.Proofs.YtpdnabhpkdchjaaW.PrintWords Go.Proofs.YtpdnabhpkdchjaaW.PrintLast Go.Proofs.YtpdnabhpkdchjaaW.PrintMore
attribute [local go_sem] max2_int min2_int max_two min_two max_three min_three max_four min_four
set_option linter.unusedVariables false
set_option linter.unusedSimpArgs false
def laws_eqCounterS.l0:Nat→List (S88)→List (S88)→Int→Option (Bool)
 | 0,_,_,_=>none
 | k+1,x0,x1,x5=>if x5<(x0.length:Int) then (if 0≤x5 then (if x5<(x1.length:Int) then ((laws_eqCounter.f ((rd_T88 x0 x5).f0) ((rd_T88 x0 x5).f1) ((rd_T88 x1 x5).f0) ((rd_T88 x1 x5).f1)).bind fun t130=>(if t130=true then (laws_eqCounterS.l0 k x0 x1 (wrap64 (x5+1))) else (some false))) else (none)) else (none)) else (some true)
def laws_eqCounterS.f (k:Nat) (l0:List (S88)) (l1:List (S88)):Option (Bool):=if (l0.length:Int)=(l1.length:Int) then (laws_eqCounterS.l0 k l0 l1 0) else (some false)
def laws_eqCounterS.T6:Bool × List (List Nat × List Nat):=(true,[([],[]),([],[]),([0,1],[0,1]),([2],[2]),([],[]),([],[]),([4,5],[4,5]),([6],[6]),([3,7],[3,7]),([8],[8])])
def laws_eqCounterS.B6:List Nat:=[0,0,3,7,0,0,48,112,255,511]
theorem laws_eqCounterS.tab6:rtab .any (opsOf Try.f90 6)=laws_eqCounterS.T6:=by kernel_rfl
theorem laws_eqCounterS.bits6:waitsOk laws_eqCounterS.T6.2 laws_eqCounterS.B6=true:=by kernel_rfl
set_option maxHeartbeats 8000000 in
set_option maxRecDepth 100000 in
theorem laws_eqCounterS.calls (k:Nat) (A0:Option Addr) (c0:Nat) (l0:List (S88)) (A1:Option Addr) (c1:Nat) (l1:List (S88)) (r:Bool) (w:World) (hr0:Kd.C k88 w A0 l0.length l0) (hc0:l0.length≤c0) (hr1:Kd.C k88 w A1 l1.length l1) (hc1:l1.length≤c1) (h:laws_eqCounterS.f k l0 l1=some r) :
  Calls Try.prog 90 #[.slice A0 l0.length c0,.slice A1 l1.length c1] w fun e w'=>e=.returned (.bool r)∧Below w.heap.size w w':=by
 have hu88:=Try.underlying88
 have HR0:=Aside0.mk hr0
 have HC0:=Aside0.mk hc0
 clear hr0 hc0
 have HR1:=Aside0.mk hr1
 have HC1:=Aside0.mk hc1
 clear hr1 hc1
 have HB:=Aside0.mk (Below.refl w.heap.size w)
 have H:(if (l0.length:Int)=(l1.length:Int) then (laws_eqCounterS.l0 k l0 l1 0) else (some false))=some r:=h
 clear h
 by_cases c3:(l0.length:Int)=(l1.length:Int)
 ·rw [if_pos c3] at H
  have c3b0:((l0.length:Int)==(l1.length:Int))=true:=beq_iff_eq.mpr c3
  have c3b1:((l0.length:Int) != (l1.length:Int))=false:=bne_eq_false_iff_eq.mpr c3
  have c3b2:(l0.length==l1.length)=true:=by first|simpa using c3|(simp at c3 ⊢;omega)
  clear c3
  have H':=Aside0.mk H
  clear H
  go_enter Try.func90,Try.ntmps90
  go_wp2
  go_loopg [5] k (fun kq v5 w'=>∃ (x5_1:Int),v5=.int .i64 x5_1∧Aside0 (laws_eqCounterS.l0 kq l0 l1 x5_1=some r)∧Aside0 (kq≤k)∧Aside0 (Below w.heap.size w w'))
  case atStart=>exact ⟨(0),(by first|rfl|(simp;done)|(simp [*];done)),H',⟨Nat.le_refl _⟩,⟨by exact HB.out⟩⟩
  case round =>
   clear H'
   try clear c1
   try clear p2
   try clear c3
   try clear c3b0
   try clear c3b1
   try clear c3b2
   obtain ⟨x5_1,rfl,HA,HK1,HB⟩:=hrel
   cases gk with
   | zero=>exact absurd HA.out (by simp [laws_eqCounterS.l0])
   | succ k1 =>
    have H:=HA.out
    clear HA
    simp only [laws_eqCounterS.l0] at H
    by_cases c4:x5_1<(l0.length:Int)
    ·rw [if_pos c4] at H
     have c4b0:decide (x5_1<(l0.length:Int))=true:=decide_eq_true c4
     clear c4
     by_cases c5:0≤x5_1
     ·rw [if_pos c5] at H
      have c5b0:decide (0≤x5_1)=true:=decide_eq_true c5
      clear c5
      by_cases c6:x5_1<(l1.length:Int)
      ·rw [if_pos c6] at H
       have c6b0:decide (x5_1<(l1.length:Int))=true:=decide_eq_true c6
       clear c6
       replace H:=Option.bind_eq_some_iff.mp H
       obtain ⟨t130,A70,H⟩:=H
       replace H:(if t130=true then (laws_eqCounterS.l0 k1 l0 l1 (wrap64 (x5_1+1))) else (some false))=some r:=H
       have A7:=Aside0.mk A70
       clear A70
       by_cases c8:t130=true
       ·subst c8
        have H1:(laws_eqCounterS.l0 k1 l0 l1 (wrap64 (x5_1+1)))=some r:=by rw [if_pos rfl] at H;exact H
        clear H
        have H:=H1
        clear H1
        have H':=Aside0.mk H
        clear H
        try go_wp2
        have n0_:=Aside0.mk (below_drew1 HB.out)
        clear HB
        have HB:=n0_
        clear n0_
        have p128:0≤(x5_1:Int):=of_decide_eq_true (by first|(with_reducible assumption)|assumption)
        have q128:x5_1<(l0.length:Int):=of_decide_eq_true (by first|(with_reducible assumption)|assumption)
        obtain ⟨ad128,e128,hx128_0,hx128_1⟩:=at_T88 HR0.out x5_1 p128 q128
        have hw128_1:=hx128_1
        have hw128_0:=hx128_0
        cases e128
        replace hx128_0:=(HB.out.cell (World.block_lt_of_cell? w _ hx128_0)).trans hx128_0
        replace hx128_1:=(HB.out.cell (World.block_lt_of_cell? w _ hx128_1)).trans hx128_1
        replace p128:=eq_true p128
        replace q128:=eq_true q128
        have p129:0≤(x5_1:Int):=of_decide_eq_true (by first|(with_reducible assumption)|assumption)
        have q129:x5_1<(l1.length:Int):=of_decide_eq_true (by first|(with_reducible assumption)|assumption)
        obtain ⟨ad129,e129,hx129_0,hx129_1⟩:=at_T88 HR1.out x5_1 p129 q129
        have hw129_1:=hx129_1
        have hw129_0:=hx129_0
        cases e129
        replace hx129_0:=(HB.out.cell (World.block_lt_of_cell? w _ hx129_0)).trans hx129_0
        replace hx129_1:=(HB.out.cell (World.block_lt_of_cell? w _ hx129_1)).trans hx129_1
        replace p129:=eq_true p129
        replace q129:=eq_true q129
        refine start_ (n:=10) (S:=fun w'=>w'.cell? (ad128.add ((x5_1).toNat * 2))=some (.int .i64 ((rd_T88 l0 x5_1).f0))∧w'.cell? ⟨(ad128.add ((x5_1).toNat * 2)).block,(ad128.add ((x5_1).toNat * 2)).off+1,none⟩=some (.int .i64 ((rd_T88 l0 x5_1).f1))∧w'.cell? (ad129.add ((x5_1).toNat * 2))=some (.int .i64 ((rd_T88 l1 x5_1).f0))∧w'.cell? ⟨(ad129.add ((x5_1).toNat * 2)).block,(ad129.add ((x5_1).toNat * 2)).off+1,none⟩=some (.int .i64 ((rd_T88 l1 x5_1).f1))) (ds:=[]) #[false,false,false,false,false,false,false,false,false,false] (by kernel_rfl) rfl rfl ⟨((HB.out.cell (World.block_lt_of_cell? w _ hw128_0)).trans hw128_0),((HB.out.cell (World.block_lt_of_cell? w _ hw128_1)).trans hw128_1),((HB.out.cell (World.block_lt_of_cell? w _ hw129_0)).trans hw129_0),((HB.out.cell (World.block_lt_of_cell? w _ hw129_1)).trans hw129_1)⟩ (fun hHeld=>?_);refine with_tabW laws_eqCounterS.tab6 laws_eqCounterS.bits6 (fun HT_ HW_=>?_)
        generalize wr.drew=w9 at HB hx128_0 hx128_1 hx129_0 hx129_1 hHeld ⊢
        refine pure_ (i:=0) (N:=some 17) (v:=?_) (a':=?_) #[true,false,false,false,false,false,false,false,false,false] rfl rfl (any_of HT_.out (by kernel_rfl)) (fun _ _ _ h=>h) (Or.inl ⟨by rfl,?_⟩) ?_ ?_
        rotate_left
        ·intro w'
         go_simp
         with_reducible rfl
        rotate_left
        ·simp only [Act.put,List.setIfInBounds_toArray,List.set_cons_zero,List.set_cons_succ,i64_w,i32_w]
         rfl
        refine pure_ (i:=1) (N:=some 18) (v:=?_) (a':=?_) #[true,true,false,false,false,false,false,false,false,false] rfl rfl (any_of HT_.out (by kernel_rfl)) (fun _ _ _ h=>h) (Or.inl ⟨by rfl,?_⟩) ?_ ?_
        rotate_left
        ·intro w'
         go_simp
         with_reducible rfl
        rotate_left
        ·simp only [Act.put,List.setIfInBounds_toArray,List.set_cons_zero,List.set_cons_succ,i64_w,i32_w]
         rfl
        refine pure_ (i:=2) (N:=some 19) (v:=?_) (a':=?_) #[true,true,true,false,false,false,false,false,false,false] rfl rfl (any_of HT_.out (by kernel_rfl)) (fun _ _ _ h=>h) (Or.inl ⟨by rfl,?_⟩) ?_ ?_
        rotate_left
        ·intro w'
         go_simp
         with_reducible rfl
        rotate_left
        ·simp only [Act.put,List.setIfInBounds_toArray,List.set_cons_zero,List.set_cons_succ,i64_w,i32_w]
         rfl
        refine pure_ (i:=4) (N:=some 21) (v:=?_) (a':=?_) #[true,true,true,false,true,false,false,false,false,false] rfl rfl (any_of HT_.out (by kernel_rfl)) (fun _ _ _ h=>h) (Or.inl ⟨by rfl,?_⟩) ?_ ?_
        rotate_left
        ·intro w'
         go_simp
         with_reducible rfl
        rotate_left
        ·simp only [Act.put,List.setIfInBounds_toArray,List.set_cons_zero,List.set_cons_succ,i64_w,i32_w]
         rfl
        refine pure_ (i:=5) (N:=some 22) (v:=?_) (a':=?_) #[true,true,true,false,true,true,false,false,false,false] rfl rfl (any_of HT_.out (by kernel_rfl)) (fun _ _ _ h=>h) (Or.inl ⟨by rfl,?_⟩) ?_ ?_
        rotate_left
        ·intro w'
         go_simp
         with_reducible rfl
        rotate_left
        ·simp only [Act.put,List.setIfInBounds_toArray,List.set_cons_zero,List.set_cons_succ,i64_w,i32_w]
         rfl
        refine pure_ (i:=6) (N:=some 23) (v:=?_) (a':=?_) #[true,true,true,false,true,true,true,false,false,false] rfl rfl (any_of HT_.out (by kernel_rfl)) (fun _ _ _ h=>h) (Or.inl ⟨by rfl,?_⟩) ?_ ?_
        rotate_left
        ·intro w'
         go_simp
         with_reducible rfl
        rotate_left
        ·simp only [Act.put,List.setIfInBounds_toArray,List.set_cons_zero,List.set_cons_succ,i64_w,i32_w]
         rfl
        refine take_ (i:=3) (N:=some 20) (v:=?_) (a':=?_) #[true,true,true,true,true,true,true,false,false,false] rfl rfl (take_ofW HT_.out HW_.out (by kernel_rfl)) (fun _ _ _ h=>h) (Or.inl ⟨by rfl,?_⟩) hHeld ?_ ?_
        rotate_left
        ·rintro w' ⟨s0,s1,s2,s3⟩
         go_simp
         with_reducible rfl
        rotate_left
        ·simp only [Act.put,List.setIfInBounds_toArray,List.set_cons_zero,List.set_cons_succ,i64_w,i32_w]
         rfl
        refine take_ (i:=7) (N:=some 24) (v:=?_) (a':=?_) #[true,true,true,true,true,true,true,true,false,false] rfl rfl (take_ofW HT_.out HW_.out (by kernel_rfl)) (fun _ _ _ h=>h) (Or.inl ⟨by rfl,?_⟩) hHeld ?_ ?_
        rotate_left
        ·rintro w' ⟨s0,s1,s2,s3⟩
         go_simp
         with_reducible rfl
        rotate_left
        ·simp only [Act.put,List.setIfInBounds_toArray,List.set_cons_zero,List.set_cons_succ,i64_w,i32_w]
         rfl
        refine one_ (i:=8) (N:=some 25) #[true,true,true,true,true,true,true,true,true,false] rfl rfl (one_of HT_.out (by kernel_rfl)) (by decide) (fun K hK=>?_)
        refine goes_ Try.func129 (by kernel_rfl) rfl #[.agg #[.int .i64 ((rd_T88 l0 x5_1).f0),.int .i64 ((rd_T88 l0 x5_1).f1)],.agg #[.int .i64 ((rd_T88 l1 x5_1).f0),.int .i64 ((rd_T88 l1 x5_1).f1)]] (by rfl) rfl rfl (by (try simp only [List.map_toArray,List.map_cons,List.map_nil]);first|done|rfl|(simp only [List.length_drop,List.length_take];rfl)) ?_
        with_reducible refine (laws_eqCounter.calls ((rd_T88 l0 x5_1).f0) ((rd_T88 l0 x5_1).f1) ((rd_T88 l1 x5_1).f0) ((rd_T88 l1 x5_1).f1) true _ A7.out).mono ?_
        rintro e w10 ⟨rfl,hb⟩
        refine ⟨_,rfl,?_⟩
        have n0_:=Aside0.mk (below_step (by exact HB.out) hb)
        clear HB
        have HB:=n0_
        clear n0_
        (try clear hb)
        (try clear hb2)
        (try clear hk)
        (try clear hi)
        refine hK.out _ _ ⟨((HB.out.cell (World.block_lt_of_cell? w _ hw128_0)).trans hw128_0),((HB.out.cell (World.block_lt_of_cell? w _ hw128_1)).trans hw128_1),((HB.out.cell (World.block_lt_of_cell? w _ hw129_0)).trans hw129_0),((HB.out.cell (World.block_lt_of_cell? w _ hw129_1)).trans hw129_1)⟩ (fun hHeld=>?_)
        clear hK K
        refine norm_ (a':=?_) ?_ ?_
        rotate_left
        ·show Act.put _ (some 25) _=_
         simp only [Act.put,List.setIfInBounds_toArray,List.set_cons_zero,List.set_cons_succ,i64_w,i32_w]
         rfl
        refine pure_ (i:=9) (N:=some 26) (v:=?_) (a':=?_) #[true,true,true,true,true,true,true,true,true,true] rfl rfl (any_of HT_.out (by kernel_rfl)) (fun _ _ _ h=>h) (Or.inl ⟨by rfl,?_⟩) ?_ ?_
        rotate_left
        ·intro w'
         go_simp
         with_reducible rfl
        rotate_left
        ·simp only [Act.put,List.setIfInBounds_toArray,List.set_cons_zero,List.set_cons_succ,i64_w,i32_w]
         rfl
        refine done_ (done_of HT_.out (by kernel_rfl)) ?_
        try go_wp2
        go_roundg k1
        case measure=>have:=HK1.out;omega
        case rel=>exact ⟨(wrap64 (x5_1+1)),(by first|rfl|(simp;done)|(simp [*];done)),H',⟨by have:=HK1.out;omega⟩,⟨by exact HB.out⟩⟩
       replace c8:=Bool.eq_false_iff.mpr c8
       subst c8
       have H1:(some false)=some r:=by rw [if_neg (show ¬ (false=true) by decide)] at H;exact H
       clear H
       have H:=H1
       clear H1
       obtain rfl:=Option.some.inj H
       try go_wp2
       have n0_:=Aside0.mk (below_drew1 HB.out)
       clear HB
       have HB:=n0_
       clear n0_
       have p128:0≤(x5_1:Int):=of_decide_eq_true (by first|(with_reducible assumption)|assumption)
       have q128:x5_1<(l0.length:Int):=of_decide_eq_true (by first|(with_reducible assumption)|assumption)
       obtain ⟨ad128,e128,hx128_0,hx128_1⟩:=at_T88 HR0.out x5_1 p128 q128
       have hw128_1:=hx128_1
       have hw128_0:=hx128_0
       cases e128
       replace hx128_0:=(HB.out.cell (World.block_lt_of_cell? w _ hx128_0)).trans hx128_0
       replace hx128_1:=(HB.out.cell (World.block_lt_of_cell? w _ hx128_1)).trans hx128_1
       replace p128:=eq_true p128
       replace q128:=eq_true q128
       have p129:0≤(x5_1:Int):=of_decide_eq_true (by first|(with_reducible assumption)|assumption)
       have q129:x5_1<(l1.length:Int):=of_decide_eq_true (by first|(with_reducible assumption)|assumption)
       obtain ⟨ad129,e129,hx129_0,hx129_1⟩:=at_T88 HR1.out x5_1 p129 q129
       have hw129_1:=hx129_1
       have hw129_0:=hx129_0
       cases e129
       replace hx129_0:=(HB.out.cell (World.block_lt_of_cell? w _ hx129_0)).trans hx129_0
       replace hx129_1:=(HB.out.cell (World.block_lt_of_cell? w _ hx129_1)).trans hx129_1
       replace p129:=eq_true p129
       replace q129:=eq_true q129
       refine start_ (n:=10) (S:=fun w'=>w'.cell? (ad128.add ((x5_1).toNat * 2))=some (.int .i64 ((rd_T88 l0 x5_1).f0))∧w'.cell? ⟨(ad128.add ((x5_1).toNat * 2)).block,(ad128.add ((x5_1).toNat * 2)).off+1,none⟩=some (.int .i64 ((rd_T88 l0 x5_1).f1))∧w'.cell? (ad129.add ((x5_1).toNat * 2))=some (.int .i64 ((rd_T88 l1 x5_1).f0))∧w'.cell? ⟨(ad129.add ((x5_1).toNat * 2)).block,(ad129.add ((x5_1).toNat * 2)).off+1,none⟩=some (.int .i64 ((rd_T88 l1 x5_1).f1))) (ds:=[]) #[false,false,false,false,false,false,false,false,false,false] (by kernel_rfl) rfl rfl ⟨((HB.out.cell (World.block_lt_of_cell? w _ hw128_0)).trans hw128_0),((HB.out.cell (World.block_lt_of_cell? w _ hw128_1)).trans hw128_1),((HB.out.cell (World.block_lt_of_cell? w _ hw129_0)).trans hw129_0),((HB.out.cell (World.block_lt_of_cell? w _ hw129_1)).trans hw129_1)⟩ (fun hHeld=>?_);refine with_tabW laws_eqCounterS.tab6 laws_eqCounterS.bits6 (fun HT_ HW_=>?_)
       generalize wr.drew=w11 at HB hx128_0 hx128_1 hx129_0 hx129_1 hHeld ⊢
       refine pure_ (i:=0) (N:=some 17) (v:=?_) (a':=?_) #[true,false,false,false,false,false,false,false,false,false] rfl rfl (any_of HT_.out (by kernel_rfl)) (fun _ _ _ h=>h) (Or.inl ⟨by rfl,?_⟩) ?_ ?_
       rotate_left
       ·intro w'
        go_simp
        with_reducible rfl
       rotate_left
       ·simp only [Act.put,List.setIfInBounds_toArray,List.set_cons_zero,List.set_cons_succ,i64_w,i32_w]
        rfl
       refine pure_ (i:=1) (N:=some 18) (v:=?_) (a':=?_) #[true,true,false,false,false,false,false,false,false,false] rfl rfl (any_of HT_.out (by kernel_rfl)) (fun _ _ _ h=>h) (Or.inl ⟨by rfl,?_⟩) ?_ ?_
       rotate_left
       ·intro w'
        go_simp
        with_reducible rfl
       rotate_left
       ·simp only [Act.put,List.setIfInBounds_toArray,List.set_cons_zero,List.set_cons_succ,i64_w,i32_w]
        rfl
       refine pure_ (i:=2) (N:=some 19) (v:=?_) (a':=?_) #[true,true,true,false,false,false,false,false,false,false] rfl rfl (any_of HT_.out (by kernel_rfl)) (fun _ _ _ h=>h) (Or.inl ⟨by rfl,?_⟩) ?_ ?_
       rotate_left
       ·intro w'
        go_simp
        with_reducible rfl
       rotate_left
       ·simp only [Act.put,List.setIfInBounds_toArray,List.set_cons_zero,List.set_cons_succ,i64_w,i32_w]
        rfl
       refine pure_ (i:=4) (N:=some 21) (v:=?_) (a':=?_) #[true,true,true,false,true,false,false,false,false,false] rfl rfl (any_of HT_.out (by kernel_rfl)) (fun _ _ _ h=>h) (Or.inl ⟨by rfl,?_⟩) ?_ ?_
       rotate_left
       ·intro w'
        go_simp
        with_reducible rfl
       rotate_left
       ·simp only [Act.put,List.setIfInBounds_toArray,List.set_cons_zero,List.set_cons_succ,i64_w,i32_w]
        rfl
       refine pure_ (i:=5) (N:=some 22) (v:=?_) (a':=?_) #[true,true,true,false,true,true,false,false,false,false] rfl rfl (any_of HT_.out (by kernel_rfl)) (fun _ _ _ h=>h) (Or.inl ⟨by rfl,?_⟩) ?_ ?_
       rotate_left
       ·intro w'
        go_simp
        with_reducible rfl
       rotate_left
       ·simp only [Act.put,List.setIfInBounds_toArray,List.set_cons_zero,List.set_cons_succ,i64_w,i32_w]
        rfl
       refine pure_ (i:=6) (N:=some 23) (v:=?_) (a':=?_) #[true,true,true,false,true,true,true,false,false,false] rfl rfl (any_of HT_.out (by kernel_rfl)) (fun _ _ _ h=>h) (Or.inl ⟨by rfl,?_⟩) ?_ ?_
       rotate_left
       ·intro w'
        go_simp
        with_reducible rfl
       rotate_left
       ·simp only [Act.put,List.setIfInBounds_toArray,List.set_cons_zero,List.set_cons_succ,i64_w,i32_w]
        rfl
       refine take_ (i:=3) (N:=some 20) (v:=?_) (a':=?_) #[true,true,true,true,true,true,true,false,false,false] rfl rfl (take_ofW HT_.out HW_.out (by kernel_rfl)) (fun _ _ _ h=>h) (Or.inl ⟨by rfl,?_⟩) hHeld ?_ ?_
       rotate_left
       ·rintro w' ⟨s0,s1,s2,s3⟩
        go_simp
        with_reducible rfl
       rotate_left
       ·simp only [Act.put,List.setIfInBounds_toArray,List.set_cons_zero,List.set_cons_succ,i64_w,i32_w]
        rfl
       refine take_ (i:=7) (N:=some 24) (v:=?_) (a':=?_) #[true,true,true,true,true,true,true,true,false,false] rfl rfl (take_ofW HT_.out HW_.out (by kernel_rfl)) (fun _ _ _ h=>h) (Or.inl ⟨by rfl,?_⟩) hHeld ?_ ?_
       rotate_left
       ·rintro w' ⟨s0,s1,s2,s3⟩
        go_simp
        with_reducible rfl
       rotate_left
       ·simp only [Act.put,List.setIfInBounds_toArray,List.set_cons_zero,List.set_cons_succ,i64_w,i32_w]
        rfl
       refine one_ (i:=8) (N:=some 25) #[true,true,true,true,true,true,true,true,true,false] rfl rfl (one_of HT_.out (by kernel_rfl)) (by decide) (fun K hK=>?_)
       refine goes_ Try.func129 (by kernel_rfl) rfl #[.agg #[.int .i64 ((rd_T88 l0 x5_1).f0),.int .i64 ((rd_T88 l0 x5_1).f1)],.agg #[.int .i64 ((rd_T88 l1 x5_1).f0),.int .i64 ((rd_T88 l1 x5_1).f1)]] (by rfl) rfl rfl (by (try simp only [List.map_toArray,List.map_cons,List.map_nil]);first|done|rfl|(simp only [List.length_drop,List.length_take];rfl)) ?_
       with_reducible refine (laws_eqCounter.calls ((rd_T88 l0 x5_1).f0) ((rd_T88 l0 x5_1).f1) ((rd_T88 l1 x5_1).f0) ((rd_T88 l1 x5_1).f1) false _ A7.out).mono ?_
       rintro e w12 ⟨rfl,hb⟩
       refine ⟨_,rfl,?_⟩
       have n0_:=Aside0.mk (below_step (by exact HB.out) hb)
       clear HB
       have HB:=n0_
       clear n0_
       (try clear hb)
       (try clear hb2)
       (try clear hk)
       (try clear hi)
       refine hK.out _ _ ⟨((HB.out.cell (World.block_lt_of_cell? w _ hw128_0)).trans hw128_0),((HB.out.cell (World.block_lt_of_cell? w _ hw128_1)).trans hw128_1),((HB.out.cell (World.block_lt_of_cell? w _ hw129_0)).trans hw129_0),((HB.out.cell (World.block_lt_of_cell? w _ hw129_1)).trans hw129_1)⟩ (fun hHeld=>?_)
       clear hK K
       refine norm_ (a':=?_) ?_ ?_
       rotate_left
       ·show Act.put _ (some 25) _=_
        simp only [Act.put,List.setIfInBounds_toArray,List.set_cons_zero,List.set_cons_succ,i64_w,i32_w]
        rfl
       refine pure_ (i:=9) (N:=some 26) (v:=?_) (a':=?_) #[true,true,true,true,true,true,true,true,true,true] rfl rfl (any_of HT_.out (by kernel_rfl)) (fun _ _ _ h=>h) (Or.inl ⟨by rfl,?_⟩) ?_ ?_
       rotate_left
       ·intro w'
        go_simp
        with_reducible rfl
       rotate_left
       ·simp only [Act.put,List.setIfInBounds_toArray,List.set_cons_zero,List.set_cons_succ,i64_w,i32_w]
        rfl
       refine done_ (done_of HT_.out (by kernel_rfl)) ?_
       try go_wp2
       go_ret
       exact ⟨by first|rfl|(simp [errW_none,errW_some] <;> rfl)|(simp [*,errW_none,errW_some] <;> rfl),by exact HB.out⟩
      rw [if_neg c6] at H
      exact absurd H (by simp)
     rw [if_neg c5] at H
     exact absurd H (by simp)
    rw [if_neg c4] at H
    have c4b0:decide (x5_1<(l0.length:Int))=false:=decide_eq_false c4
    clear c4
    obtain rfl:=Option.some.inj H
    go_wp2
    go_ret
    exact ⟨by first|rfl|(simp [errW_none,errW_some] <;> rfl)|(simp [*,errW_none,errW_some] <;> rfl),by exact HB.out⟩
 rw [if_neg c3] at H
 have c3b0:((l0.length:Int)==(l1.length:Int))=false:=beq_eq_false_iff_ne.mpr c3
 have c3b1:((l0.length:Int) != (l1.length:Int))=true:=bne_iff_ne.mpr c3
 have c3b2:(l0.length==l1.length)=false:=by first|simpa using c3|(simp at c3 ⊢;omega)
 obtain rfl:=Option.some.inj H
 go_enter Try.func90,Try.ntmps90
 go_wp2
 go_ret
 exact ⟨by first|rfl|(simp [errW_none,errW_some] <;> rfl)|(simp [*,errW_none,errW_some] <;> rfl),by exact HB.out⟩
end Go.Proofs.Ytpdnabhpkdchjaa.P
namespace Go.Proofs.Ytpdnabhpkdchjaa.P
open Go.RowKit Go.Proofs.YtpdnabhpkdchjaaW.PrintWords Go.Proofs.YtpdnabhpkdchjaaW.PrintLast Go.Proofs.YtpdnabhpkdchjaaW.PrintMore
attribute [local go_sem] max2_int min2_int max_two min_two max_three min_three max_four min_four
set_option linter.unusedVariables false
set_option linter.unusedSimpArgs false
def laws_eqLayout.f (k:Nat) (a0_0:Int) (l0_1:List (S88)) (a1_0:Int) (l1_1:List (S88)):Option (Bool):=if a0_0=a1_0 then ((laws_eqCounterS.f k l0_1 l1_1).bind fun t133=>(if t133=true then (some true) else (some false))) else (some false)
set_option maxHeartbeats 8000000 in
set_option maxRecDepth 100000 in
theorem laws_eqLayout.calls (k:Nat) (a0_0:Int) (A0_1:Option Addr) (c0_1:Nat) (l0_1:List (S88)) (a1_0:Int) (A1_1:Option Addr) (c1_1:Nat) (l1_1:List (S88)) (r:Bool) (w:World) (hr0_1:Kd.C k88 w A0_1 l0_1.length l0_1) (hc0_1:l0_1.length≤c0_1) (hr1_1:Kd.C k88 w A1_1 l1_1.length l1_1) (hc1_1:l1_1.length≤c1_1) (h:laws_eqLayout.f k a0_0 l0_1 a1_0 l1_1=some r) :
  Calls Try.prog 26 #[.agg #[.int .i64 a0_0,.slice A0_1 l0_1.length c0_1],.agg #[.int .i64 a1_0,.slice A1_1 l1_1.length c1_1]] w fun e w'=>e=.returned (.bool r)∧Below w.heap.size w w':=by
 have hu30:=Try.underlying30
 have HR0_1:=Aside0.mk hr0_1
 have HC0_1:=Aside0.mk hc0_1
 clear hr0_1 hc0_1
 have HR1_1:=Aside0.mk hr1_1
 have HC1_1:=Aside0.mk hc1_1
 clear hr1_1 hc1_1
 have HB:=Aside0.mk (Below.refl w.heap.size w)
 have H:(if a0_0=a1_0 then ((laws_eqCounterS.f k l0_1 l1_1).bind fun t133=>(if t133=true then (some true) else (some false))) else (some false))=some r:=h
 clear h
 by_cases c3:a0_0=a1_0
 ·rw [if_pos c3] at H
  have c3b0:(a0_0==a1_0)=true:=beq_iff_eq.mpr c3
  have c3b1:(a0_0 != a1_0)=false:=bne_eq_false_iff_eq.mpr c3
  clear c3
  replace H:=Option.bind_eq_some_iff.mp H
  obtain ⟨t133,A40,H⟩:=H
  replace H:(if t133=true then (some true) else (some false))=some r:=H
  have A4:=Aside0.mk A40
  clear A40
  by_cases c5:t133=true
  ·subst c5
   have H1:(some true)=some r:=by rw [if_pos rfl] at H;exact H
   clear H
   have H:=H1
   clear H1
   obtain rfl:=Option.some.inj H
   go_enter Try.func26,Try.ntmps26
   go_wp2_with (first|((with_reducible refine gate_dst (N:=2) rfl ?_);refine box_event ?hg (N:=2) ?hd (cs:=#[.int .i64 a0_0,.slice A0_1 l0_1.length c0_1]) (t:=30) ?hr ?_;(case hd=>rfl);(case hg=>rfl);(case hr=>first|(go_simp;done)|(go_simp;rfl));intro gb131 hg w6 hbox hb;have n0_:=Aside0.mk (below_step (by exact HB.out) hb);have n1_:=Aside0.mk (hbox);have n2_:=Aside0.mk ((by rw [hg];exact (below_size (by exact HB.out)):w.heap.size≤gb131));have n3_:=Aside0.mk ((by rw [hg];exact (below_size (by exact HB.out)):w.heap.size≤gb131));clear HB;have HB:=n0_;have BK131:=n1_;have GW131:=n2_;have GE131:=n3_;clear n0_ n1_ n2_ n3_;clear hb hbox hg)|((with_reducible refine gate_dst (N:=3) rfl ?_);refine box_event ?hg (N:=3) ?hd (cs:=#[.int .i64 a1_0,.slice A1_1 l1_1.length c1_1]) (t:=30) ?hr ?_;(case hd=>rfl);(case hg=>rfl);(case hr=>first|(go_simp;done)|(go_simp;rfl));intro gb132 hg w7 hbox hb;have n0_:=Aside0.mk (blk_below (g:=gb131) (o:=.cells #[.int .i64 a0_0,.slice A0_1 l0_1.length c0_1] 30 (0,0)) (by exact BK131.out) hb);have n1_:=Aside0.mk (below_step (by exact HB.out) hb);have n2_:=Aside0.mk (hbox);have n3_:=Aside0.mk ((by rw [hg];exact (below_size (by exact HB.out)):w.heap.size≤gb132));have n4_:=Aside0.mk ((by rw [hg];exact (below_size (by exact HB.out)):w.heap.size≤gb132));have n5_:=Aside0.mk ((by rw [hg];exact Nat.ne_of_lt (blk_lt (g:=gb131) (o:=.cells #[.int .i64 a0_0,.slice A0_1 l0_1.length c0_1] 30 (0,0)) (by exact BK131.out)):gb131 ≠ gb132));have n6_:=Aside0.mk ((by rw [hg];exact Nat.ne_of_gt (blk_lt (g:=gb131) (o:=.cells #[.int .i64 a0_0,.slice A0_1 l0_1.length c0_1] 30 (0,0)) (by exact BK131.out)):gb132 ≠ gb131));clear BK131;clear HB;have BK131:=n0_;have HB:=n1_;have BK132:=n2_;have GW132:=n3_;have GE132:=n4_;have NB131_132:=n5_;have NB132_131:=n6_;clear n0_ n1_ n2_ n3_ n4_ n5_ n6_;clear hb hbox hg;have hnb8:=NB131_132.out;have hnc8:=NB132_131.out;have hcz9_0:w7.cell? ⟨gb131,0,none⟩=some (.int .i64 a0_0):=(blk_cell BK131.out 0).trans rfl;have hcz9_1:w7.cell? ⟨gb131,1,none⟩=some (.slice A0_1 l0_1.length c0_1):=(blk_cell BK131.out 1).trans rfl;have hfz9_0:=blk_frozen BK131.out 0;have hfz9_1:=blk_frozen BK131.out 1;have hcz10_0:w7.cell? ⟨gb132,0,none⟩=some (.int .i64 a1_0):=(blk_cell BK132.out 0).trans rfl;have hcz10_1:w7.cell? ⟨gb132,1,none⟩=some (.slice A1_1 l1_1.length c1_1):=(blk_cell BK132.out 1).trans rfl;have hfz10_0:=blk_frozen BK132.out 0;have hfz10_1:=blk_frozen BK132.out 1)|((with_reducible refine gate_callee (f:=90) rfl ?_);refine goesL_ (some 14) rfl rfl Try.func90 (by kernel_rfl) rfl #[.slice A0_1 l0_1.length c0_1,.slice A1_1 l1_1.length c1_1] rfl (by (try simp only [List.map_toArray,List.map_cons,List.map_nil]);first|done|rfl|(simp only [List.length_drop,List.length_take];rfl)) ?_;(with_reducible refine (laws_eqCounterS.calls k _ _ l0_1 _ _ l1_1 true _ ?side1 ?side2 ?side3 ?side4 A4.out).mono ?_);(case side1=>repeat (first|exact (Kd.C_below HR0_1.out HB.out)|(with_reducible refine Kd.C_alloc ?_ _)|(with_reducible refine Kd.C_drewN ?_ _)|(with_reducible refine Kd.C_drew ?_)));(case side2=>exact HC0_1.out);(case side3=>repeat (first|exact (Kd.C_below HR1_1.out HB.out)|(with_reducible refine Kd.C_alloc ?_ _)|(with_reducible refine Kd.C_drewN ?_ _)|(with_reducible refine Kd.C_drew ?_)));(case side4=>exact HC1_1.out);rintro e w11 ⟨rfl,hb⟩;refine ⟨_,rfl,?_⟩;have n0_:=Aside0.mk (blk_below (g:=gb131) (o:=.cells #[.int .i64 a0_0,.slice A0_1 l0_1.length c0_1] 30 (0,0)) (by exact BK131.out) hb);have n1_:=Aside0.mk (blk_below (g:=gb132) (o:=.cells #[.int .i64 a1_0,.slice A1_1 l1_1.length c1_1] 30 (0,0)) (by exact BK132.out) hb);have n2_:=Aside0.mk (below_step (by exact HB.out) hb);clear BK131;clear BK132;clear HB;have BK131:=n0_;have BK132:=n1_;have HB:=n2_;clear n0_ n1_ n2_;(try clear hb);(try clear hb2);(try clear hk);(try clear hi)))
   go_ret
   exact ⟨by first|rfl|(simp [errW_none,errW_some] <;> rfl)|(simp [*,errW_none,errW_some] <;> rfl),by exact HB.out⟩
  replace c5:=Bool.eq_false_iff.mpr c5
  subst c5
  have H1:(some false)=some r:=by rw [if_neg (show ¬ (false=true) by decide)] at H;exact H
  clear H
  have H:=H1
  clear H1
  obtain rfl:=Option.some.inj H
  go_enter Try.func26,Try.ntmps26
  go_wp2_with (first|((with_reducible refine gate_dst (N:=2) rfl ?_);refine box_event ?hg (N:=2) ?hd (cs:=#[.int .i64 a0_0,.slice A0_1 l0_1.length c0_1]) (t:=30) ?hr ?_;(case hd=>rfl);(case hg=>rfl);(case hr=>first|(go_simp;done)|(go_simp;rfl));intro gb131 hg w12 hbox hb;have n0_:=Aside0.mk (below_step (by exact HB.out) hb);have n1_:=Aside0.mk (hbox);have n2_:=Aside0.mk ((by rw [hg];exact (below_size (by exact HB.out)):w.heap.size≤gb131));have n3_:=Aside0.mk ((by rw [hg];exact (below_size (by exact HB.out)):w.heap.size≤gb131));clear HB;have HB:=n0_;have BK131:=n1_;have GW131:=n2_;have GE131:=n3_;clear n0_ n1_ n2_ n3_;clear hb hbox hg)|((with_reducible refine gate_dst (N:=3) rfl ?_);refine box_event ?hg (N:=3) ?hd (cs:=#[.int .i64 a1_0,.slice A1_1 l1_1.length c1_1]) (t:=30) ?hr ?_;(case hd=>rfl);(case hg=>rfl);(case hr=>first|(go_simp;done)|(go_simp;rfl));intro gb132 hg w13 hbox hb;have n0_:=Aside0.mk (blk_below (g:=gb131) (o:=.cells #[.int .i64 a0_0,.slice A0_1 l0_1.length c0_1] 30 (0,0)) (by exact BK131.out) hb);have n1_:=Aside0.mk (below_step (by exact HB.out) hb);have n2_:=Aside0.mk (hbox);have n3_:=Aside0.mk ((by rw [hg];exact (below_size (by exact HB.out)):w.heap.size≤gb132));have n4_:=Aside0.mk ((by rw [hg];exact (below_size (by exact HB.out)):w.heap.size≤gb132));have n5_:=Aside0.mk ((by rw [hg];exact Nat.ne_of_lt (blk_lt (g:=gb131) (o:=.cells #[.int .i64 a0_0,.slice A0_1 l0_1.length c0_1] 30 (0,0)) (by exact BK131.out)):gb131 ≠ gb132));have n6_:=Aside0.mk ((by rw [hg];exact Nat.ne_of_gt (blk_lt (g:=gb131) (o:=.cells #[.int .i64 a0_0,.slice A0_1 l0_1.length c0_1] 30 (0,0)) (by exact BK131.out)):gb132 ≠ gb131));clear BK131;clear HB;have BK131:=n0_;have HB:=n1_;have BK132:=n2_;have GW132:=n3_;have GE132:=n4_;have NB131_132:=n5_;have NB132_131:=n6_;clear n0_ n1_ n2_ n3_ n4_ n5_ n6_;clear hb hbox hg;have hnb14:=NB131_132.out;have hnc14:=NB132_131.out;have hcz15_0:w13.cell? ⟨gb131,0,none⟩=some (.int .i64 a0_0):=(blk_cell BK131.out 0).trans rfl;have hcz15_1:w13.cell? ⟨gb131,1,none⟩=some (.slice A0_1 l0_1.length c0_1):=(blk_cell BK131.out 1).trans rfl;have hfz15_0:=blk_frozen BK131.out 0;have hfz15_1:=blk_frozen BK131.out 1;have hcz16_0:w13.cell? ⟨gb132,0,none⟩=some (.int .i64 a1_0):=(blk_cell BK132.out 0).trans rfl;have hcz16_1:w13.cell? ⟨gb132,1,none⟩=some (.slice A1_1 l1_1.length c1_1):=(blk_cell BK132.out 1).trans rfl;have hfz16_0:=blk_frozen BK132.out 0;have hfz16_1:=blk_frozen BK132.out 1)|((with_reducible refine gate_callee (f:=90) rfl ?_);refine goesL_ (some 14) rfl rfl Try.func90 (by kernel_rfl) rfl #[.slice A0_1 l0_1.length c0_1,.slice A1_1 l1_1.length c1_1] rfl (by (try simp only [List.map_toArray,List.map_cons,List.map_nil]);first|done|rfl|(simp only [List.length_drop,List.length_take];rfl)) ?_;(with_reducible refine (laws_eqCounterS.calls k _ _ l0_1 _ _ l1_1 false _ ?side1 ?side2 ?side3 ?side4 A4.out).mono ?_);(case side1=>repeat (first|exact (Kd.C_below HR0_1.out HB.out)|(with_reducible refine Kd.C_alloc ?_ _)|(with_reducible refine Kd.C_drewN ?_ _)|(with_reducible refine Kd.C_drew ?_)));(case side2=>exact HC0_1.out);(case side3=>repeat (first|exact (Kd.C_below HR1_1.out HB.out)|(with_reducible refine Kd.C_alloc ?_ _)|(with_reducible refine Kd.C_drewN ?_ _)|(with_reducible refine Kd.C_drew ?_)));(case side4=>exact HC1_1.out);rintro e w17 ⟨rfl,hb⟩;refine ⟨_,rfl,?_⟩;have n0_:=Aside0.mk (blk_below (g:=gb131) (o:=.cells #[.int .i64 a0_0,.slice A0_1 l0_1.length c0_1] 30 (0,0)) (by exact BK131.out) hb);have n1_:=Aside0.mk (blk_below (g:=gb132) (o:=.cells #[.int .i64 a1_0,.slice A1_1 l1_1.length c1_1] 30 (0,0)) (by exact BK132.out) hb);have n2_:=Aside0.mk (below_step (by exact HB.out) hb);clear BK131;clear BK132;clear HB;have BK131:=n0_;have BK132:=n1_;have HB:=n2_;clear n0_ n1_ n2_;(try clear hb);(try clear hb2);(try clear hk);(try clear hi)))
  go_ret
  exact ⟨by first|rfl|(simp [errW_none,errW_some] <;> rfl)|(simp [*,errW_none,errW_some] <;> rfl),by exact HB.out⟩
 rw [if_neg c3] at H
 have c3b0:(a0_0==a1_0)=false:=beq_eq_false_iff_ne.mpr c3
 have c3b1:(a0_0 != a1_0)=true:=bne_iff_ne.mpr c3
 obtain rfl:=Option.some.inj H
 go_enter Try.func26,Try.ntmps26
 go_wp2_with (first|((with_reducible refine gate_dst (N:=2) rfl ?_);refine box_event ?hg (N:=2) ?hd (cs:=#[.int .i64 a0_0,.slice A0_1 l0_1.length c0_1]) (t:=30) ?hr ?_;(case hd=>rfl);(case hg=>rfl);(case hr=>first|(go_simp;done)|(go_simp;rfl));intro gb131 hg w18 hbox hb;have n0_:=Aside0.mk (below_step (by exact HB.out) hb);have n1_:=Aside0.mk (hbox);have n2_:=Aside0.mk ((by rw [hg];exact (below_size (by exact HB.out)):w.heap.size≤gb131));have n3_:=Aside0.mk ((by rw [hg];exact (below_size (by exact HB.out)):w.heap.size≤gb131));clear HB;have HB:=n0_;have BK131:=n1_;have GW131:=n2_;have GE131:=n3_;clear n0_ n1_ n2_ n3_;clear hb hbox hg)|((with_reducible refine gate_dst (N:=3) rfl ?_);refine box_event ?hg (N:=3) ?hd (cs:=#[.int .i64 a1_0,.slice A1_1 l1_1.length c1_1]) (t:=30) ?hr ?_;(case hd=>rfl);(case hg=>rfl);(case hr=>first|(go_simp;done)|(go_simp;rfl));intro gb132 hg w19 hbox hb;have n0_:=Aside0.mk (blk_below (g:=gb131) (o:=.cells #[.int .i64 a0_0,.slice A0_1 l0_1.length c0_1] 30 (0,0)) (by exact BK131.out) hb);have n1_:=Aside0.mk (below_step (by exact HB.out) hb);have n2_:=Aside0.mk (hbox);have n3_:=Aside0.mk ((by rw [hg];exact (below_size (by exact HB.out)):w.heap.size≤gb132));have n4_:=Aside0.mk ((by rw [hg];exact (below_size (by exact HB.out)):w.heap.size≤gb132));have n5_:=Aside0.mk ((by rw [hg];exact Nat.ne_of_lt (blk_lt (g:=gb131) (o:=.cells #[.int .i64 a0_0,.slice A0_1 l0_1.length c0_1] 30 (0,0)) (by exact BK131.out)):gb131 ≠ gb132));have n6_:=Aside0.mk ((by rw [hg];exact Nat.ne_of_gt (blk_lt (g:=gb131) (o:=.cells #[.int .i64 a0_0,.slice A0_1 l0_1.length c0_1] 30 (0,0)) (by exact BK131.out)):gb132 ≠ gb131));clear BK131;clear HB;have BK131:=n0_;have HB:=n1_;have BK132:=n2_;have GW132:=n3_;have GE132:=n4_;have NB131_132:=n5_;have NB132_131:=n6_;clear n0_ n1_ n2_ n3_ n4_ n5_ n6_;clear hb hbox hg;have hnb20:=NB131_132.out;have hnc20:=NB132_131.out;have hcz21_0:w19.cell? ⟨gb131,0,none⟩=some (.int .i64 a0_0):=(blk_cell BK131.out 0).trans rfl;have hcz21_1:w19.cell? ⟨gb131,1,none⟩=some (.slice A0_1 l0_1.length c0_1):=(blk_cell BK131.out 1).trans rfl;have hfz21_0:=blk_frozen BK131.out 0;have hfz21_1:=blk_frozen BK131.out 1;have hcz22_0:w19.cell? ⟨gb132,0,none⟩=some (.int .i64 a1_0):=(blk_cell BK132.out 0).trans rfl;have hcz22_1:w19.cell? ⟨gb132,1,none⟩=some (.slice A1_1 l1_1.length c1_1):=(blk_cell BK132.out 1).trans rfl;have hfz22_0:=blk_frozen BK132.out 0;have hfz22_1:=blk_frozen BK132.out 1))
 go_ret
 exact ⟨by first|rfl|(simp [errW_none,errW_some] <;> rfl)|(simp [*,errW_none,errW_some] <;> rfl),by exact HB.out⟩
end Go.Proofs.Ytpdnabhpkdchjaa.P
namespace Go.Proofs.Ytpdnabhpkdchjaa.P
open Go.RowKit Go.Proofs.YtpdnabhpkdchjaaW.PrintWords Go.Proofs.YtpdnabhpkdchjaaW.PrintLast
set_option linter.unusedVariables false
set_option linter.unusedSimpArgs false
theorem wrap_id {x : Int} (h0 : -9223372036854775808 ≤ x) (h1 : x ≤ 9223372036854775807) : wrap64 x = x := by unfold wrap64; omega
theorem wrap_succ {i : Nat} (h : i < 9223372036854775807) : wrap64 ((i : Int) + 1) = ((i + 1 : Nat) : Int) := by rw [wrap_id (by omega) (by omega)]; omega
theorem Ev.step1 {α : Type} {g : Nat → Option α} {r : α} (h : ∀ k, g (k + 1) = some r) : Ev g r := Ev.step (f := fun _ => some r) h (Ev.now _)
theorem Ev.call {α β : Type} {x : Option α} {a : α} {f : Nat → α → Option β} {r : β} (h : x = some a) (k : Ev (fun n => f n a) r) : Ev (fun n => x.bind (f n)) r := by
  subst h
  exact k
theorem Ev.ite_pos {β : Type} {c : Prop} [Decidable c] {f g : Nat → Option β} {r : β} (h : c) (k : Ev f r) : Ev (fun n => if c then f n else g n) r := by
  simp only [if_pos h]; exact k
theorem Ev.ite_neg {β : Type} {c : Prop} [Decidable c] {f g : Nat → Option β} {r : β} (h : ¬ c) (k : Ev g r) : Ev (fun n => if c then f n else g n) r := by
  simp only [if_neg h]; exact k
theorem szCounterS_eq (l : List S160) (left : Int) (h0 : 0 ≤ left) (h1 : left ≤ 1048576) (hl : l.length ≤ 9223372036854775807) : laws_szCounterS.f l left = some (if left < l.length then -1 else left - l.length) := by
  unfold laws_szCounterS.f
  rw [wrap_id (by omega) (by omega)]
  by_cases h : left < l.length
  · rw [if_pos (by omega), if_pos h]
  · rw [if_neg (by omega), if_neg h]
theorem szLayout_eq (n : Int) (l : List S160) (left : Int) (h0 : 0 ≤ left) (h1 : left ≤ 1048576) (hl : l.length ≤ 9223372036854775807) : laws_szLayout.f n l left = some (if left < l.length then -1 else left - l.length) := by
  unfold laws_szLayout.f
  rw [szCounterS_eq l left h0 h1 hl]
  by_cases h : left < l.length
  · simp [if_pos h]
  · simp only [if_neg h, Option.bind_some]
    rw [if_neg (by omega)]
def cvC (x : S160) : S88 := ⟨x.f0, x.f1⟩
theorem rd160 (l : List S160) (i : Nat) (h : i < l.length) : rd_T160 l (i : Int) = l[i] := by simp [rd_T160, h]
theorem toCounterS_l0 (l : List S160) (hl : l.length ≤ 1048576) (d : Nat) : ∀ (i : Nat), i + d = l.length → Ev (fun k => laws_toCounterS.l0 k l ((l.take i).map cvC ++ List.replicate d z88) i) (l.map cvC) := by
  induction d with
  | zero =>
    intro i hi
    refine Ev.step (f := fun _ => some (l.map cvC)) (fun k => ?_) (Ev.now _)
    simp only [laws_toCounterS.l0]
    rw [if_neg (by omega)]
    rw [List.take_of_length_le (by omega)]
    simp
  | succ d ih =>
    intro i hi
    have hlt : i < l.length := by omega
    refine Ev.step (fun k => ?_) (ih (i + 1) (by omega))
    simp only [laws_toCounterS.l0, laws_toCounter.f]
    rw [if_pos (by omega), if_pos (by omega)]
    simp only [Option.bind_some]
    rw [if_pos (by simp; omega), wrap_succ (by omega), rd160 l i hlt]
    congr 1
    rw [Int.toNat_natCast, List.set_append_right _ _ (by simp; omega)]
    simp only [List.map_take, List.length_take, List.length_map, Nat.min_eq_left (Nat.le_of_lt hlt), Nat.sub_self, List.replicate_succ, List.set_cons_zero]
    rw [List.take_succ_eq_append_getElem (by simpa using hlt)]
    simp [cvC]
theorem toCounterS_ev (l : List S160) (hl : l.length ≤ 1048576) : Ev (fun k => laws_toCounterS.f k l) (l.map cvC) := by
  unfold laws_toCounterS.f
  refine Ev.ite_pos (by omega) (Ev.ite_pos (by omega) ?_)
  simpa using toCounterS_l0 l hl l.length 0 (by omega)
theorem toLayout_ev (n : Int) (l : List S160) (hl : l.length ≤ 1048576) : Ev (fun k => laws_toLayout.f k n l) (n, l.map cvC) := by
  unfold laws_toLayout.f
  exact Ev.bind (toCounterS_ev l hl) (Ev.now _)
theorem eqCounterS_l0 (l : List S88) (hl : l.length ≤ 1048576) (d : Nat) : ∀ (i : Nat), i + d = l.length → Ev (fun k => laws_eqCounterS.l0 k l l i) true := by
  induction d with
  | zero =>
    intro i hi
    refine Ev.step (f := fun _ => some true) (fun k => ?_) (Ev.now _)
    simp only [laws_eqCounterS.l0]
    rw [if_neg (by omega)]
  | succ d ih =>
    intro i hi
    refine Ev.step (fun k => ?_) (ih (i + 1) (by omega))
    simp only [laws_eqCounterS.l0, laws_eqCounter.f, if_true, Option.bind_some]
    rw [if_pos (by omega), if_pos (by omega), if_pos (by omega), wrap_succ (by omega)]
theorem eqCounterS_ev (l : List S88) (hl : l.length ≤ 1048576) : Ev (fun k => laws_eqCounterS.f k l l) true := by
  unfold laws_eqCounterS.f
  exact Ev.ite_pos rfl (eqCounterS_l0 l hl l.length 0 (by omega))
theorem eqLayout_ev (n : Int) (l : List S88) (hl : l.length ≤ 1048576) : Ev (fun k => laws_eqLayout.f k n l n l) true := by
  unfold laws_eqLayout.f
  exact Ev.ite_pos rfl (Ev.bind (eqCounterS_ev l hl) (Ev.ite_pos rfl (Ev.now _)))
theorem l1in_eq (x a b : Int) : spec_l1in.f x a b = some (decide (a ≤ x) && decide (x ≤ b)) := by
  unfold spec_l1in.f
  by_cases h : x ≥ a
  · rw [if_pos h]; simp [h]
  · rw [if_neg h]; simp [show ¬ a ≤ x from h]
theorem layoutOk_l0 (n : Int) (l : List S88) (hn : ¬ (n < 1) ∧ ¬ (60 < n) ∧ ¬ (120 < l.length)) (d : Nat) : ∀ (i : Nat), i + d = l.length → (l.take i).all (ctrOk n) = true → Ev (fun k => spec_LayoutOk.l0 k l (l.length : Int) i n l) (layoutOk n l) := by
  obtain ⟨h1, h2, h3⟩ := hn
  induction d with
  | zero =>
    intro i hi ht
    refine Ev.step (f := fun _ => some (layoutOk n l)) (fun k => ?_) (Ev.now _)
    simp only [spec_LayoutOk.l0]
    rw [if_neg (by omega), layoutOk_good ⟨h1, h2, h3⟩ (i := i) (by omega) ht]
  | succ d ih =>
    intro i hi ht
    have hlt : i < l.length := by omega
    have hw : wrap64 (n - 1) = n - 1 := wrap_id (by omega) (by omega)
    by_cases hc : ctrOk n (rd_T88 l i) = true
    · refine Ev.step (fun k => ?_) (ih (i + 1) (by omega) (take_all hlt ht hc))
      simp only [spec_LayoutOk.l0, l1in_eq, Option.bind_some]
      simp only [ctrOk, inB, Bool.and_eq_true, decide_eq_true_eq, Bool.not_eq_true', beq_eq_false_iff_ne] at hc
      rw [if_pos (by omega), if_pos (by omega), if_pos (by omega), hw, if_pos (by simp; omega), if_pos (by simp; omega), if_neg hc.2, wrap_succ (by omega)]
    · have hb : ctrOk n (rd_T88 l i) = false := by simpa using hc
      rw [layoutOk_bad ⟨h1, h2, h3⟩ hlt hb]
      refine Ev.step (f := fun _ => some 2) (fun k => ?_) (Ev.now _)
      simp only [spec_LayoutOk.l0, l1in_eq, Option.bind_some]
      rw [if_pos (by omega), if_pos (by omega), if_pos (by omega), hw]
      by_cases c1 : (decide (-1 ≤ (rd_T88 l i).f0) && decide ((rd_T88 l i).f0 ≤ n - 1)) = true
      · rw [if_pos c1]
        by_cases c2 : (decide (-1 ≤ (rd_T88 l i).f1) && decide ((rd_T88 l i).f1 ≤ n - 1)) = true
        · rw [if_pos c2]
          by_cases c3 : (rd_T88 l i).f0 = (rd_T88 l i).f1
          · rw [if_pos c3]
          · exfalso
            apply hc
            simp only [Bool.and_eq_true, decide_eq_true_eq] at c1 c2
            simp only [ctrOk, inB, Bool.and_eq_true, decide_eq_true_eq, Bool.not_eq_true', beq_eq_false_iff_ne]
            exact ⟨⟨⟨by omega, by omega⟩, by omega, by omega⟩, c3⟩
        · rw [if_neg c2]
      · rw [if_neg c1]
theorem specLayoutOk_ev (n : Int) (l : List S88) : Ev (fun k => spec_LayoutOk.f k n l) (layoutOk n l) := by
  unfold spec_LayoutOk.f
  refine Ev.call (l1in_eq _ _ _) ?_
  by_cases h1 : n < 1
  · refine Ev.ite_neg (by simp; omega) (Ev.step (f := fun _ => some (layoutOk n l)) (fun k => ?_) (Ev.now _))
    simp only [spec_LayoutOk.j0, if_true]
    rw [layoutOk, if_pos h1]
  · by_cases h2 : 60 < n
    · refine Ev.ite_neg (by simp; omega) (Ev.step (f := fun _ => some (layoutOk n l)) (fun k => ?_) (Ev.now _))
      simp only [spec_LayoutOk.j0, if_true]
      rw [layoutOk, if_neg h1, if_pos h2]
    · refine Ev.ite_pos (by simp; omega) ?_
      by_cases h3 : 120 < l.length
      · refine Ev.step (f := fun _ => some (layoutOk n l)) (fun k => ?_) (Ev.now _)
        simp only [spec_LayoutOk.j0]
        rw [if_pos (by simp; omega), layoutOk, if_neg h1, if_neg h2, if_pos h3]
      · refine Ev.step (fun k => ?_) (layoutOk_l0 n l ⟨h1, h2, h3⟩ l.length 0 (by omega) (by simp))
        simp only [spec_LayoutOk.j0]
        rw [if_neg (by simp; omega)]
        rfl
end Go.Proofs.Ytpdnabhpkdchjaa.P
namespace Go.Proofs.Ytpdnabhpkdchjaa.P
open Go.RowKit Go.Proofs.YtpdnabhpkdchjaaW.PrintWords Go.Proofs.YtpdnabhpkdchjaaW.PrintLast Go.Proofs.YtpdnabhpkdchjaaW.PrintMore
attribute [local go_sem] max2_int min2_int max_two min_two max_three min_three max_four min_four
set_option linter.unusedVariables false
set_option linter.unusedSimpArgs false
mutual
def spec_EventOk.j0:Nat→Int→Bool→Int→List (S88)→Int→Int→Int→Option (Bool)
 | 0,_,_,_,_,_,_,_=>none
 | k+1,x9,x10,x218000,x218001,x219000,x219001,x219002=>if x10=true then ((spec_l1in.f x219001 0 (wrap64 ((x218001.length:Int) - 1))).bind fun t220=>(if t220=true then (if x219002=1 then (some true) else (some (x219002==(-1)))) else (some false))) else (if x9=3 then (spec_EventOk.j1 k x9 (x9==3) x218000 x218001 x219000 x219001 x219002) else (spec_EventOk.j1 k x9 (x9==4) x218000 x218001 x219000 x219001 x219002))
def spec_EventOk.j1:Nat→Int→Bool→Int→List (S88)→Int→Int→Int→Option (Bool)
 | 0,_,_,_,_,_,_,_=>none
 | k+1,x9,x30,x218000,x218001,x219000,x219001,x219002=>if x30=true then ((spec_l1in.f x219001 0 (wrap64 ((x218001.length:Int) - 1))).bind fun t221=>(if t221=true then (some (x219002==0)) else (some false))) else (if x9=5 then ((spec_l1in.f x219001 0 (wrap64 (x218000 - 1))).bind fun t222=>(if t222=true then (some (x219002==0)) else (some false))) else (some false))
end
def spec_EventOk.f (k:Nat) (a0_0:Int) (l0_1:List (S88)) (a1_0:Int) (a1_1:Int) (a1_2:Int):Option (Bool):=(spec_LayoutOk.f k a0_0 l0_1).bind fun t219=>(if t219=0 then (if a1_0=1 then (spec_EventOk.j0 k a1_0 (a1_0==1) a0_0 l0_1 a1_0 a1_1 a1_2) else (spec_EventOk.j0 k a1_0 (a1_0==2) a0_0 l0_1 a1_0 a1_1 a1_2)) else (some false))
set_option maxHeartbeats 8000000 in
set_option maxRecDepth 100000 in
theorem spec_EventOk.calls (k:Nat) (a0_0:Int) (A0_1:Option Addr) (c0_1:Nat) (l0_1:List (S88)) (a1_0:Int) (a1_1:Int) (a1_2:Int) (r:Bool) (w:World) (hr0_1:Kd.C k88 w A0_1 l0_1.length l0_1) (hc0_1:l0_1.length≤c0_1) (h:spec_EventOk.f k a0_0 l0_1 a1_0 a1_1 a1_2=some r) :
  Calls Try.prog 34 #[.agg #[.int .i64 a0_0,.slice A0_1 l0_1.length c0_1],.agg #[.int .i64 a1_0,.int .i64 a1_1,.int .i64 a1_2]] w fun e w'=>e=.returned (.bool r)∧Below w.heap.size w w':=by
 have hu30:=Try.underlying30
 have hu56:=Try.underlying56
 have HR0_1:=Aside0.mk hr0_1
 have HC0_1:=Aside0.mk hc0_1
 clear hr0_1 hc0_1
 have HB:=Aside0.mk (Below.refl w.heap.size w)
 have H:((spec_LayoutOk.f k a0_0 l0_1).bind fun t219=>(if t219=0 then (if a1_0=1 then (spec_EventOk.j0 k a1_0 (a1_0==1) a0_0 l0_1 a1_0 a1_1 a1_2) else (spec_EventOk.j0 k a1_0 (a1_0==2) a0_0 l0_1 a1_0 a1_1 a1_2)) else (some false)))=some r:=h
 clear h
 replace H:=Option.bind_eq_some_iff.mp H
 obtain ⟨t219,A30,H⟩:=H
 replace H:(if t219=0 then (if a1_0=1 then (spec_EventOk.j0 k a1_0 (a1_0==1) a0_0 l0_1 a1_0 a1_1 a1_2) else (spec_EventOk.j0 k a1_0 (a1_0==2) a0_0 l0_1 a1_0 a1_1 a1_2)) else (some false))=some r:=H
 have A3:=Aside0.mk A30
 clear A30
 by_cases c4:t219=0
 ·rw [if_pos c4] at H
  have c4b0:(t219==0)=true:=beq_iff_eq.mpr c4
  have c4b1:(t219 != 0)=false:=bne_eq_false_iff_eq.mpr c4
  clear c4
  have HC5:=Aside0.mk H
  clear H
  go_enter Try.func34,Try.ntmps34
  go_upto_if 10 with (first|((with_reducible refine gate_dst (N:=2) rfl ?_);refine box_event ?hg (N:=2) ?hd (cs:=#[.int .i64 a0_0,.slice A0_1 l0_1.length c0_1]) (t:=30) ?hr ?_;(case hd=>rfl);(case hg=>rfl);(case hr=>first|(go_simp;done)|(go_simp;rfl));intro gb217 hg w6 hbox hb;have n0_:=Aside0.mk (below_step (by exact HB.out) hb);have n1_:=Aside0.mk (hbox);have n2_:=Aside0.mk ((by rw [hg];exact (below_size (by exact HB.out)):w.heap.size≤gb217));have n3_:=Aside0.mk ((by rw [hg];exact (below_size (by exact HB.out)):w.heap.size≤gb217));clear HB;have HB:=n0_;have BK217:=n1_;have GW217:=n2_;have GE217:=n3_;clear n0_ n1_ n2_ n3_;clear hb hbox hg)|((with_reducible refine gate_dst (N:=3) rfl ?_);refine box_event ?hg (N:=3) ?hd (cs:=#[.int .i64 a1_0,.int .i64 a1_1,.int .i64 a1_2]) (t:=56) ?hr ?_;(case hd=>rfl);(case hg=>rfl);(case hr=>first|(go_simp;done)|(go_simp;rfl));intro gb218 hg w7 hbox hb;have n0_:=Aside0.mk (blk_below (g:=gb217) (o:=.cells #[.int .i64 a0_0,.slice A0_1 l0_1.length c0_1] 30 (0,0)) (by exact BK217.out) hb);have n1_:=Aside0.mk (below_step (by exact HB.out) hb);have n2_:=Aside0.mk (hbox);have n3_:=Aside0.mk ((by rw [hg];exact (below_size (by exact HB.out)):w.heap.size≤gb218));have n4_:=Aside0.mk ((by rw [hg];exact (below_size (by exact HB.out)):w.heap.size≤gb218));have n5_:=Aside0.mk ((by rw [hg];exact Nat.ne_of_lt (blk_lt (g:=gb217) (o:=.cells #[.int .i64 a0_0,.slice A0_1 l0_1.length c0_1] 30 (0,0)) (by exact BK217.out)):gb217 ≠ gb218));have n6_:=Aside0.mk ((by rw [hg];exact Nat.ne_of_gt (blk_lt (g:=gb217) (o:=.cells #[.int .i64 a0_0,.slice A0_1 l0_1.length c0_1] 30 (0,0)) (by exact BK217.out)):gb218 ≠ gb217));clear BK217;clear HB;have BK217:=n0_;have HB:=n1_;have BK218:=n2_;have GW218:=n3_;have GE218:=n4_;have NB217_218:=n5_;have NB218_217:=n6_;clear n0_ n1_ n2_ n3_ n4_ n5_ n6_;clear hb hbox hg;have hnb8:=NB217_218.out;have hnc8:=NB218_217.out;have hcz9_0:w7.cell? ⟨gb217,0,none⟩=some (.int .i64 a0_0):=(blk_cell BK217.out 0).trans rfl;have hcz9_1:w7.cell? ⟨gb217,1,none⟩=some (.slice A0_1 l0_1.length c0_1):=(blk_cell BK217.out 1).trans rfl;have hfz9_0:=blk_frozen BK217.out 0;have hfz9_1:=blk_frozen BK217.out 1)|((with_reducible refine gate_callee (f:=23) rfl ?_);refine goesL_ (some 6) rfl rfl Try.func23 (by kernel_rfl) rfl #[.agg #[.int .i64 a0_0,.slice A0_1 l0_1.length c0_1]] rfl (by (try simp only [List.map_toArray,List.map_cons,List.map_nil]);first|done|rfl|(simp only [List.length_drop,List.length_take];rfl)) ?_;(with_reducible refine (spec_LayoutOk.calls k a0_0 _ _ l0_1 t219 _ ?side1 ?side2 A3.out).mono ?_);(case side1=>repeat (first|exact (Kd.C_below HR0_1.out HB.out)|(with_reducible refine Kd.C_alloc ?_ _)|(with_reducible refine Kd.C_drewN ?_ _)|(with_reducible refine Kd.C_drew ?_)));(case side2=>exact HC0_1.out);rintro e w10 ⟨rfl,hb⟩;refine ⟨_,rfl,?_⟩;have n0_:=Aside0.mk (blk_below (g:=gb217) (o:=.cells #[.int .i64 a0_0,.slice A0_1 l0_1.length c0_1] 30 (0,0)) (by exact BK217.out) hb);have n1_:=Aside0.mk (blk_below (g:=gb218) (o:=.cells #[.int .i64 a1_0,.int .i64 a1_1,.int .i64 a1_2] 56 (0,0)) (by exact BK218.out) hb);have n2_:=Aside0.mk (below_step (by exact HB.out) hb);clear BK217;clear BK218;clear HB;have BK217:=n0_;have BK218:=n1_;have HB:=n2_;clear n0_ n1_ n2_;(try clear hb);(try clear hb2);(try clear hk);(try clear hi);have hcz11_0:w10.cell? ⟨gb218,0,none⟩=some (.int .i64 a1_0):=(blk_cell BK218.out 0).trans rfl;have hcz11_1:w10.cell? ⟨gb218,1,none⟩=some (.int .i64 a1_1):=(blk_cell BK218.out 1).trans rfl;have hcz11_2:w10.cell? ⟨gb218,2,none⟩=some (.int .i64 a1_2):=(blk_cell BK218.out 2).trans rfl;have hfz11_0:=blk_frozen BK218.out 0;have hfz11_1:=blk_frozen BK218.out 1;have hfz11_2:=blk_frozen BK218.out 2))
  (try simp only [Act.put,List.setIfInBounds_toArray,List.set_cons_zero,List.set_cons_succ])
  go_cut [10] (fun v10 wc=>∃ (kq:Nat) (x10_4:Bool),v10=.bool x10_4∧Aside0 (spec_EventOk.j0 kq a1_0 x10_4 a0_0 l0_1 a1_0 a1_1 a1_2=some r)∧Aside0 (kq≤k)∧Aside0 (wc.heap[gb217]?=some (.cells #[.int .i64 a0_0,(.slice A0_1 l0_1.length c0_1)] 30 (0,0)))∧Aside0 (wc.heap[gb218]?=some (.cells #[.int .i64 a1_0,.int .i64 a1_1,.int .i64 a1_2] 56 (0,0)))∧Aside0 (Below w.heap.size w wc))
  case first =>
   have H:=HC5.out
   clear HC5
   by_cases c12:a1_0=1
   ·rw [if_pos c12] at H
    have c12b0:(a1_0==1)=true:=beq_iff_eq.mpr c12
    have c12b1:(a1_0 != 1)=false:=bne_eq_false_iff_eq.mpr c12
    clear c12
    (first|rw [c12b0]|(simp only [i64_w,i32_w];rw [c12b0])|skip)
    have H':=Aside0.mk H
    clear H
    go_wp2
    go_meet
    case rel=>exact ⟨_,((a1_0==1)),(by first|rfl|(simp;done)|(simp [*];done)),H',⟨by first|omega|exact Nat.le_refl _⟩,⟨by exact BK217.out⟩,⟨by exact BK218.out⟩,⟨by exact HB.out⟩⟩
   rw [if_neg c12] at H
   have c12b0:(a1_0==1)=false:=beq_eq_false_iff_ne.mpr c12
   have c12b1:(a1_0 != 1)=true:=bne_iff_ne.mpr c12
   (first|rw [c12b0]|(simp only [i64_w,i32_w];rw [c12b0])|skip)
   have H':=Aside0.mk H
   clear H
   go_wp2
   go_meet
   case rel=>exact ⟨_,((a1_0==2)),(by first|rfl|(simp;done)|(simp [*];done)),H',⟨by first|omega|exact Nat.le_refl _⟩,⟨by exact BK217.out⟩,⟨by exact BK218.out⟩,⟨by exact HB.out⟩⟩
  case rest =>
   clear HC5
   try clear c1
   try clear c2
   try clear p2
   try clear c3
   try clear c4
   try clear c4b0
   try clear c4b1
   try clear c8
   try clear c12
   try clear c12b0
   try clear c12b1
   try clear hcz11_0
   try clear hcz11_1
   try clear hcz11_2
   try clear hcz9_0
   try clear hcz9_1
   try clear hfz11_0
   try clear hfz11_1
   try clear hfz11_2
   try clear hfz9_0
   try clear hfz9_1
   obtain ⟨kq,x10_4,rfl,HA,HJ4,BK217,BK218,HB⟩:=hcut
   cases kq with
   | zero=>exact absurd HA.out (by simp [spec_EventOk.j0])
   | succ kj4 =>
    have H:=HA.out
    clear HA
    simp only [spec_EventOk.j0] at H
    by_cases c13:x10_4=true
    ·subst c13
     have H1:((spec_l1in.f a1_1 0 (wrap64 ((l0_1.length:Int) - 1))).bind fun t220=>(if t220=true then (if a1_2=1 then (some true) else (some (a1_2==(-1)))) else (some false)))=some r:=by rw [if_pos rfl] at H;exact H
     clear H
     have H:=H1
     clear H1
     replace H:=Option.bind_eq_some_iff.mp H
     obtain ⟨t220,A140,H⟩:=H
     replace H:(if t220=true then (if a1_2=1 then (some true) else (some (a1_2==(-1)))) else (some false))=some r:=H
     have A14:=Aside0.mk A140
     clear A140
     by_cases c15:t220=true
     ·subst c15
      have H1:(if a1_2=1 then (some true) else (some (a1_2==(-1))))=some r:=by rw [if_pos rfl] at H;exact H
      clear H
      have H:=H1
      clear H1
      by_cases c16:a1_2=1
      ·rw [if_pos c16] at H
       have c16b0:(a1_2==1)=true:=beq_iff_eq.mpr c16
       have c16b1:(a1_2 != 1)=false:=bne_eq_false_iff_eq.mpr c16
       clear c16
       obtain rfl:=Option.some.inj H
       have hnb17:=NB218_217.out
       have hnc17:=NB217_218.out
       have hcz18_0:wc.cell? ⟨gb218,0,none⟩=some (.int .i64 a1_0):=(blk_cell BK218.out 0).trans rfl
       have hcz18_1:wc.cell? ⟨gb218,1,none⟩=some (.int .i64 a1_1):=(blk_cell BK218.out 1).trans rfl
       have hcz18_2:wc.cell? ⟨gb218,2,none⟩=some (.int .i64 a1_2):=(blk_cell BK218.out 2).trans rfl
       have hfz18_0:=blk_frozen BK218.out 0
       have hfz18_1:=blk_frozen BK218.out 1
       have hfz18_2:=blk_frozen BK218.out 2
       have hcz19_0:wc.cell? ⟨gb217,0,none⟩=some (.int .i64 a0_0):=(blk_cell BK217.out 0).trans rfl
       have hcz19_1:wc.cell? ⟨gb217,1,none⟩=some (.slice A0_1 l0_1.length c0_1):=(blk_cell BK217.out 1).trans rfl
       have hfz19_0:=blk_frozen BK217.out 0
       have hfz19_1:=blk_frozen BK217.out 1
       go_wp2_with (first|((with_reducible refine gate_callee (f:=87) rfl ?_);refine goesL_ (some 19) rfl rfl Try.func87 (by kernel_rfl) rfl #[.int .i64 a1_1,.int .i64 0,.int .i64 (wrap64 ((l0_1.length:Int) - 1))] rfl (by (try simp only [List.map_toArray,List.map_cons,List.map_nil]);first|done|rfl|(simp only [List.length_drop,List.length_take];rfl)) ?_;(with_reducible refine (spec_l1in.calls a1_1 0 (wrap64 ((l0_1.length:Int) - 1)) true _ A14.out).mono ?_);rintro e w' ⟨rfl,⟨nd,rfl⟩⟩;refine ⟨_,rfl,?_⟩))
       go_ret
       exact ⟨by first|rfl|(simp [errW_none,errW_some] <;> rfl)|(simp [*,errW_none,errW_some] <;> rfl),by repeat (first|(with_reducible first|exact HB.out|apply below_alloc|apply pw_below_drewN|apply below_drew1|refine below_set ?_ GE217.out|refine below_set ?_ GE218.out)|exact HB.out)⟩
      rw [if_neg c16] at H
      have c16b0:(a1_2==1)=false:=beq_eq_false_iff_ne.mpr c16
      have c16b1:(a1_2 != 1)=true:=bne_iff_ne.mpr c16
      obtain rfl:=Option.some.inj H
      have hnb20:=NB218_217.out
      have hnc20:=NB217_218.out
      have hcz21_0:wc.cell? ⟨gb218,0,none⟩=some (.int .i64 a1_0):=(blk_cell BK218.out 0).trans rfl
      have hcz21_1:wc.cell? ⟨gb218,1,none⟩=some (.int .i64 a1_1):=(blk_cell BK218.out 1).trans rfl
      have hcz21_2:wc.cell? ⟨gb218,2,none⟩=some (.int .i64 a1_2):=(blk_cell BK218.out 2).trans rfl
      have hfz21_0:=blk_frozen BK218.out 0
      have hfz21_1:=blk_frozen BK218.out 1
      have hfz21_2:=blk_frozen BK218.out 2
      have hcz22_0:wc.cell? ⟨gb217,0,none⟩=some (.int .i64 a0_0):=(blk_cell BK217.out 0).trans rfl
      have hcz22_1:wc.cell? ⟨gb217,1,none⟩=some (.slice A0_1 l0_1.length c0_1):=(blk_cell BK217.out 1).trans rfl
      have hfz22_0:=blk_frozen BK217.out 0
      have hfz22_1:=blk_frozen BK217.out 1
      go_wp2_with (first|((with_reducible refine gate_callee (f:=87) rfl ?_);refine goesL_ (some 19) rfl rfl Try.func87 (by kernel_rfl) rfl #[.int .i64 a1_1,.int .i64 0,.int .i64 (wrap64 ((l0_1.length:Int) - 1))] rfl (by (try simp only [List.map_toArray,List.map_cons,List.map_nil]);first|done|rfl|(simp only [List.length_drop,List.length_take];rfl)) ?_;(with_reducible refine (spec_l1in.calls a1_1 0 (wrap64 ((l0_1.length:Int) - 1)) true _ A14.out).mono ?_);rintro e w' ⟨rfl,⟨nd,rfl⟩⟩;refine ⟨_,rfl,?_⟩))
      go_ret
      exact ⟨by first|rfl|(simp [errW_none,errW_some] <;> rfl)|(simp [*,errW_none,errW_some] <;> rfl),by repeat (first|(with_reducible first|exact HB.out|apply below_alloc|apply pw_below_drewN|apply below_drew1|refine below_set ?_ GE217.out|refine below_set ?_ GE218.out)|exact HB.out)⟩
     replace c15:=Bool.eq_false_iff.mpr c15
     subst c15
     have H1:(some false)=some r:=by rw [if_neg (show ¬ (false=true) by decide)] at H;exact H
     clear H
     have H:=H1
     clear H1
     obtain rfl:=Option.some.inj H
     have hnb23:=NB218_217.out
     have hnc23:=NB217_218.out
     have hcz24_0:wc.cell? ⟨gb218,0,none⟩=some (.int .i64 a1_0):=(blk_cell BK218.out 0).trans rfl
     have hcz24_1:wc.cell? ⟨gb218,1,none⟩=some (.int .i64 a1_1):=(blk_cell BK218.out 1).trans rfl
     have hcz24_2:wc.cell? ⟨gb218,2,none⟩=some (.int .i64 a1_2):=(blk_cell BK218.out 2).trans rfl
     have hfz24_0:=blk_frozen BK218.out 0
     have hfz24_1:=blk_frozen BK218.out 1
     have hfz24_2:=blk_frozen BK218.out 2
     have hcz25_0:wc.cell? ⟨gb217,0,none⟩=some (.int .i64 a0_0):=(blk_cell BK217.out 0).trans rfl
     have hcz25_1:wc.cell? ⟨gb217,1,none⟩=some (.slice A0_1 l0_1.length c0_1):=(blk_cell BK217.out 1).trans rfl
     have hfz25_0:=blk_frozen BK217.out 0
     have hfz25_1:=blk_frozen BK217.out 1
     go_wp2_with (first|((with_reducible refine gate_callee (f:=87) rfl ?_);refine goesL_ (some 19) rfl rfl Try.func87 (by kernel_rfl) rfl #[.int .i64 a1_1,.int .i64 0,.int .i64 (wrap64 ((l0_1.length:Int) - 1))] rfl (by (try simp only [List.map_toArray,List.map_cons,List.map_nil]);first|done|rfl|(simp only [List.length_drop,List.length_take];rfl)) ?_;(with_reducible refine (spec_l1in.calls a1_1 0 (wrap64 ((l0_1.length:Int) - 1)) false _ A14.out).mono ?_);rintro e w' ⟨rfl,⟨nd,rfl⟩⟩;refine ⟨_,rfl,?_⟩))
     go_ret
     exact ⟨by first|rfl|(simp [errW_none,errW_some] <;> rfl)|(simp [*,errW_none,errW_some] <;> rfl),by repeat (first|(with_reducible first|exact HB.out|apply below_alloc|apply pw_below_drewN|apply below_drew1|refine below_set ?_ GE217.out|refine below_set ?_ GE218.out)|exact HB.out)⟩
    replace c13:=Bool.eq_false_iff.mpr c13
    subst c13
    have H1:(if a1_0=3 then (spec_EventOk.j1 kj4 a1_0 (a1_0==3) a0_0 l0_1 a1_0 a1_1 a1_2) else (spec_EventOk.j1 kj4 a1_0 (a1_0==4) a0_0 l0_1 a1_0 a1_1 a1_2))=some r:=by rw [if_neg (show ¬ (false=true) by decide)] at H;exact H
    clear H
    have H:=H1
    clear H1
    have HC26:=Aside0.mk H
    clear H
    go_upto_if 30 with (fail)
    go_cut [30] (fun v30 wc=>∃ (kq:Nat) (x30_25:Bool),v30=.bool x30_25∧Aside0 (spec_EventOk.j1 kq a1_0 x30_25 a0_0 l0_1 a1_0 a1_1 a1_2=some r)∧Aside0 (kq≤kj4)∧Aside0 (wc.heap[gb217]?=some (.cells #[.int .i64 a0_0,(.slice A0_1 l0_1.length c0_1)] 30 (0,0)))∧Aside0 (wc.heap[gb218]?=some (.cells #[.int .i64 a1_0,.int .i64 a1_1,.int .i64 a1_2] 56 (0,0)))∧Aside0 (Below w.heap.size w wc))
    case first =>
     have H:=HC26.out
     clear HC26
     by_cases c27:a1_0=3
     ·rw [if_pos c27] at H
      have c27b0:(a1_0==3)=true:=beq_iff_eq.mpr c27
      have c27b1:(a1_0 != 3)=false:=bne_eq_false_iff_eq.mpr c27
      clear c27
      (first|rw [c27b0]|(simp only [i64_w,i32_w];rw [c27b0])|skip)
      have H':=Aside0.mk H
      clear H
      go_wp2
      go_meet
      case rel=>exact ⟨_,((a1_0==3)),(by first|rfl|(simp;done)|(simp [*];done)),H',⟨by have:=HJ4.out;first|omega|exact Nat.le_refl _⟩,⟨by exact BK217.out⟩,⟨by exact BK218.out⟩,⟨by exact HB.out⟩⟩
     rw [if_neg c27] at H
     have c27b0:(a1_0==3)=false:=beq_eq_false_iff_ne.mpr c27
     have c27b1:(a1_0 != 3)=true:=bne_iff_ne.mpr c27
     (first|rw [c27b0]|(simp only [i64_w,i32_w];rw [c27b0])|skip)
     have H':=Aside0.mk H
     clear H
     go_wp2
     go_meet
     case rel=>exact ⟨_,((a1_0==4)),(by first|rfl|(simp;done)|(simp [*];done)),H',⟨by have:=HJ4.out;first|omega|exact Nat.le_refl _⟩,⟨by exact BK217.out⟩,⟨by exact BK218.out⟩,⟨by exact HB.out⟩⟩
    case rest =>
     clear HC26
     try clear c1
     try clear c2
     try clear p2
     try clear c3
     try clear c4
     try clear c4b0
     try clear c4b1
     try clear p6
     try clear c8
     try clear c12
     try clear c12b0
     try clear c12b1
     try clear c13
     try clear c15
     try clear c16
     try clear c16b0
     try clear c16b1
     try clear c17
     try clear c20
     try clear c23
     try clear c27
     try clear c27b0
     try clear c27b1
     try clear hcz11_0
     try clear hcz11_1
     try clear hcz11_2
     try clear hcz18_0
     try clear hcz18_1
     try clear hcz18_2
     try clear hcz19_0
     try clear hcz19_1
     try clear hcz21_0
     try clear hcz21_1
     try clear hcz21_2
     try clear hcz22_0
     try clear hcz22_1
     try clear hcz24_0
     try clear hcz24_1
     try clear hcz24_2
     try clear hcz25_0
     try clear hcz25_1
     try clear hcz9_0
     try clear hcz9_1
     try clear hfz11_0
     try clear hfz11_1
     try clear hfz11_2
     try clear hfz18_0
     try clear hfz18_1
     try clear hfz18_2
     try clear hfz19_0
     try clear hfz19_1
     try clear hfz21_0
     try clear hfz21_1
     try clear hfz21_2
     try clear hfz22_0
     try clear hfz22_1
     try clear hfz24_0
     try clear hfz24_1
     try clear hfz24_2
     try clear hfz25_0
     try clear hfz25_1
     try clear hfz9_0
     try clear hfz9_1
     try clear p2
     obtain ⟨kq,x30_25,rfl,HA,HJ25,BK217,BK218,HB⟩:=hcut
     cases kq with
     | zero=>exact absurd HA.out (by simp [spec_EventOk.j1])
     | succ kj25 =>
      have H:=HA.out
      clear HA
      simp only [spec_EventOk.j1] at H
      by_cases c28:x30_25=true
      ·subst c28
       have H1:((spec_l1in.f a1_1 0 (wrap64 ((l0_1.length:Int) - 1))).bind fun t221=>(if t221=true then (some (a1_2==0)) else (some false)))=some r:=by rw [if_pos rfl] at H;exact H
       clear H
       have H:=H1
       clear H1
       replace H:=Option.bind_eq_some_iff.mp H
       obtain ⟨t221,A290,H⟩:=H
       replace H:(if t221=true then (some (a1_2==0)) else (some false))=some r:=H
       have A29:=Aside0.mk A290
       clear A290
       by_cases c30:t221=true
       ·subst c30
        have H1:(some (a1_2==0))=some r:=by rw [if_pos rfl] at H;exact H
        clear H
        have H:=H1
        clear H1
        obtain rfl:=Option.some.inj H
        have hnb31:=NB218_217.out
        have hnc31:=NB217_218.out
        have hcz32_0:wc.cell? ⟨gb218,0,none⟩=some (.int .i64 a1_0):=(blk_cell BK218.out 0).trans rfl
        have hcz32_1:wc.cell? ⟨gb218,1,none⟩=some (.int .i64 a1_1):=(blk_cell BK218.out 1).trans rfl
        have hcz32_2:wc.cell? ⟨gb218,2,none⟩=some (.int .i64 a1_2):=(blk_cell BK218.out 2).trans rfl
        have hfz32_0:=blk_frozen BK218.out 0
        have hfz32_1:=blk_frozen BK218.out 1
        have hfz32_2:=blk_frozen BK218.out 2
        have hcz33_0:wc.cell? ⟨gb217,0,none⟩=some (.int .i64 a0_0):=(blk_cell BK217.out 0).trans rfl
        have hcz33_1:wc.cell? ⟨gb217,1,none⟩=some (.slice A0_1 l0_1.length c0_1):=(blk_cell BK217.out 1).trans rfl
        have hfz33_0:=blk_frozen BK217.out 0
        have hfz33_1:=blk_frozen BK217.out 1
        go_wp2_with (first|((with_reducible refine gate_callee (f:=87) rfl ?_);refine goesL_ (some 39) rfl rfl Try.func87 (by kernel_rfl) rfl #[.int .i64 a1_1,.int .i64 0,.int .i64 (wrap64 ((l0_1.length:Int) - 1))] rfl (by (try simp only [List.map_toArray,List.map_cons,List.map_nil]);first|done|rfl|(simp only [List.length_drop,List.length_take];rfl)) ?_;(with_reducible refine (spec_l1in.calls a1_1 0 (wrap64 ((l0_1.length:Int) - 1)) true _ A29.out).mono ?_);rintro e w' ⟨rfl,⟨nd,rfl⟩⟩;refine ⟨_,rfl,?_⟩))
        go_ret
        exact ⟨by first|rfl|(simp [errW_none,errW_some] <;> rfl)|(simp [*,errW_none,errW_some] <;> rfl),by repeat (first|(with_reducible first|exact HB.out|apply below_alloc|apply pw_below_drewN|apply below_drew1|refine below_set ?_ GE217.out|refine below_set ?_ GE218.out)|exact HB.out)⟩
       replace c30:=Bool.eq_false_iff.mpr c30
       subst c30
       have H1:(some false)=some r:=by rw [if_neg (show ¬ (false=true) by decide)] at H;exact H
       clear H
       have H:=H1
       clear H1
       obtain rfl:=Option.some.inj H
       have hnb34:=NB218_217.out
       have hnc34:=NB217_218.out
       have hcz35_0:wc.cell? ⟨gb218,0,none⟩=some (.int .i64 a1_0):=(blk_cell BK218.out 0).trans rfl
       have hcz35_1:wc.cell? ⟨gb218,1,none⟩=some (.int .i64 a1_1):=(blk_cell BK218.out 1).trans rfl
       have hcz35_2:wc.cell? ⟨gb218,2,none⟩=some (.int .i64 a1_2):=(blk_cell BK218.out 2).trans rfl
       have hfz35_0:=blk_frozen BK218.out 0
       have hfz35_1:=blk_frozen BK218.out 1
       have hfz35_2:=blk_frozen BK218.out 2
       have hcz36_0:wc.cell? ⟨gb217,0,none⟩=some (.int .i64 a0_0):=(blk_cell BK217.out 0).trans rfl
       have hcz36_1:wc.cell? ⟨gb217,1,none⟩=some (.slice A0_1 l0_1.length c0_1):=(blk_cell BK217.out 1).trans rfl
       have hfz36_0:=blk_frozen BK217.out 0
       have hfz36_1:=blk_frozen BK217.out 1
       go_wp2_with (first|((with_reducible refine gate_callee (f:=87) rfl ?_);refine goesL_ (some 39) rfl rfl Try.func87 (by kernel_rfl) rfl #[.int .i64 a1_1,.int .i64 0,.int .i64 (wrap64 ((l0_1.length:Int) - 1))] rfl (by (try simp only [List.map_toArray,List.map_cons,List.map_nil]);first|done|rfl|(simp only [List.length_drop,List.length_take];rfl)) ?_;(with_reducible refine (spec_l1in.calls a1_1 0 (wrap64 ((l0_1.length:Int) - 1)) false _ A29.out).mono ?_);rintro e w' ⟨rfl,⟨nd,rfl⟩⟩;refine ⟨_,rfl,?_⟩))
       go_ret
       exact ⟨by first|rfl|(simp [errW_none,errW_some] <;> rfl)|(simp [*,errW_none,errW_some] <;> rfl),by repeat (first|(with_reducible first|exact HB.out|apply below_alloc|apply pw_below_drewN|apply below_drew1|refine below_set ?_ GE217.out|refine below_set ?_ GE218.out)|exact HB.out)⟩
      replace c28:=Bool.eq_false_iff.mpr c28
      subst c28
      have H1:(if a1_0=5 then ((spec_l1in.f a1_1 0 (wrap64 (a0_0 - 1))).bind fun t222=>(if t222=true then (some (a1_2==0)) else (some false))) else (some false))=some r:=by rw [if_neg (show ¬ (false=true) by decide)] at H;exact H
      clear H
      have H:=H1
      clear H1
      by_cases c37:a1_0=5
      ·rw [if_pos c37] at H
       have c37b0:(a1_0==5)=true:=beq_iff_eq.mpr c37
       have c37b1:(a1_0 != 5)=false:=bne_eq_false_iff_eq.mpr c37
       clear c37
       replace H:=Option.bind_eq_some_iff.mp H
       obtain ⟨t222,A380,H⟩:=H
       replace H:(if t222=true then (some (a1_2==0)) else (some false))=some r:=H
       have A38:=Aside0.mk A380
       clear A380
       by_cases c39:t222=true
       ·subst c39
        have H1:(some (a1_2==0))=some r:=by rw [if_pos rfl] at H;exact H
        clear H
        have H:=H1
        clear H1
        obtain rfl:=Option.some.inj H
        have hnb40:=NB218_217.out
        have hnc40:=NB217_218.out
        have hcz41_0:wc.cell? ⟨gb218,0,none⟩=some (.int .i64 a1_0):=(blk_cell BK218.out 0).trans rfl
        have hcz41_1:wc.cell? ⟨gb218,1,none⟩=some (.int .i64 a1_1):=(blk_cell BK218.out 1).trans rfl
        have hcz41_2:wc.cell? ⟨gb218,2,none⟩=some (.int .i64 a1_2):=(blk_cell BK218.out 2).trans rfl
        have hfz41_0:=blk_frozen BK218.out 0
        have hfz41_1:=blk_frozen BK218.out 1
        have hfz41_2:=blk_frozen BK218.out 2
        have hcz42_0:wc.cell? ⟨gb217,0,none⟩=some (.int .i64 a0_0):=(blk_cell BK217.out 0).trans rfl
        have hcz42_1:wc.cell? ⟨gb217,1,none⟩=some (.slice A0_1 l0_1.length c0_1):=(blk_cell BK217.out 1).trans rfl
        have hfz42_0:=blk_frozen BK217.out 0
        have hfz42_1:=blk_frozen BK217.out 1
        go_wp2_with (first|((with_reducible refine gate_callee (f:=87) rfl ?_);refine goesL_ (some 52) rfl rfl Try.func87 (by kernel_rfl) rfl #[.int .i64 a1_1,.int .i64 0,.int .i64 (wrap64 (a0_0 - 1))] rfl (by (try simp only [List.map_toArray,List.map_cons,List.map_nil]);first|done|rfl|(simp only [List.length_drop,List.length_take];rfl)) ?_;(with_reducible refine (spec_l1in.calls a1_1 0 (wrap64 (a0_0 - 1)) true _ A38.out).mono ?_);rintro e w' ⟨rfl,⟨nd,rfl⟩⟩;refine ⟨_,rfl,?_⟩))
        go_ret
        exact ⟨by first|rfl|(simp [errW_none,errW_some] <;> rfl)|(simp [*,errW_none,errW_some] <;> rfl),by repeat (first|(with_reducible first|exact HB.out|apply below_alloc|apply pw_below_drewN|apply below_drew1|refine below_set ?_ GE217.out|refine below_set ?_ GE218.out)|exact HB.out)⟩
       replace c39:=Bool.eq_false_iff.mpr c39
       subst c39
       have H1:(some false)=some r:=by rw [if_neg (show ¬ (false=true) by decide)] at H;exact H
       clear H
       have H:=H1
       clear H1
       obtain rfl:=Option.some.inj H
       have hnb43:=NB218_217.out
       have hnc43:=NB217_218.out
       have hcz44_0:wc.cell? ⟨gb218,0,none⟩=some (.int .i64 a1_0):=(blk_cell BK218.out 0).trans rfl
       have hcz44_1:wc.cell? ⟨gb218,1,none⟩=some (.int .i64 a1_1):=(blk_cell BK218.out 1).trans rfl
       have hcz44_2:wc.cell? ⟨gb218,2,none⟩=some (.int .i64 a1_2):=(blk_cell BK218.out 2).trans rfl
       have hfz44_0:=blk_frozen BK218.out 0
       have hfz44_1:=blk_frozen BK218.out 1
       have hfz44_2:=blk_frozen BK218.out 2
       have hcz45_0:wc.cell? ⟨gb217,0,none⟩=some (.int .i64 a0_0):=(blk_cell BK217.out 0).trans rfl
       have hcz45_1:wc.cell? ⟨gb217,1,none⟩=some (.slice A0_1 l0_1.length c0_1):=(blk_cell BK217.out 1).trans rfl
       have hfz45_0:=blk_frozen BK217.out 0
       have hfz45_1:=blk_frozen BK217.out 1
       go_wp2_with (first|((with_reducible refine gate_callee (f:=87) rfl ?_);refine goesL_ (some 52) rfl rfl Try.func87 (by kernel_rfl) rfl #[.int .i64 a1_1,.int .i64 0,.int .i64 (wrap64 (a0_0 - 1))] rfl (by (try simp only [List.map_toArray,List.map_cons,List.map_nil]);first|done|rfl|(simp only [List.length_drop,List.length_take];rfl)) ?_;(with_reducible refine (spec_l1in.calls a1_1 0 (wrap64 (a0_0 - 1)) false _ A38.out).mono ?_);rintro e w' ⟨rfl,⟨nd,rfl⟩⟩;refine ⟨_,rfl,?_⟩))
       go_ret
       exact ⟨by first|rfl|(simp [errW_none,errW_some] <;> rfl)|(simp [*,errW_none,errW_some] <;> rfl),by repeat (first|(with_reducible first|exact HB.out|apply below_alloc|apply pw_below_drewN|apply below_drew1|refine below_set ?_ GE217.out|refine below_set ?_ GE218.out)|exact HB.out)⟩
      rw [if_neg c37] at H
      have c37b0:(a1_0==5)=false:=beq_eq_false_iff_ne.mpr c37
      have c37b1:(a1_0 != 5)=true:=bne_iff_ne.mpr c37
      obtain rfl:=Option.some.inj H
      go_wp2
      go_ret
      exact ⟨by first|rfl|(simp [errW_none,errW_some] <;> rfl)|(simp [*,errW_none,errW_some] <;> rfl),by exact HB.out⟩
 rw [if_neg c4] at H
 have c4b0:(t219==0)=false:=beq_eq_false_iff_ne.mpr c4
 have c4b1:(t219 != 0)=true:=bne_iff_ne.mpr c4
 obtain rfl:=Option.some.inj H
 go_enter Try.func34,Try.ntmps34
 go_wp2_with (first|((with_reducible refine gate_dst (N:=2) rfl ?_);refine box_event ?hg (N:=2) ?hd (cs:=#[.int .i64 a0_0,.slice A0_1 l0_1.length c0_1]) (t:=30) ?hr ?_;(case hd=>rfl);(case hg=>rfl);(case hr=>first|(go_simp;done)|(go_simp;rfl));intro gb217 hg w46 hbox hb;have n0_:=Aside0.mk (below_step (by exact HB.out) hb);have n1_:=Aside0.mk (hbox);have n2_:=Aside0.mk ((by rw [hg];exact (below_size (by exact HB.out)):w.heap.size≤gb217));have n3_:=Aside0.mk ((by rw [hg];exact (below_size (by exact HB.out)):w.heap.size≤gb217));clear HB;have HB:=n0_;have BK217:=n1_;have GW217:=n2_;have GE217:=n3_;clear n0_ n1_ n2_ n3_;clear hb hbox hg)|((with_reducible refine gate_dst (N:=3) rfl ?_);refine box_event ?hg (N:=3) ?hd (cs:=#[.int .i64 a1_0,.int .i64 a1_1,.int .i64 a1_2]) (t:=56) ?hr ?_;(case hd=>rfl);(case hg=>rfl);(case hr=>first|(go_simp;done)|(go_simp;rfl));intro gb218 hg w47 hbox hb;have n0_:=Aside0.mk (blk_below (g:=gb217) (o:=.cells #[.int .i64 a0_0,.slice A0_1 l0_1.length c0_1] 30 (0,0)) (by exact BK217.out) hb);have n1_:=Aside0.mk (below_step (by exact HB.out) hb);have n2_:=Aside0.mk (hbox);have n3_:=Aside0.mk ((by rw [hg];exact (below_size (by exact HB.out)):w.heap.size≤gb218));have n4_:=Aside0.mk ((by rw [hg];exact (below_size (by exact HB.out)):w.heap.size≤gb218));have n5_:=Aside0.mk ((by rw [hg];exact Nat.ne_of_lt (blk_lt (g:=gb217) (o:=.cells #[.int .i64 a0_0,.slice A0_1 l0_1.length c0_1] 30 (0,0)) (by exact BK217.out)):gb217 ≠ gb218));have n6_:=Aside0.mk ((by rw [hg];exact Nat.ne_of_gt (blk_lt (g:=gb217) (o:=.cells #[.int .i64 a0_0,.slice A0_1 l0_1.length c0_1] 30 (0,0)) (by exact BK217.out)):gb218 ≠ gb217));clear BK217;clear HB;have BK217:=n0_;have HB:=n1_;have BK218:=n2_;have GW218:=n3_;have GE218:=n4_;have NB217_218:=n5_;have NB218_217:=n6_;clear n0_ n1_ n2_ n3_ n4_ n5_ n6_;clear hb hbox hg;have hnb48:=NB217_218.out;have hnc48:=NB218_217.out;have hcz49_0:w47.cell? ⟨gb217,0,none⟩=some (.int .i64 a0_0):=(blk_cell BK217.out 0).trans rfl;have hcz49_1:w47.cell? ⟨gb217,1,none⟩=some (.slice A0_1 l0_1.length c0_1):=(blk_cell BK217.out 1).trans rfl;have hfz49_0:=blk_frozen BK217.out 0;have hfz49_1:=blk_frozen BK217.out 1)|((with_reducible refine gate_callee (f:=23) rfl ?_);refine goesL_ (some 6) rfl rfl Try.func23 (by kernel_rfl) rfl #[.agg #[.int .i64 a0_0,.slice A0_1 l0_1.length c0_1]] rfl (by (try simp only [List.map_toArray,List.map_cons,List.map_nil]);first|done|rfl|(simp only [List.length_drop,List.length_take];rfl)) ?_;(with_reducible refine (spec_LayoutOk.calls k a0_0 _ _ l0_1 t219 _ ?side1 ?side2 A3.out).mono ?_);(case side1=>repeat (first|exact (Kd.C_below HR0_1.out HB.out)|(with_reducible refine Kd.C_alloc ?_ _)|(with_reducible refine Kd.C_drewN ?_ _)|(with_reducible refine Kd.C_drew ?_)));(case side2=>exact HC0_1.out);rintro e w50 ⟨rfl,hb⟩;refine ⟨_,rfl,?_⟩;have n0_:=Aside0.mk (blk_below (g:=gb217) (o:=.cells #[.int .i64 a0_0,.slice A0_1 l0_1.length c0_1] 30 (0,0)) (by exact BK217.out) hb);have n1_:=Aside0.mk (blk_below (g:=gb218) (o:=.cells #[.int .i64 a1_0,.int .i64 a1_1,.int .i64 a1_2] 56 (0,0)) (by exact BK218.out) hb);have n2_:=Aside0.mk (below_step (by exact HB.out) hb);clear BK217;clear BK218;clear HB;have BK217:=n0_;have BK218:=n1_;have HB:=n2_;clear n0_ n1_ n2_;(try clear hb);(try clear hb2);(try clear hk);(try clear hi)))
 go_ret
 exact ⟨by first|rfl|(simp [errW_none,errW_some] <;> rfl)|(simp [*,errW_none,errW_some] <;> rfl),by exact HB.out⟩
end Go.Proofs.Ytpdnabhpkdchjaa.P
namespace Go.Proofs.Ytpdnabhpkdchjaa.P
open Go.RowKit Go.Proofs.YtpdnabhpkdchjaaW.PrintWords Go.Proofs.YtpdnabhpkdchjaaW.PrintLast Go.Proofs.YtpdnabhpkdchjaaW.PrintMore
attribute [local go_sem] max2_int min2_int max_two min_two max_three min_three max_four min_four
set_option linter.unusedVariables false
set_option linter.unusedSimpArgs false
mutual
def impl_EventOk.j0:Nat→Bool→Int→List (S88)→Int→Int→Int→Option (Bool)
 | 0,_,_,_,_,_,_=>none
 | k+1,x5,x309000,x309001,x310000,x310001,x310002=>if x310000=1 then (impl_EventOk.j1 k x5 x310000 (x310000==1) x309000 x309001 x310000 x310001 x310002) else (impl_EventOk.j1 k x5 x310000 (x310000==2) x309000 x309001 x310000 x310001 x310002)
def impl_EventOk.j1:Nat→Bool→Int→Bool→Int→List (S88)→Int→Int→Int→Option (Bool)
 | 0,_,_,_,_,_,_,_,_=>none
 | k+1,x5,x21,x22,x309000,x309001,x310000,x310001,x310002=>if x22=true then (if x5=true then (if x310002=1 then (some true) else (some (x310002==(-1)))) else (some false)) else (if x21=3 then (impl_EventOk.j2 k x5 x21 (x21==3) x309000 x309001 x310000 x310001 x310002) else (impl_EventOk.j2 k x5 x21 (x21==4) x309000 x309001 x310000 x310001 x310002))
def impl_EventOk.j2:Nat→Bool→Int→Bool→Int→List (S88)→Int→Int→Int→Option (Bool)
 | 0,_,_,_,_,_,_,_,_=>none
 | k+1,x5,x21,x36,x309000,x309001,x310000,x310001,x310002=>if x36=true then (if x5=true then (some (x310002==0)) else (some false)) else (if x21=5 then (if x310001 ≥ 0 then (if x310001<x309000 then (some (x310002==0)) else (some false)) else (some false)) else (some false))
end
def impl_EventOk.f (k:Nat) (a0_0:Int) (l0_1:List (S88)) (a1_0:Int) (a1_1:Int) (a1_2:Int):Option (Bool):=(impl_LayoutOk.f a0_0 l0_1).bind fun t310=>(if t310=0 then (if a1_1 ≥ 0 then (impl_EventOk.j0 k (decide (a1_1<(l0_1.length:Int))) a0_0 l0_1 a1_0 a1_1 a1_2) else (impl_EventOk.j0 k false a0_0 l0_1 a1_0 a1_1 a1_2)) else (some false))
set_option maxHeartbeats 8000000 in
set_option maxRecDepth 100000 in
theorem impl_EventOk.calls (k:Nat) (a0_0:Int) (A0_1:Option Addr) (c0_1:Nat) (l0_1:List (S88)) (a1_0:Int) (a1_1:Int) (a1_2:Int) (r:Bool) (w:World) (hr0_1:Kd.C k88 w A0_1 l0_1.length l0_1) (hc0_1:l0_1.length≤c0_1) (h:impl_EventOk.f k a0_0 l0_1 a1_0 a1_1 a1_2=some r) :
  Calls Try.prog 36 #[.agg #[.int .i64 a0_0,.slice A0_1 l0_1.length c0_1],.agg #[.int .i64 a1_0,.int .i64 a1_1,.int .i64 a1_2]] w fun e w'=>e=.returned (.bool r)∧Below w.heap.size w w':=by
 have hu30:=Try.underlying30
 have hu56:=Try.underlying56
 have HR0_1:=Aside0.mk hr0_1
 have HC0_1:=Aside0.mk hc0_1
 clear hr0_1 hc0_1
 have HB:=Aside0.mk (Below.refl w.heap.size w)
 have H:((impl_LayoutOk.f a0_0 l0_1).bind fun t310=>(if t310=0 then (if a1_1 ≥ 0 then (impl_EventOk.j0 k (decide (a1_1<(l0_1.length:Int))) a0_0 l0_1 a1_0 a1_1 a1_2) else (impl_EventOk.j0 k false a0_0 l0_1 a1_0 a1_1 a1_2)) else (some false)))=some r:=h
 clear h
 replace H:=Option.bind_eq_some_iff.mp H
 obtain ⟨t310,A30,H⟩:=H
 replace H:(if t310=0 then (if a1_1 ≥ 0 then (impl_EventOk.j0 k (decide (a1_1<(l0_1.length:Int))) a0_0 l0_1 a1_0 a1_1 a1_2) else (impl_EventOk.j0 k false a0_0 l0_1 a1_0 a1_1 a1_2)) else (some false))=some r:=H
 have A3:=Aside0.mk A30
 clear A30
 by_cases c4:t310=0
 ·rw [if_pos c4] at H
  have c4b0:(t310==0)=true:=beq_iff_eq.mpr c4
  have c4b1:(t310 != 0)=false:=bne_eq_false_iff_eq.mpr c4
  clear c4
  have HC5:=Aside0.mk H
  clear H
  go_enter Try.func36,Try.ntmps36
  go_upto_region 3 with (first|((with_reducible refine gate_dst (N:=2) rfl ?_);(try (refine gate_guard (by rfl) ?_;dsimp only));refine box_event ?hg (N:=2) ?hd (cs:=#[.int .i64 a0_0,.slice A0_1 l0_1.length c0_1]) (t:=30) ?hr ?_;(case hd=>rfl);(case hg=>rfl);(case hr=>first|(go_simp;done)|(go_simp;rfl));intro gb308 hg w6 hbox hb;have n0_:=Aside0.mk (below_step (by exact HB.out) hb);have n1_:=Aside0.mk (hbox);have n2_:=Aside0.mk ((by rw [hg];exact (below_size (by exact HB.out)):w.heap.size≤gb308));have n3_:=Aside0.mk ((by rw [hg];exact (below_size (by exact HB.out)):w.heap.size≤gb308));clear HB;have HB:=n0_;have BK308:=n1_;have GW308:=n2_;have GE308:=n3_;clear n0_ n1_ n2_ n3_;clear hb hbox hg)|((with_reducible refine gate_dst (N:=3) rfl ?_);(try (refine gate_guard (by rfl) ?_;dsimp only));refine box_event ?hg (N:=3) ?hd (cs:=#[.int .i64 a1_0,.int .i64 a1_1,.int .i64 a1_2]) (t:=56) ?hr ?_;(case hd=>rfl);(case hg=>rfl);(case hr=>first|(go_simp;done)|(go_simp;rfl));intro gb309 hg w7 hbox hb;have n0_:=Aside0.mk (blk_below (g:=gb308) (o:=.cells #[.int .i64 a0_0,.slice A0_1 l0_1.length c0_1] 30 (0,0)) (by exact BK308.out) hb);have n1_:=Aside0.mk (below_step (by exact HB.out) hb);have n2_:=Aside0.mk (hbox);have n3_:=Aside0.mk ((by rw [hg];exact (below_size (by exact HB.out)):w.heap.size≤gb309));have n4_:=Aside0.mk ((by rw [hg];exact (below_size (by exact HB.out)):w.heap.size≤gb309));have n5_:=Aside0.mk ((by rw [hg];exact Nat.ne_of_lt (blk_lt (g:=gb308) (o:=.cells #[.int .i64 a0_0,.slice A0_1 l0_1.length c0_1] 30 (0,0)) (by exact BK308.out)):gb308 ≠ gb309));have n6_:=Aside0.mk ((by rw [hg];exact Nat.ne_of_gt (blk_lt (g:=gb308) (o:=.cells #[.int .i64 a0_0,.slice A0_1 l0_1.length c0_1] 30 (0,0)) (by exact BK308.out)):gb309 ≠ gb308));clear BK308;clear HB;have BK308:=n0_;have HB:=n1_;have BK309:=n2_;have GW309:=n3_;have GE309:=n4_;have NB308_309:=n5_;have NB309_308:=n6_;clear n0_ n1_ n2_ n3_ n4_ n5_ n6_;clear hb hbox hg;have hnb8:=NB308_309.out;have hnc8:=NB309_308.out;have hcz9_0:w7.cell? ⟨gb308,0,none⟩=some (.int .i64 a0_0):=(blk_cell BK308.out 0).trans rfl;have hcz9_1:w7.cell? ⟨gb308,1,none⟩=some (.slice A0_1 l0_1.length c0_1):=(blk_cell BK308.out 1).trans rfl;have hfz9_0:=blk_frozen BK308.out 0;have hfz9_1:=blk_frozen BK308.out 1)|((with_reducible refine gate_callee (f:=25) rfl ?_);refine goesL_ (some 7) rfl rfl Try.func25 (by kernel_rfl) rfl #[.agg #[.int .i64 a0_0,.slice A0_1 l0_1.length c0_1]] rfl (by (try simp only [List.map_toArray,List.map_cons,List.map_nil]);first|done|rfl|(simp only [List.length_drop,List.length_take];rfl)) ?_;(with_reducible refine (impl_LayoutOk.calls a0_0 _ _ l0_1 t310 _ ?side1 ?side2 A3.out).mono ?_);(case side1=>repeat (first|exact (Kd.C_below HR0_1.out HB.out)|(with_reducible refine Kd.C_alloc ?_ _)|(with_reducible refine Kd.C_drewN ?_ _)|(with_reducible refine Kd.C_drew ?_)));(case side2=>exact HC0_1.out);rintro e w10 ⟨rfl,hb⟩;refine ⟨_,rfl,?_⟩;have n0_:=Aside0.mk (blk_below (g:=gb308) (o:=.cells #[.int .i64 a0_0,.slice A0_1 l0_1.length c0_1] 30 (0,0)) (by exact BK308.out) hb);have n1_:=Aside0.mk (blk_below (g:=gb309) (o:=.cells #[.int .i64 a1_0,.int .i64 a1_1,.int .i64 a1_2] 56 (0,0)) (by exact BK309.out) hb);have n2_:=Aside0.mk (below_step (by exact HB.out) hb);clear BK308;clear BK309;clear HB;have BK308:=n0_;have BK309:=n1_;have HB:=n2_;clear n0_ n1_ n2_;(try clear hb);(try clear hb2);(try clear hk);(try clear hi)))
  (try simp only [Act.put,List.setIfInBounds_toArray,List.set_cons_zero,List.set_cons_succ])
  go_cut [5] (fun v5 wc=>∃ (kq:Nat) (x5_4:Bool),v5=.bool x5_4∧Aside0 (impl_EventOk.j0 kq x5_4 a0_0 l0_1 a1_0 a1_1 a1_2=some r)∧Aside0 (kq≤k)∧Aside0 (wc.heap[gb308]?=some (.cells #[.int .i64 a0_0,(.slice A0_1 l0_1.length c0_1)] 30 (0,0)))∧Aside0 (wc.heap[gb309]?=some (.cells #[.int .i64 a1_0,.int .i64 a1_1,.int .i64 a1_2] 56 (0,0)))∧Aside0 (Below w.heap.size w wc))
  case first =>
   have H:=HC5.out
   clear HC5
   by_cases c11:a1_1 ≥ 0
   ·rw [if_pos c11] at H
    have c11b0:decide (0≤a1_1)=true:=decide_eq_true c11
    clear c11
    (first|rw [c11b0]|(simp only [i64_w,i32_w];rw [c11b0])|skip)
    have H':=Aside0.mk H
    clear H
    have hnb12:=NB309_308.out
    have hnc12:=NB308_309.out
    have hcz13_0:w10.cell? ⟨gb309,0,none⟩=some (.int .i64 a1_0):=(blk_cell BK309.out 0).trans rfl
    have hcz13_1:w10.cell? ⟨gb309,1,none⟩=some (.int .i64 a1_1):=(blk_cell BK309.out 1).trans rfl
    have hcz13_2:w10.cell? ⟨gb309,2,none⟩=some (.int .i64 a1_2):=(blk_cell BK309.out 2).trans rfl
    have hfz13_0:=blk_frozen BK309.out 0
    have hfz13_1:=blk_frozen BK309.out 1
    have hfz13_2:=blk_frozen BK309.out 2
    have hcz14_0:w10.cell? ⟨gb308,0,none⟩=some (.int .i64 a0_0):=(blk_cell BK308.out 0).trans rfl
    have hcz14_1:w10.cell? ⟨gb308,1,none⟩=some (.slice A0_1 l0_1.length c0_1):=(blk_cell BK308.out 1).trans rfl
    have hfz14_0:=blk_frozen BK308.out 0
    have hfz14_1:=blk_frozen BK308.out 1
    go_wp2
    go_meet
    case rel=>exact ⟨_,(decide (a1_1<(l0_1.length:Int))),(by first|rfl|(simp;done)|(simp [*];done)),H',⟨by first|omega|exact Nat.le_refl _⟩,⟨by exact BK308.out⟩,⟨by exact BK309.out⟩,⟨by exact HB.out⟩⟩
   rw [if_neg c11] at H
   have c11b0:decide (0≤a1_1)=false:=decide_eq_false c11
   clear c11
   (first|rw [c11b0]|(simp only [i64_w,i32_w];rw [c11b0])|skip)
   have H':=Aside0.mk H
   clear H
   have hnb15:=NB309_308.out
   have hnc15:=NB308_309.out
   have hcz16_0:w10.cell? ⟨gb309,0,none⟩=some (.int .i64 a1_0):=(blk_cell BK309.out 0).trans rfl
   have hcz16_1:w10.cell? ⟨gb309,1,none⟩=some (.int .i64 a1_1):=(blk_cell BK309.out 1).trans rfl
   have hcz16_2:w10.cell? ⟨gb309,2,none⟩=some (.int .i64 a1_2):=(blk_cell BK309.out 2).trans rfl
   have hfz16_0:=blk_frozen BK309.out 0
   have hfz16_1:=blk_frozen BK309.out 1
   have hfz16_2:=blk_frozen BK309.out 2
   go_wp2
   go_meet
   case rel=>exact ⟨_,(false),(by first|rfl|(simp;done)|(simp [*];done)),H',⟨by first|omega|exact Nat.le_refl _⟩,⟨by exact BK308.out⟩,⟨by exact BK309.out⟩,⟨by exact HB.out⟩⟩
  case rest =>
   clear HC5
   try clear c1
   try clear c2
   try clear p2
   try clear c3
   try clear c4
   try clear c4b0
   try clear c4b1
   try clear c8
   try clear c11
   try clear c11b0
   try clear c12
   try clear c15
   try clear hcz13_0
   try clear hcz13_1
   try clear hcz13_2
   try clear hcz14_0
   try clear hcz14_1
   try clear hcz16_0
   try clear hcz16_1
   try clear hcz16_2
   try clear hcz9_0
   try clear hcz9_1
   try clear hfz13_0
   try clear hfz13_1
   try clear hfz13_2
   try clear hfz14_0
   try clear hfz14_1
   try clear hfz16_0
   try clear hfz16_1
   try clear hfz16_2
   try clear hfz9_0
   try clear hfz9_1
   obtain ⟨kq,x5_4,rfl,HA,HJ4,BK308,BK309,HB⟩:=hcut
   cases kq with
   | zero=>exact absurd HA.out (by simp [impl_EventOk.j0])
   | succ kj4 =>
    have H:=HA.out
    clear HA
    simp only [impl_EventOk.j0] at H
    have HC17:=Aside0.mk H
    clear H
    have hnb18:=NB309_308.out
    have hnc18:=NB308_309.out
    have hcz19_0:wc.cell? ⟨gb309,0,none⟩=some (.int .i64 a1_0):=(blk_cell BK309.out 0).trans rfl
    have hcz19_1:wc.cell? ⟨gb309,1,none⟩=some (.int .i64 a1_1):=(blk_cell BK309.out 1).trans rfl
    have hcz19_2:wc.cell? ⟨gb309,2,none⟩=some (.int .i64 a1_2):=(blk_cell BK309.out 2).trans rfl
    have hfz19_0:=blk_frozen BK309.out 0
    have hfz19_1:=blk_frozen BK309.out 1
    have hfz19_2:=blk_frozen BK309.out 2
    go_upto_if 22 with (fail)
    go_cut [22] (fun v22 wc=>∃ (kq:Nat) (x22_16:Bool),v22=.bool x22_16∧Aside0 (impl_EventOk.j1 kq x5_4 a1_0 x22_16 a0_0 l0_1 a1_0 a1_1 a1_2=some r)∧Aside0 (kq≤kj4)∧Aside0 (wc.heap[gb308]?=some (.cells #[.int .i64 a0_0,(.slice A0_1 l0_1.length c0_1)] 30 (0,0)))∧Aside0 (wc.heap[gb309]?=some (.cells #[.int .i64 a1_0,.int .i64 a1_1,.int .i64 a1_2] 56 (0,0)))∧Aside0 (Below w.heap.size w wc))
    case first =>
     have H:=HC17.out
     clear HC17
     by_cases c20:a1_0=1
     ·rw [if_pos c20] at H
      have c20b0:(a1_0==1)=true:=beq_iff_eq.mpr c20
      have c20b1:(a1_0 != 1)=false:=bne_eq_false_iff_eq.mpr c20
      clear c20
      (first|rw [c20b0]|(simp only [i64_w,i32_w];rw [c20b0])|skip)
      have H':=Aside0.mk H
      clear H
      go_wp2
      go_meet
      case rel=>exact ⟨_,((a1_0==1)),(by first|rfl|(simp;done)|(simp [*];done)),H',⟨by have:=HJ4.out;first|omega|exact Nat.le_refl _⟩,⟨by exact BK308.out⟩,⟨by exact BK309.out⟩,⟨by exact HB.out⟩⟩
     rw [if_neg c20] at H
     have c20b0:(a1_0==1)=false:=beq_eq_false_iff_ne.mpr c20
     have c20b1:(a1_0 != 1)=true:=bne_iff_ne.mpr c20
     (first|rw [c20b0]|(simp only [i64_w,i32_w];rw [c20b0])|skip)
     have H':=Aside0.mk H
     clear H
     go_wp2
     go_meet
     case rel=>exact ⟨_,((a1_0==2)),(by first|rfl|(simp;done)|(simp [*];done)),H',⟨by have:=HJ4.out;first|omega|exact Nat.le_refl _⟩,⟨by exact BK308.out⟩,⟨by exact BK309.out⟩,⟨by exact HB.out⟩⟩
    case rest =>
     clear HC17
     try clear c1
     try clear c2
     try clear p2
     try clear c3
     try clear c4
     try clear c4b0
     try clear c4b1
     try clear c8
     try clear c11
     try clear c11b0
     try clear c12
     try clear c15
     try clear c18
     try clear c20
     try clear c20b0
     try clear c20b1
     try clear hcz13_0
     try clear hcz13_1
     try clear hcz13_2
     try clear hcz14_0
     try clear hcz14_1
     try clear hcz16_0
     try clear hcz16_1
     try clear hcz16_2
     try clear hcz19_0
     try clear hcz19_1
     try clear hcz19_2
     try clear hcz9_0
     try clear hcz9_1
     try clear hfz13_0
     try clear hfz13_1
     try clear hfz13_2
     try clear hfz14_0
     try clear hfz14_1
     try clear hfz16_0
     try clear hfz16_1
     try clear hfz16_2
     try clear hfz19_0
     try clear hfz19_1
     try clear hfz19_2
     try clear hfz9_0
     try clear hfz9_1
     try clear p2
     obtain ⟨kq,x22_16,rfl,HA,HJ16,BK308,BK309,HB⟩:=hcut
     cases kq with
     | zero=>exact absurd HA.out (by simp [impl_EventOk.j1])
     | succ kj16 =>
      have H:=HA.out
      clear HA
      simp only [impl_EventOk.j1] at H
      by_cases c21:x22_16=true
      ·subst c21
       have H1:(if x5_4=true then (if a1_2=1 then (some true) else (some (a1_2==(-1)))) else (some false))=some r:=by rw [if_pos rfl] at H;exact H
       clear H
       have H:=H1
       clear H1
       by_cases c22:x5_4=true
       ·subst c22
        have H1:(if a1_2=1 then (some true) else (some (a1_2==(-1))))=some r:=by rw [if_pos rfl] at H;exact H
        clear H
        have H:=H1
        clear H1
        by_cases c23:a1_2=1
        ·rw [if_pos c23] at H
         have c23b0:(a1_2==1)=true:=beq_iff_eq.mpr c23
         have c23b1:(a1_2 != 1)=false:=bne_eq_false_iff_eq.mpr c23
         clear c23
         obtain rfl:=Option.some.inj H
         have hnb24:=NB309_308.out
         have hnc24:=NB308_309.out
         have hcz25_0:wc.cell? ⟨gb309,0,none⟩=some (.int .i64 a1_0):=(blk_cell BK309.out 0).trans rfl
         have hcz25_1:wc.cell? ⟨gb309,1,none⟩=some (.int .i64 a1_1):=(blk_cell BK309.out 1).trans rfl
         have hcz25_2:wc.cell? ⟨gb309,2,none⟩=some (.int .i64 a1_2):=(blk_cell BK309.out 2).trans rfl
         have hfz25_0:=blk_frozen BK309.out 0
         have hfz25_1:=blk_frozen BK309.out 1
         have hfz25_2:=blk_frozen BK309.out 2
         go_wp2
         go_ret
         exact ⟨by first|rfl|(simp [errW_none,errW_some] <;> rfl)|(simp [*,errW_none,errW_some] <;> rfl),by exact HB.out⟩
        rw [if_neg c23] at H
        have c23b0:(a1_2==1)=false:=beq_eq_false_iff_ne.mpr c23
        have c23b1:(a1_2 != 1)=true:=bne_iff_ne.mpr c23
        obtain rfl:=Option.some.inj H
        have hnb26:=NB309_308.out
        have hnc26:=NB308_309.out
        have hcz27_0:wc.cell? ⟨gb309,0,none⟩=some (.int .i64 a1_0):=(blk_cell BK309.out 0).trans rfl
        have hcz27_1:wc.cell? ⟨gb309,1,none⟩=some (.int .i64 a1_1):=(blk_cell BK309.out 1).trans rfl
        have hcz27_2:wc.cell? ⟨gb309,2,none⟩=some (.int .i64 a1_2):=(blk_cell BK309.out 2).trans rfl
        have hfz27_0:=blk_frozen BK309.out 0
        have hfz27_1:=blk_frozen BK309.out 1
        have hfz27_2:=blk_frozen BK309.out 2
        go_wp2
        go_ret
        exact ⟨by first|rfl|(simp [errW_none,errW_some] <;> rfl)|(simp [*,errW_none,errW_some] <;> rfl),by exact HB.out⟩
       replace c22:=Bool.eq_false_iff.mpr c22
       subst c22
       have H1:(some false)=some r:=by rw [if_neg (show ¬ (false=true) by decide)] at H;exact H
       clear H
       have H:=H1
       clear H1
       obtain rfl:=Option.some.inj H
       go_wp2
       go_ret
       exact ⟨by first|rfl|(simp [errW_none,errW_some] <;> rfl)|(simp [*,errW_none,errW_some] <;> rfl),by exact HB.out⟩
      replace c21:=Bool.eq_false_iff.mpr c21
      subst c21
      have H1:(if a1_0=3 then (impl_EventOk.j2 kj16 x5_4 a1_0 (a1_0==3) a0_0 l0_1 a1_0 a1_1 a1_2) else (impl_EventOk.j2 kj16 x5_4 a1_0 (a1_0==4) a0_0 l0_1 a1_0 a1_1 a1_2))=some r:=by rw [if_neg (show ¬ (false=true) by decide)] at H;exact H
      clear H
      have H:=H1
      clear H1
      have HC28:=Aside0.mk H
      clear H
      go_upto_if 36 with (fail)
      go_cut [36] (fun v36 wc=>∃ (kq:Nat) (x36_27:Bool),v36=.bool x36_27∧Aside0 (impl_EventOk.j2 kq x5_4 a1_0 x36_27 a0_0 l0_1 a1_0 a1_1 a1_2=some r)∧Aside0 (kq≤kj16)∧Aside0 (wc.heap[gb308]?=some (.cells #[.int .i64 a0_0,(.slice A0_1 l0_1.length c0_1)] 30 (0,0)))∧Aside0 (wc.heap[gb309]?=some (.cells #[.int .i64 a1_0,.int .i64 a1_1,.int .i64 a1_2] 56 (0,0)))∧Aside0 (Below w.heap.size w wc))
      case first =>
       have H:=HC28.out
       clear HC28
       by_cases c29:a1_0=3
       ·rw [if_pos c29] at H
        have c29b0:(a1_0==3)=true:=beq_iff_eq.mpr c29
        have c29b1:(a1_0 != 3)=false:=bne_eq_false_iff_eq.mpr c29
        clear c29
        (first|rw [c29b0]|(simp only [i64_w,i32_w];rw [c29b0])|skip)
        have H':=Aside0.mk H
        clear H
        go_wp2
        go_meet
        case rel=>exact ⟨_,((a1_0==3)),(by first|rfl|(simp;done)|(simp [*];done)),H',⟨by have:=HJ4.out;have:=HJ16.out;first|omega|exact Nat.le_refl _⟩,⟨by exact BK308.out⟩,⟨by exact BK309.out⟩,⟨by exact HB.out⟩⟩
       rw [if_neg c29] at H
       have c29b0:(a1_0==3)=false:=beq_eq_false_iff_ne.mpr c29
       have c29b1:(a1_0 != 3)=true:=bne_iff_ne.mpr c29
       (first|rw [c29b0]|(simp only [i64_w,i32_w];rw [c29b0])|skip)
       have H':=Aside0.mk H
       clear H
       go_wp2
       go_meet
       case rel=>exact ⟨_,((a1_0==4)),(by first|rfl|(simp;done)|(simp [*];done)),H',⟨by have:=HJ4.out;have:=HJ16.out;first|omega|exact Nat.le_refl _⟩,⟨by exact BK308.out⟩,⟨by exact BK309.out⟩,⟨by exact HB.out⟩⟩
      case rest =>
       clear HC28
       try clear c1
       try clear c2
       try clear p2
       try clear c3
       try clear c4
       try clear c4b0
       try clear c4b1
       try clear c8
       try clear c11
       try clear c11b0
       try clear c12
       try clear c15
       try clear c18
       try clear c20
       try clear c20b0
       try clear c20b1
       try clear c21
       try clear c22
       try clear c23
       try clear c23b0
       try clear c23b1
       try clear c24
       try clear c25
       try clear c26
       try clear c29
       try clear c29b0
       try clear c29b1
       try clear hcz13_0
       try clear hcz13_1
       try clear hcz13_2
       try clear hcz14_0
       try clear hcz14_1
       try clear hcz16_0
       try clear hcz16_1
       try clear hcz16_2
       try clear hcz19_0
       try clear hcz19_1
       try clear hcz19_2
       try clear hcz25_0
       try clear hcz25_1
       try clear hcz25_2
       try clear hcz27_0
       try clear hcz27_1
       try clear hcz27_2
       try clear hcz9_0
       try clear hcz9_1
       try clear hfz13_0
       try clear hfz13_1
       try clear hfz13_2
       try clear hfz14_0
       try clear hfz14_1
       try clear hfz16_0
       try clear hfz16_1
       try clear hfz16_2
       try clear hfz19_0
       try clear hfz19_1
       try clear hfz19_2
       try clear hfz25_0
       try clear hfz25_1
       try clear hfz25_2
       try clear hfz27_0
       try clear hfz27_1
       try clear hfz27_2
       try clear hfz9_0
       try clear hfz9_1
       try clear p2
       obtain ⟨kq,x36_27,rfl,HA,HJ27,BK308,BK309,HB⟩:=hcut
       cases kq with
       | zero=>exact absurd HA.out (by simp [impl_EventOk.j2])
       | succ kj27 =>
        have H:=HA.out
        clear HA
        simp only [impl_EventOk.j2] at H
        by_cases c30:x36_27=true
        ·subst c30
         have H1:(if x5_4=true then (some (a1_2==0)) else (some false))=some r:=by rw [if_pos rfl] at H;exact H
         clear H
         have H:=H1
         clear H1
         by_cases c31:x5_4=true
         ·subst c31
          have H1:(some (a1_2==0))=some r:=by rw [if_pos rfl] at H;exact H
          clear H
          have H:=H1
          clear H1
          obtain rfl:=Option.some.inj H
          have hnb32:=NB309_308.out
          have hnc32:=NB308_309.out
          have hcz33_0:wc.cell? ⟨gb309,0,none⟩=some (.int .i64 a1_0):=(blk_cell BK309.out 0).trans rfl
          have hcz33_1:wc.cell? ⟨gb309,1,none⟩=some (.int .i64 a1_1):=(blk_cell BK309.out 1).trans rfl
          have hcz33_2:wc.cell? ⟨gb309,2,none⟩=some (.int .i64 a1_2):=(blk_cell BK309.out 2).trans rfl
          have hfz33_0:=blk_frozen BK309.out 0
          have hfz33_1:=blk_frozen BK309.out 1
          have hfz33_2:=blk_frozen BK309.out 2
          go_wp2
          go_ret
          exact ⟨by first|rfl|(simp [errW_none,errW_some] <;> rfl)|(simp [*,errW_none,errW_some] <;> rfl),by exact HB.out⟩
         replace c31:=Bool.eq_false_iff.mpr c31
         subst c31
         have H1:(some false)=some r:=by rw [if_neg (show ¬ (false=true) by decide)] at H;exact H
         clear H
         have H:=H1
         clear H1
         obtain rfl:=Option.some.inj H
         go_wp2
         go_ret
         exact ⟨by first|rfl|(simp [errW_none,errW_some] <;> rfl)|(simp [*,errW_none,errW_some] <;> rfl),by exact HB.out⟩
        replace c30:=Bool.eq_false_iff.mpr c30
        subst c30
        have H1:(if a1_0=5 then (if a1_1 ≥ 0 then (if a1_1<a0_0 then (some (a1_2==0)) else (some false)) else (some false)) else (some false))=some r:=by rw [if_neg (show ¬ (false=true) by decide)] at H;exact H
        clear H
        have H:=H1
        clear H1
        by_cases c34:a1_0=5
        ·rw [if_pos c34] at H
         have c34b0:(a1_0==5)=true:=beq_iff_eq.mpr c34
         have c34b1:(a1_0 != 5)=false:=bne_eq_false_iff_eq.mpr c34
         clear c34
         by_cases c35:a1_1 ≥ 0
         ·rw [if_pos c35] at H
          have c35b0:decide (0≤a1_1)=true:=decide_eq_true c35
          clear c35
          by_cases c36:a1_1<a0_0
          ·rw [if_pos c36] at H
           have c36b0:decide (a1_1<a0_0)=true:=decide_eq_true c36
           clear c36
           obtain rfl:=Option.some.inj H
           have hnb37:=NB309_308.out
           have hnc37:=NB308_309.out
           have hcz38_0:wc.cell? ⟨gb309,0,none⟩=some (.int .i64 a1_0):=(blk_cell BK309.out 0).trans rfl
           have hcz38_1:wc.cell? ⟨gb309,1,none⟩=some (.int .i64 a1_1):=(blk_cell BK309.out 1).trans rfl
           have hcz38_2:wc.cell? ⟨gb309,2,none⟩=some (.int .i64 a1_2):=(blk_cell BK309.out 2).trans rfl
           have hfz38_0:=blk_frozen BK309.out 0
           have hfz38_1:=blk_frozen BK309.out 1
           have hfz38_2:=blk_frozen BK309.out 2
           have hcz39_0:wc.cell? ⟨gb308,0,none⟩=some (.int .i64 a0_0):=(blk_cell BK308.out 0).trans rfl
           have hcz39_1:wc.cell? ⟨gb308,1,none⟩=some (.slice A0_1 l0_1.length c0_1):=(blk_cell BK308.out 1).trans rfl
           have hfz39_0:=blk_frozen BK308.out 0
           have hfz39_1:=blk_frozen BK308.out 1
           go_wp2
           go_ret
           exact ⟨by first|rfl|(simp [errW_none,errW_some] <;> rfl)|(simp [*,errW_none,errW_some] <;> rfl),by exact HB.out⟩
          rw [if_neg c36] at H
          have c36b0:decide (a1_1<a0_0)=false:=decide_eq_false c36
          clear c36
          obtain rfl:=Option.some.inj H
          have hnb40:=NB309_308.out
          have hnc40:=NB308_309.out
          have hcz41_0:wc.cell? ⟨gb309,0,none⟩=some (.int .i64 a1_0):=(blk_cell BK309.out 0).trans rfl
          have hcz41_1:wc.cell? ⟨gb309,1,none⟩=some (.int .i64 a1_1):=(blk_cell BK309.out 1).trans rfl
          have hcz41_2:wc.cell? ⟨gb309,2,none⟩=some (.int .i64 a1_2):=(blk_cell BK309.out 2).trans rfl
          have hfz41_0:=blk_frozen BK309.out 0
          have hfz41_1:=blk_frozen BK309.out 1
          have hfz41_2:=blk_frozen BK309.out 2
          have hcz42_0:wc.cell? ⟨gb308,0,none⟩=some (.int .i64 a0_0):=(blk_cell BK308.out 0).trans rfl
          have hcz42_1:wc.cell? ⟨gb308,1,none⟩=some (.slice A0_1 l0_1.length c0_1):=(blk_cell BK308.out 1).trans rfl
          have hfz42_0:=blk_frozen BK308.out 0
          have hfz42_1:=blk_frozen BK308.out 1
          go_wp2
          go_ret
          exact ⟨by first|rfl|(simp [errW_none,errW_some] <;> rfl)|(simp [*,errW_none,errW_some] <;> rfl),by exact HB.out⟩
         rw [if_neg c35] at H
         have c35b0:decide (0≤a1_1)=false:=decide_eq_false c35
         clear c35
         obtain rfl:=Option.some.inj H
         have hnb43:=NB309_308.out
         have hnc43:=NB308_309.out
         have hcz44_0:wc.cell? ⟨gb309,0,none⟩=some (.int .i64 a1_0):=(blk_cell BK309.out 0).trans rfl
         have hcz44_1:wc.cell? ⟨gb309,1,none⟩=some (.int .i64 a1_1):=(blk_cell BK309.out 1).trans rfl
         have hcz44_2:wc.cell? ⟨gb309,2,none⟩=some (.int .i64 a1_2):=(blk_cell BK309.out 2).trans rfl
         have hfz44_0:=blk_frozen BK309.out 0
         have hfz44_1:=blk_frozen BK309.out 1
         have hfz44_2:=blk_frozen BK309.out 2
         go_wp2
         go_ret
         exact ⟨by first|rfl|(simp [errW_none,errW_some] <;> rfl)|(simp [*,errW_none,errW_some] <;> rfl),by exact HB.out⟩
        rw [if_neg c34] at H
        have c34b0:(a1_0==5)=false:=beq_eq_false_iff_ne.mpr c34
        have c34b1:(a1_0 != 5)=true:=bne_iff_ne.mpr c34
        obtain rfl:=Option.some.inj H
        go_wp2
        go_ret
        exact ⟨by first|rfl|(simp [errW_none,errW_some] <;> rfl)|(simp [*,errW_none,errW_some] <;> rfl),by exact HB.out⟩
 rw [if_neg c4] at H
 have c4b0:(t310==0)=false:=beq_eq_false_iff_ne.mpr c4
 have c4b1:(t310 != 0)=true:=bne_iff_ne.mpr c4
 obtain rfl:=Option.some.inj H
 go_enter Try.func36,Try.ntmps36
 go_wp2_with (first|((with_reducible refine gate_dst (N:=2) rfl ?_);(try (refine gate_guard (by rfl) ?_;dsimp only));refine box_event ?hg (N:=2) ?hd (cs:=#[.int .i64 a0_0,.slice A0_1 l0_1.length c0_1]) (t:=30) ?hr ?_;(case hd=>rfl);(case hg=>rfl);(case hr=>first|(go_simp;done)|(go_simp;rfl));intro gb308 hg w45 hbox hb;have n0_:=Aside0.mk (below_step (by exact HB.out) hb);have n1_:=Aside0.mk (hbox);have n2_:=Aside0.mk ((by rw [hg];exact (below_size (by exact HB.out)):w.heap.size≤gb308));have n3_:=Aside0.mk ((by rw [hg];exact (below_size (by exact HB.out)):w.heap.size≤gb308));clear HB;have HB:=n0_;have BK308:=n1_;have GW308:=n2_;have GE308:=n3_;clear n0_ n1_ n2_ n3_;clear hb hbox hg)|((with_reducible refine gate_dst (N:=3) rfl ?_);(try (refine gate_guard (by rfl) ?_;dsimp only));refine box_event ?hg (N:=3) ?hd (cs:=#[.int .i64 a1_0,.int .i64 a1_1,.int .i64 a1_2]) (t:=56) ?hr ?_;(case hd=>rfl);(case hg=>rfl);(case hr=>first|(go_simp;done)|(go_simp;rfl));intro gb309 hg w46 hbox hb;have n0_:=Aside0.mk (blk_below (g:=gb308) (o:=.cells #[.int .i64 a0_0,.slice A0_1 l0_1.length c0_1] 30 (0,0)) (by exact BK308.out) hb);have n1_:=Aside0.mk (below_step (by exact HB.out) hb);have n2_:=Aside0.mk (hbox);have n3_:=Aside0.mk ((by rw [hg];exact (below_size (by exact HB.out)):w.heap.size≤gb309));have n4_:=Aside0.mk ((by rw [hg];exact (below_size (by exact HB.out)):w.heap.size≤gb309));have n5_:=Aside0.mk ((by rw [hg];exact Nat.ne_of_lt (blk_lt (g:=gb308) (o:=.cells #[.int .i64 a0_0,.slice A0_1 l0_1.length c0_1] 30 (0,0)) (by exact BK308.out)):gb308 ≠ gb309));have n6_:=Aside0.mk ((by rw [hg];exact Nat.ne_of_gt (blk_lt (g:=gb308) (o:=.cells #[.int .i64 a0_0,.slice A0_1 l0_1.length c0_1] 30 (0,0)) (by exact BK308.out)):gb309 ≠ gb308));clear BK308;clear HB;have BK308:=n0_;have HB:=n1_;have BK309:=n2_;have GW309:=n3_;have GE309:=n4_;have NB308_309:=n5_;have NB309_308:=n6_;clear n0_ n1_ n2_ n3_ n4_ n5_ n6_;clear hb hbox hg;have hnb47:=NB308_309.out;have hnc47:=NB309_308.out;have hcz48_0:w46.cell? ⟨gb308,0,none⟩=some (.int .i64 a0_0):=(blk_cell BK308.out 0).trans rfl;have hcz48_1:w46.cell? ⟨gb308,1,none⟩=some (.slice A0_1 l0_1.length c0_1):=(blk_cell BK308.out 1).trans rfl;have hfz48_0:=blk_frozen BK308.out 0;have hfz48_1:=blk_frozen BK308.out 1)|((with_reducible refine gate_callee (f:=25) rfl ?_);refine goesL_ (some 7) rfl rfl Try.func25 (by kernel_rfl) rfl #[.agg #[.int .i64 a0_0,.slice A0_1 l0_1.length c0_1]] rfl (by (try simp only [List.map_toArray,List.map_cons,List.map_nil]);first|done|rfl|(simp only [List.length_drop,List.length_take];rfl)) ?_;(with_reducible refine (impl_LayoutOk.calls a0_0 _ _ l0_1 t310 _ ?side1 ?side2 A3.out).mono ?_);(case side1=>repeat (first|exact (Kd.C_below HR0_1.out HB.out)|(with_reducible refine Kd.C_alloc ?_ _)|(with_reducible refine Kd.C_drewN ?_ _)|(with_reducible refine Kd.C_drew ?_)));(case side2=>exact HC0_1.out);rintro e w49 ⟨rfl,hb⟩;refine ⟨_,rfl,?_⟩;have n0_:=Aside0.mk (blk_below (g:=gb308) (o:=.cells #[.int .i64 a0_0,.slice A0_1 l0_1.length c0_1] 30 (0,0)) (by exact BK308.out) hb);have n1_:=Aside0.mk (blk_below (g:=gb309) (o:=.cells #[.int .i64 a1_0,.int .i64 a1_1,.int .i64 a1_2] 56 (0,0)) (by exact BK309.out) hb);have n2_:=Aside0.mk (below_step (by exact HB.out) hb);clear BK308;clear BK309;clear HB;have BK308:=n0_;have BK309:=n1_;have HB:=n2_;clear n0_ n1_ n2_;(try clear hb);(try clear hb2);(try clear hk);(try clear hi)))
 go_ret
 exact ⟨by first|rfl|(simp [errW_none,errW_some] <;> rfl)|(simp [*,errW_none,errW_some] <;> rfl),by exact HB.out⟩
end Go.Proofs.Ytpdnabhpkdchjaa.P
namespace Go.Proofs.Ytpdnabhpkdchjaa.P
open Go.RowKit Go.Proofs.YtpdnabhpkdchjaaW.PrintWords Go.Proofs.YtpdnabhpkdchjaaW.PrintLast Go.Proofs.YtpdnabhpkdchjaaW.PrintMore
attribute [local go_sem] max2_int min2_int max_two min_two max_three min_three max_four min_four
set_option linter.unusedVariables false
set_option linter.unusedSimpArgs false
def laws_toEvent.f (a0_0:Int) (a0_1:Int) (a0_2:Int):Option (Int × Int × Int):=some (a0_0,a0_1,a0_2)
set_option maxHeartbeats 8000000 in
set_option maxRecDepth 100000 in
theorem laws_toEvent.calls (a0_0:Int) (a0_1:Int) (a0_2:Int) (r1:Int) (r2:Int) (r3:Int) (w:World) (h:laws_toEvent.f a0_0 a0_1 a0_2=some (r1,r2,r3)) :
  Calls Try.prog 35 #[.agg #[.int .i64 a0_0,.int .i64 a0_1,.int .i64 a0_2]] w fun e w'=>e=.returned (.agg #[.int .i64 r1,.int .i64 r2,.int .i64 r3])∧Below w.heap.size w w':=by
 have hu54:=Try.underlying54
 have hu56:=Try.underlying56
 have HB:=Aside0.mk (Below.refl w.heap.size w)
 have H:(some (a0_0,a0_1,a0_2))=some (r1,r2,r3):=h
 clear h
 simp only [Option.some.injEq,Prod.mk.injEq] at H
 obtain ⟨rfl,rfl,rfl⟩:=H
 go_enter Try.func35,Try.ntmps35
 go_wp2_with (first|((with_reducible refine gate_dst (N:=1) rfl ?_);refine box_event ?hg (N:=1) ?hd (cs:=#[.int .i64 a0_0,.int .i64 a0_1,.int .i64 a0_2]) (t:=54) ?hr ?_;(case hd=>rfl);(case hg=>rfl);(case hr=>first|(go_simp;done)|(go_simp;rfl));intro gb398 hg w2 hbox hb;have n0_:=Aside0.mk (below_step (by repeat (first|(with_reducible first|exact HB.out|apply below_alloc|apply pw_below_drewN|apply below_drew1)|exact HB.out)) hb);have n1_:=Aside0.mk (hbox);have n2_:=Aside0.mk ((by rw [hg];exact (below_size (by repeat (first|(with_reducible first|exact HB.out|apply below_alloc|apply pw_below_drewN|apply below_drew1)|exact HB.out))):w.heap.size≤gb398));have n3_:=Aside0.mk ((by rw [hg];exact (below_size (by repeat (first|(with_reducible first|exact HB.out|apply below_alloc|apply pw_below_drewN|apply below_drew1)|exact HB.out))):w.heap.size≤gb398));clear HB;have HB:=n0_;have BK398:=n1_;have GW398:=n2_;have GE398:=n3_;clear n0_ n1_ n2_ n3_;clear hb hbox hg)|((with_reducible refine gate_dst (N:=2) rfl ?_);refine box_event ?hg (N:=2) ?hd (cs:=#[.int .i64 0,.int .i64 0,.int .i64 0]) (t:=56) ?hr ?_;(case hd=>rfl);(case hg=>rfl);(case hr=>first|(go_simp;done)|(go_simp;rfl));intro gb399 hg w3 hbox hb;have n0_:=Aside0.mk (blk_below (g:=gb398) (o:=.cells #[.int .i64 a0_0,.int .i64 a0_1,.int .i64 a0_2] 54 (0,0)) (by (with_reducible repeat (first|refine blk_drewN ?_ _|refine blk_drew ?_|refine blk_alloc ?_ _));exact BK398.out) hb);have n1_:=Aside0.mk (below_step (by repeat (first|(with_reducible first|exact HB.out|apply below_alloc|apply pw_below_drewN|apply below_drew1|refine below_set ?_ GE398.out)|exact HB.out)) hb);have n2_:=Aside0.mk (hbox);have n3_:=Aside0.mk ((by rw [hg];exact (below_size (by repeat (first|(with_reducible first|exact HB.out|apply below_alloc|apply pw_below_drewN|apply below_drew1|refine below_set ?_ GE398.out)|exact HB.out))):w.heap.size≤gb399));have n4_:=Aside0.mk ((by rw [hg];exact (below_size (by repeat (first|(with_reducible first|exact HB.out|apply below_alloc|apply pw_below_drewN|apply below_drew1|refine below_set ?_ GE398.out)|exact HB.out))):w.heap.size≤gb399));have n5_:=Aside0.mk ((by rw [hg];exact Nat.ne_of_lt (blk_lt (g:=gb398) (o:=.cells #[.int .i64 a0_0,.int .i64 a0_1,.int .i64 a0_2] 54 (0,0)) (by (with_reducible repeat (first|refine blk_drewN ?_ _|refine blk_drew ?_|refine blk_alloc ?_ _));exact BK398.out)):gb398 ≠ gb399));have n6_:=Aside0.mk ((by rw [hg];exact Nat.ne_of_gt (blk_lt (g:=gb398) (o:=.cells #[.int .i64 a0_0,.int .i64 a0_1,.int .i64 a0_2] 54 (0,0)) (by (with_reducible repeat (first|refine blk_drewN ?_ _|refine blk_drew ?_|refine blk_alloc ?_ _));exact BK398.out)):gb399 ≠ gb398));clear BK398;clear HB;have BK398:=n0_;have HB:=n1_;have BK399:=n2_;have GW399:=n3_;have GE399:=n4_;have NB398_399:=n5_;have NB399_398:=n6_;clear n0_ n1_ n2_ n3_ n4_ n5_ n6_;clear hb hbox hg)|((with_reducible refine gate_dst (N:=3) rfl ?_);refine box_event ?hg (N:=3) ?hd (cs:=#[.int .i64 0,.int .i64 0,.int .i64 0]) (t:=56) ?hr ?_;(case hd=>rfl);(case hg=>rfl);(case hr=>first|(go_simp;done)|(go_simp;rfl));intro gb400 hg w4 hbox hb;have n0_:=Aside0.mk (blk_below (g:=gb398) (o:=.cells #[.int .i64 a0_0,.int .i64 a0_1,.int .i64 a0_2] 54 (0,0)) (by (with_reducible repeat (first|refine blk_drewN ?_ _|refine blk_drew ?_|refine blk_alloc ?_ _));exact BK398.out) hb);have n1_:=Aside0.mk (blk_below (g:=gb399) (o:=.cells #[.int .i64 0,.int .i64 0,.int .i64 0] 56 (0,0)) (by (with_reducible repeat (first|refine blk_drewN ?_ _|refine blk_drew ?_|refine blk_alloc ?_ _));exact BK399.out) hb);have n2_:=Aside0.mk (below_step (by repeat (first|(with_reducible first|exact HB.out|apply below_alloc|apply pw_below_drewN|apply below_drew1|refine below_set ?_ GE398.out|refine below_set ?_ GE399.out)|exact HB.out)) hb);have n3_:=Aside0.mk (hbox);have n4_:=Aside0.mk ((by rw [hg];exact (below_size (by repeat (first|(with_reducible first|exact HB.out|apply below_alloc|apply pw_below_drewN|apply below_drew1|refine below_set ?_ GE398.out|refine below_set ?_ GE399.out)|exact HB.out))):w.heap.size≤gb400));have n5_:=Aside0.mk ((by rw [hg];exact (below_size (by repeat (first|(with_reducible first|exact HB.out|apply below_alloc|apply pw_below_drewN|apply below_drew1|refine below_set ?_ GE398.out|refine below_set ?_ GE399.out)|exact HB.out))):w.heap.size≤gb400));have n6_:=Aside0.mk ((by rw [hg];exact Nat.ne_of_lt (blk_lt (g:=gb398) (o:=.cells #[.int .i64 a0_0,.int .i64 a0_1,.int .i64 a0_2] 54 (0,0)) (by (with_reducible repeat (first|refine blk_drewN ?_ _|refine blk_drew ?_|refine blk_alloc ?_ _));exact BK398.out)):gb398 ≠ gb400));have n7_:=Aside0.mk ((by rw [hg];exact Nat.ne_of_gt (blk_lt (g:=gb398) (o:=.cells #[.int .i64 a0_0,.int .i64 a0_1,.int .i64 a0_2] 54 (0,0)) (by (with_reducible repeat (first|refine blk_drewN ?_ _|refine blk_drew ?_|refine blk_alloc ?_ _));exact BK398.out)):gb400 ≠ gb398));have n8_:=Aside0.mk ((by rw [hg];exact Nat.ne_of_lt (blk_lt (g:=gb399) (o:=.cells #[.int .i64 0,.int .i64 0,.int .i64 0] 56 (0,0)) (by (with_reducible repeat (first|refine blk_drewN ?_ _|refine blk_drew ?_|refine blk_alloc ?_ _));exact BK399.out)):gb399 ≠ gb400));have n9_:=Aside0.mk ((by rw [hg];exact Nat.ne_of_gt (blk_lt (g:=gb399) (o:=.cells #[.int .i64 0,.int .i64 0,.int .i64 0] 56 (0,0)) (by (with_reducible repeat (first|refine blk_drewN ?_ _|refine blk_drew ?_|refine blk_alloc ?_ _));exact BK399.out)):gb400 ≠ gb399));clear BK398;clear BK399;clear HB;have BK398:=n0_;have BK399:=n1_;have HB:=n2_;have BK400:=n3_;have GW400:=n4_;have GE400:=n5_;have NB398_400:=n6_;have NB400_398:=n7_;have NB399_400:=n8_;have NB400_399:=n9_;clear n0_ n1_ n2_ n3_ n4_ n5_ n6_ n7_ n8_ n9_;clear hb hbox hg;have hnb5:=NB398_399.out;have hnc5:=NB399_398.out;have hnb6:=NB398_400.out;have hnc6:=NB400_398.out;have hcz7_0:w4.cell? ⟨gb398,0,none⟩=some (.int .i64 a0_0):=(blk_cell BK398.out 0).trans rfl;have hcz7_1:w4.cell? ⟨gb398,1,none⟩=some (.int .i64 a0_1):=(blk_cell BK398.out 1).trans rfl;have hcz7_2:w4.cell? ⟨gb398,2,none⟩=some (.int .i64 a0_2):=(blk_cell BK398.out 2).trans rfl;have hfz7_0:=blk_frozen BK398.out 0;have hfz7_1:=blk_frozen BK398.out 1;have hfz7_2:=blk_frozen BK398.out 2;have hnb8:=NB400_399.out;have hnc8:=NB399_400.out;have hcz9_0:w4.cell? ⟨gb400,0,none⟩=some (.int .i64 0):=(blk_cell BK400.out 0).trans rfl;have hcz9_1:w4.cell? ⟨gb400,1,none⟩=some (.int .i64 0):=(blk_cell BK400.out 1).trans rfl;have hcz9_2:w4.cell? ⟨gb400,2,none⟩=some (.int .i64 0):=(blk_cell BK400.out 2).trans rfl;have hfz9_0:=blk_frozen BK400.out 0;have hfz9_1:=blk_frozen BK400.out 1;have hfz9_2:=blk_frozen BK400.out 2;have hcz10_0:w4.cell? ⟨gb399,0,none⟩=some (.int .i64 0):=(blk_cell BK399.out 0).trans rfl;have hcz10_1:w4.cell? ⟨gb399,1,none⟩=some (.int .i64 0):=(blk_cell BK399.out 1).trans rfl;have hcz10_2:w4.cell? ⟨gb399,2,none⟩=some (.int .i64 0):=(blk_cell BK399.out 2).trans rfl;have hfz10_0:=blk_frozen BK399.out 0;have hfz10_1:=blk_frozen BK399.out 1;have hfz10_2:=blk_frozen BK399.out 2))
 refine bodyPost_ret (results_cell_row rfl _ _ gb399 56 #[.int .i64 a0_0,.int .i64 a0_1,.int .i64 a0_2] (0,0) _ rfl (by (with_reducible repeat (first|refine blk_drewN ?_ _|refine blk_drew ?_|refine blk_alloc ?_ _));refine blk_put (cs:=#[.int .i64 a0_0,.int .i64 a0_1,.int .i64 0]) ?_ 2 _ rfl;(with_reducible repeat (first|refine blk_drewN ?_ _|refine blk_drew ?_|refine blk_alloc ?_ _));refine blk_put (cs:=#[.int .i64 a0_0,.int .i64 0,.int .i64 0]) ?_ 1 _ rfl;(with_reducible repeat (first|refine blk_drewN ?_ _|refine blk_drew ?_|refine blk_alloc ?_ _));refine blk_put (cs:=#[.int .i64 0,.int .i64 0,.int .i64 0]) ?_ 0 _ rfl;(with_reducible repeat (first|refine blk_drewN ?_ _|refine blk_drew ?_|refine blk_alloc ?_ _));refine blk_far ?_ NB399_400.out _;(with_reducible repeat (first|refine blk_drewN ?_ _|refine blk_drew ?_|refine blk_alloc ?_ _));refine blk_far ?_ NB399_400.out _;(with_reducible repeat (first|refine blk_drewN ?_ _|refine blk_drew ?_|refine blk_alloc ?_ _));refine blk_far ?_ NB399_400.out _;(with_reducible repeat (first|refine blk_drewN ?_ _|refine blk_drew ?_|refine blk_alloc ?_ _));exact BK399.out) Try.underlying56 rfl (by kernel_rfl)) rfl ?_
 exact ⟨by first|rfl|(simp [errW_none,errW_some] <;> rfl)|(simp [*,errW_none,errW_some] <;> rfl),by repeat (first|(with_reducible first|exact HB.out|apply below_alloc|apply pw_below_drewN|apply below_drew1|refine below_set ?_ GE398.out|refine below_set ?_ GE399.out|refine below_set ?_ GE400.out)|exact HB.out)⟩
end Go.Proofs.Ytpdnabhpkdchjaa.P
namespace Go.Proofs.Ytpdnabhpkdchjaa.P
open Go.RowKit Go.Proofs.YtpdnabhpkdchjaaW.PrintWords Go.Proofs.YtpdnabhpkdchjaaW.PrintLast
set_option linter.unusedVariables false
set_option linter.unusedSimpArgs false
def eventOk (n : Int) (l : List S88) (op of dir : Int) : Bool :=
  if layoutOk n l = 0 then
    if op = 1 ∨ op = 2 then decide (0 ≤ of) && decide (of < l.length) && (decide (dir = 1) || decide (dir = -1))
    else if op = 3 ∨ op = 4 then decide (0 ≤ of) && decide (of < l.length) && decide (dir = 0)
    else if op = 5 then decide (0 ≤ of) && decide (of < n) && decide (dir = 0)
    else false
  else false
theorem beq_dec (a b : Int) : (a == b) = decide (a = b) := by by_cases h : a = b <;> simp [h]
theorem lay_n {n : Int} {l : List S88} (h : layoutOk n l = 0) : 1 ≤ n ∧ n ≤ 60 ∧ l.length ≤ 120 := by
  unfold layoutOk at h
  split at h
  · cases h
  · split at h
    · cases h
    · split at h
      · cases h
      · omega
theorem dec_le_pred (a b : Int) : decide (a ≤ b - 1) = decide (a < b) := by
  by_cases h : a < b
  · rw [decide_eq_true h, decide_eq_true (by omega)]
  · rw [decide_eq_false h, decide_eq_false (by omega)]
theorem specEventOk_ev (n : Int) (l : List S88) (op of dir : Int) : Ev (fun k => spec_EventOk.f k n l op of dir) (eventOk n l op of dir) := by
  unfold spec_EventOk.f
  refine Ev.bind (specLayoutOk_ev n l) ?_
  by_cases hl : layoutOk n l = 0
  · refine Ev.ite_pos hl ?_
    obtain ⟨hn1, hn2, hc⟩ := lay_n hl
    have w1 : wrap64 ((l.length : Int) - 1) = l.length - 1 := wrap_id (by omega) (by omega)
    have w2 : wrap64 (n - 1) = n - 1 := wrap_id (by omega) (by omega)
    have key : ∀ b : Bool, (b = true ↔ (op = 1 ∨ op = 2)) → Ev (fun k => spec_EventOk.j0 k op b n l op of dir) (eventOk n l op of dir) := by
      intro b hb
      by_cases h12 : op = 1 ∨ op = 2
      · refine Ev.step1 fun k => ?_
        simp only [spec_EventOk.j0, l1in_eq, Option.bind_some, w1, w2, dec_le_pred]
        rw [if_pos (hb.2 h12), eventOk, if_pos hl, if_pos h12]
        by_cases hr : (decide (0 ≤ of) && decide (of < l.length)) = true
        · rw [if_pos hr, hr]
          by_cases hd : dir = 1
          · simp [hd]
          · rw [if_neg hd]; simp [hd, beq_dec]
        · have hr' : (decide (0 ≤ of) && decide (of < l.length)) = false := by simpa using hr
          rw [if_neg hr, hr']; rfl
      · have key2 : ∀ b2 : Bool, (b2 = true ↔ (op = 3 ∨ op = 4)) → Ev (fun k => spec_EventOk.j1 k op b2 n l op of dir) (eventOk n l op of dir) := by
          intro b2 hb2
          refine Ev.step1 fun k => ?_
          simp only [spec_EventOk.j1, l1in_eq, Option.bind_some, w1, w2, dec_le_pred]
          rw [eventOk, if_pos hl, if_neg h12]
          by_cases h34 : op = 3 ∨ op = 4
          · rw [if_pos (hb2.2 h34), if_pos h34]
            by_cases hr : (decide (0 ≤ of) && decide (of < l.length)) = true
            · rw [if_pos hr, hr]; simp [beq_dec]
            · have hr' : (decide (0 ≤ of) && decide (of < l.length)) = false := by simpa using hr
              rw [if_neg hr, hr']; rfl
          · rw [if_neg (fun h => h34 (hb2.1 h)), if_neg h34]
            by_cases h5 : op = 5
            · rw [if_pos h5, if_pos h5]
              by_cases hr : (decide (0 ≤ of) && decide (of < n)) = true
              · rw [if_pos hr, hr]; simp [beq_dec]
              · have hr' : (decide (0 ≤ of) && decide (of < n)) = false := by simpa using hr
                rw [if_neg hr, hr']; rfl
            · rw [if_neg h5, if_neg h5]
        by_cases h3 : op = 3
        · refine Ev.step (fun k => ?_) (key2 (op == 3) (by simp [h3]))
          simp only [spec_EventOk.j0]
          rw [if_neg (fun h => h12 (hb.1 h)), if_pos h3]
        · refine Ev.step (fun k => ?_) (key2 (op == 4) (by simp [h3]))
          simp only [spec_EventOk.j0]
          rw [if_neg (fun h => h12 (hb.1 h)), if_neg h3]
    by_cases h1 : op = 1
    · exact Ev.ite_pos h1 (key _ (by simp [h1]))
    · exact Ev.ite_neg h1 (key _ (by simp [h1]))
  · refine Ev.ite_neg hl ?_
    rw [eventOk, if_neg hl]
    exact Ev.now _
theorem implEventOk_ev (n : Int) (l : List S88) (op of dir : Int) : Ev (fun k => impl_EventOk.f k n l op of dir) (eventOk n l op of dir) := by
  unfold impl_EventOk.f
  refine Ev.call (a := layoutOk n l) rfl ?_
  by_cases hl : layoutOk n l = 0
  · refine Ev.ite_pos hl ?_
    have key : ∀ b : Bool, b = (decide (0 ≤ of) && decide (of < l.length)) → Ev (fun k => impl_EventOk.j0 k b n l op of dir) (eventOk n l op of dir) := by
      intro b hb
      have k1 : ∀ b1 : Bool, (b1 = true ↔ (op = 1 ∨ op = 2)) → Ev (fun k => impl_EventOk.j1 k b op b1 n l op of dir) (eventOk n l op of dir) := by
        intro b1 hb1
        by_cases h12 : op = 1 ∨ op = 2
        · refine Ev.step1 fun k => ?_
          simp only [impl_EventOk.j1]
          rw [if_pos (hb1.2 h12), eventOk, if_pos hl, if_pos h12, ← hb]
          cases b with
          | true =>
            by_cases hd : dir = 1
            · simp [hd]
            · simp [hd, beq_dec]
          | false => rfl
        · have k2 : ∀ b2 : Bool, (b2 = true ↔ (op = 3 ∨ op = 4)) → Ev (fun k => impl_EventOk.j2 k b op b2 n l op of dir) (eventOk n l op of dir) := by
            intro b2 hb2
            refine Ev.step1 fun k => ?_
            simp only [impl_EventOk.j2]
            rw [eventOk, if_pos hl, if_neg h12, ← hb]
            by_cases h34 : op = 3 ∨ op = 4
            · rw [if_pos (hb2.2 h34), if_pos h34]
              cases b <;> simp [beq_dec]
            · rw [if_neg (fun h => h34 (hb2.1 h)), if_neg h34]
              by_cases h5 : op = 5
              · rw [if_pos h5, if_pos h5]
                by_cases h0 : of ≥ 0
                · rw [if_pos h0]
                  by_cases h6 : of < n
                  · rw [if_pos h6]; simp [beq_dec, h6, h0]
                  · rw [if_neg h6]; simp [h6]
                · rw [if_neg h0]; simp [show ¬ 0 ≤ of from h0]
              · rw [if_neg h5, if_neg h5]
          by_cases h3 : op = 3
          · refine Ev.step (fun k => ?_) (k2 (op == 3) (by simp [h3]))
            simp only [impl_EventOk.j1]
            rw [if_neg (fun h => h12 (hb1.1 h)), if_pos h3]
          · refine Ev.step (fun k => ?_) (k2 (op == 4) (by simp [h3]))
            simp only [impl_EventOk.j1]
            rw [if_neg (fun h => h12 (hb1.1 h)), if_neg h3]
      by_cases h1 : op = 1
      · refine Ev.step (fun k => ?_) (k1 (op == 1) (by simp [h1]))
        simp only [impl_EventOk.j0]
        rw [if_pos h1]
      · refine Ev.step (fun k => ?_) (k1 (op == 2) (by simp [h1]))
        simp only [impl_EventOk.j0]
        rw [if_neg h1]
    by_cases h0 : of ≥ 0
    · exact Ev.ite_pos h0 (key _ (by simp [show (0 : Int) ≤ of from h0]))
    · exact Ev.ite_neg h0 (key _ (by simp [show ¬ (0 : Int) ≤ of from h0]))
  · refine Ev.ite_neg hl ?_
    rw [eventOk, if_neg hl]
    exact Ev.now _
end Go.Proofs.Ytpdnabhpkdchjaa.P
