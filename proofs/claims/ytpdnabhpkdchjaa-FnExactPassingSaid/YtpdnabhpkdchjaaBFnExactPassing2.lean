/- The statement FnExactPassing holds of the given program, for every argument; there are no conditions. (Part 2 of 4.) -/
import Derived.Test.YtpdnabhpkdchjaaBFnExactPassing1
import Derived.Test.YtpdnabhpkdchjaaProg
import Derived.Test.YtpdnabhpkdchjaaRows
import Derived.JoinedOf
import Derived.DataElems
import Derived.ChangeArms
import Derived.WideShapes
import Derived.ProofKit
import Derived.OpenShut
import Derived.ChangeOld
import Derived.SizedLaws
import Derived.Lib.SliceRun
namespace Go.Proofs.Ytpdnabhpkdchjaa.P
open Go.RowKit Go.Proofs.YtpdnabhpkdchjaaW.PrintWords Go.Proofs.YtpdnabhpkdchjaaW.PrintLast Go.Proofs.YtpdnabhpkdchjaaW.PrintMore
attribute [local go_sem] max2_int min2_int max_two min_two max_three min_three max_four min_four
set_option linter.unusedVariables false
set_option linter.unusedSimpArgs false
def errW:Option Int→Value
 | none=>.nilIface
 | some c=>.iface 0 (.int .i64 c)
theorem errW_none:errW none=.nilIface:=rfl
theorem errW_some (c:Int):errW (some c)=.iface 0 (.int .i64 c):=rfl
theorem info3:(Try.prog.info? 3).map (fun i=>(i.zero,i.size,i.bytes))=some (some (.int .i64 0),1,8):=by kernel_rfl
theorem info88:(Try.prog.info? 88).map (fun i=>(i.zero,i.size,i.bytes))=some (some (.agg #[(.int .i64 0),(.int .i64 0)]),2,16):=by kernel_rfl
theorem info143:(Try.prog.info? 143).map (fun i=>(i.zero,i.size,i.bytes))=some (some (.agg #[(.int .i64 0),(.int .i64 0),(.int .i64 0)]),3,24):=by kernel_rfl
theorem info154:(Try.prog.info? 154).map (fun i=>(i.zero,i.size,i.bytes))=some (some (.agg #[(.int .i64 0),(.int .i64 0),(.int .i64 0)]),3,24):=by kernel_rfl
structure S160 where
 f0:Int
 f1:Int
def z160:S160:=⟨(0:Int),(0:Int)⟩
def k160:Kd S160:=Kd.iso (Kd.pair (Kd.int .i64) (Kd.int .i64)) (fun x:S160=>(x.f0,x.f1))
theorem k160_open {w:World} {x:S160} {cs:List Value} (h:k160.K w x cs):cs=[.int .i64 x.f0,.int .i64 x.f1]:=by
 obtain ⟨_,_,rfl,rfl,rfl⟩:=h
 exact rfl
def rd_T160 (xs:List S160) (i:Int):S160:=xs.getD i.toNat z160
theorem at_T160 {w:World} {A:Option Addr} {n:Nat} {xs:List S160} (h:Kd.C k160 w A n xs) (i:Int) (h0:0≤i) (h1:i<n):∃ ad ,A=some ad∧w.cell? (ad.add (i.toNat * 2))=some (.int .i64 (rd_T160 xs i).f0)∧w.cell? ⟨(ad.add (i.toNat * 2)).block,(ad.add (i.toNat * 2)).off+1,none⟩=some (.int .i64 (rd_T160 xs i).f1):=by
 obtain ⟨ad,c,e,_,hK,hc0⟩:=Kd.C_get h z160 i h0 h1
 have hc:∀ j u,c[j]?=some u→w.cell? (ad.add (i.toNat * 2+j))=some u:=hc0
 obtain rfl:=k160_open hK
 exact ⟨ad,e,hc 0 _ rfl,by rw [← add_field _ _ 1 (by omega)];exact hc 1 _ rfl⟩
structure S88 where
 f0:Int
 f1:Int
def z88:S88:=⟨(0:Int),(0:Int)⟩
def k88:Kd S88:=Kd.iso (Kd.pair (Kd.int .i64) (Kd.int .i64)) (fun x:S88=>(x.f0,x.f1))
theorem k88_open {w:World} {x:S88} {cs:List Value} (h:k88.K w x cs):cs=[.int .i64 x.f0,.int .i64 x.f1]:=by
 obtain ⟨_,_,rfl,rfl,rfl⟩:=h
 exact rfl
theorem k88_openM {w:World} {base:Nat} {ok:Nat→Prop} {x:S88} {cs:List Value} (h:k88.M w base ok x cs):cs=[.int .i64 x.f0,.int .i64 x.f1]:=by
 obtain ⟨_,_,rfl,rfl,rfl⟩:=h
 exact rfl
theorem k88_mkM (w:World) (base:Nat) (ok:Nat→Prop) (x:S88) :k88.M w base ok x [.int .i64 x.f0,.int .i64 x.f1]:=⟨[.int .i64 x.f0],[.int .i64 x.f1],rfl,rfl,rfl⟩
def rd_T88 (xs:List S88) (i:Int):S88:=xs.getD i.toNat z88
theorem at_T88 {w:World} {A:Option Addr} {n:Nat} {xs:List S88} (h:Kd.C k88 w A n xs) (i:Int) (h0:0≤i) (h1:i<n):∃ ad ,A=some ad∧w.cell? (ad.add (i.toNat * 2))=some (.int .i64 (rd_T88 xs i).f0)∧w.cell? ⟨(ad.add (i.toNat * 2)).block,(ad.add (i.toNat * 2)).off+1,none⟩=some (.int .i64 (rd_T88 xs i).f1):=by
 obtain ⟨ad,c,e,_,hK,hc0⟩:=Kd.C_get h z88 i h0 h1
 have hc:∀ j u,c[j]?=some u→w.cell? (ad.add (i.toNat * 2+j))=some u:=hc0
 obtain rfl:=k88_open hK
 exact ⟨ad,e,hc 0 _ rfl,by rw [← add_field _ _ 1 (by omega)];exact hc 1 _ rfl⟩
structure S56 where
 f0:Int
 f1:Int
 f2:Int
def z56:S56:=⟨(0:Int),(0:Int),(0:Int)⟩
def k56:Kd S56:=Kd.iso (Kd.pair (Kd.int .i64) (Kd.pair (Kd.int .i64) (Kd.int .i64))) (fun x:S56=>(x.f0,x.f1,x.f2))
theorem k56_open {w:World} {x:S56} {cs:List Value} (h:k56.K w x cs):cs=[.int .i64 x.f0,.int .i64 x.f1,.int .i64 x.f2]:=by
 obtain ⟨_,_,rfl,rfl,⟨_,_,rfl,rfl,rfl⟩⟩:=h
 exact rfl
theorem k56_openM {w:World} {base:Nat} {ok:Nat→Prop} {x:S56} {cs:List Value} (h:k56.M w base ok x cs):cs=[.int .i64 x.f0,.int .i64 x.f1,.int .i64 x.f2]:=by
 obtain ⟨_,_,rfl,rfl,⟨_,_,rfl,rfl,rfl⟩⟩:=h
 exact rfl
theorem k56_mkM (w:World) (base:Nat) (ok:Nat→Prop) (x:S56) :k56.M w base ok x [.int .i64 x.f0,.int .i64 x.f1,.int .i64 x.f2]:=⟨[.int .i64 x.f0],[.int .i64 x.f1,.int .i64 x.f2],rfl,rfl,⟨[.int .i64 x.f1],[.int .i64 x.f2],rfl,rfl,rfl⟩⟩
def rd_T56 (xs:List S56) (i:Int):S56:=xs.getD i.toNat z56
theorem at_T56 {w:World} {A:Option Addr} {n:Nat} {xs:List S56} (h:Kd.C k56 w A n xs) (i:Int) (h0:0≤i) (h1:i<n):∃ ad ,A=some ad∧w.cell? (ad.add (i.toNat * 3))=some (.int .i64 (rd_T56 xs i).f0)∧w.cell? ⟨(ad.add (i.toNat * 3)).block,(ad.add (i.toNat * 3)).off+1,none⟩=some (.int .i64 (rd_T56 xs i).f1)∧w.cell? ⟨(ad.add (i.toNat * 3)).block,(ad.add (i.toNat * 3)).off+2,none⟩=some (.int .i64 (rd_T56 xs i).f2):=by
 obtain ⟨ad,c,e,_,hK,hc0⟩:=Kd.C_get h z56 i h0 h1
 have hc:∀ j u,c[j]?=some u→w.cell? (ad.add (i.toNat * 3+j))=some u:=hc0
 obtain rfl:=k56_open hK
 exact ⟨ad,e,hc 0 _ rfl,by rw [← add_field _ _ 1 (by omega)];exact hc 1 _ rfl,by rw [← add_field _ _ 2 (by omega)];exact hc 2 _ rfl⟩
structure S50 where
 f0:Int
 f1:Int
 f2:Bool
 f3:Bool
 f4:Int
def z50:S50:=⟨(0:Int),(0:Int),false,false,(0:Int)⟩
structure S46 where
 f0:Bool
 f1:(List S50)
 f2:(List Bool)
def z46:S46:=⟨false,([]:List S50),([]:List Bool)⟩
structure S143 where
 f0:Int
 f1:Int
 f2:Int
def z143:S143:=⟨(0:Int),(0:Int),(0:Int)⟩
def k143:Kd S143:=Kd.iso (Kd.pair (Kd.int .i64) (Kd.pair (Kd.int .i64) (Kd.int .i64))) (fun x:S143=>(x.f0,x.f1,x.f2))
theorem k143_open {w:World} {x:S143} {cs:List Value} (h:k143.K w x cs):cs=[.int .i64 x.f0,.int .i64 x.f1,.int .i64 x.f2]:=by
 obtain ⟨_,_,rfl,rfl,⟨_,_,rfl,rfl,rfl⟩⟩:=h
 exact rfl
theorem k143_openM {w:World} {base:Nat} {ok:Nat→Prop} {x:S143} {cs:List Value} (h:k143.M w base ok x cs):cs=[.int .i64 x.f0,.int .i64 x.f1,.int .i64 x.f2]:=by
 obtain ⟨_,_,rfl,rfl,⟨_,_,rfl,rfl,rfl⟩⟩:=h
 exact rfl
theorem k143_mkM (w:World) (base:Nat) (ok:Nat→Prop) (x:S143) :k143.M w base ok x [.int .i64 x.f0,.int .i64 x.f1,.int .i64 x.f2]:=⟨[.int .i64 x.f0],[.int .i64 x.f1,.int .i64 x.f2],rfl,rfl,⟨[.int .i64 x.f1],[.int .i64 x.f2],rfl,rfl,rfl⟩⟩
def rd_T143 (xs:List S143) (i:Int):S143:=xs.getD i.toNat z143
theorem at_T143 {w:World} {A:Option Addr} {n:Nat} {xs:List S143} (h:Kd.C k143 w A n xs) (i:Int) (h0:0≤i) (h1:i<n):∃ ad ,A=some ad∧w.cell? (ad.add (i.toNat * 3))=some (.int .i64 (rd_T143 xs i).f0)∧w.cell? ⟨(ad.add (i.toNat * 3)).block,(ad.add (i.toNat * 3)).off+1,none⟩=some (.int .i64 (rd_T143 xs i).f1)∧w.cell? ⟨(ad.add (i.toNat * 3)).block,(ad.add (i.toNat * 3)).off+2,none⟩=some (.int .i64 (rd_T143 xs i).f2):=by
 obtain ⟨ad,c,e,_,hK,hc0⟩:=Kd.C_get h z143 i h0 h1
 have hc:∀ j u,c[j]?=some u→w.cell? (ad.add (i.toNat * 3+j))=some u:=hc0
 obtain rfl:=k143_open hK
 exact ⟨ad,e,hc 0 _ rfl,by rw [← add_field _ _ 1 (by omega)];exact hc 1 _ rfl,by rw [← add_field _ _ 2 (by omega)];exact hc 2 _ rfl⟩
structure S157 where
 f0:Int
 f1:Int
 f2:Int
def z157:S157:=⟨(0:Int),(0:Int),(0:Int)⟩
def k157:Kd S157:=Kd.iso (Kd.pair (Kd.int .i64) (Kd.pair (Kd.int .i64) (Kd.int .i64))) (fun x:S157=>(x.f0,x.f1,x.f2))
theorem k157_open {w:World} {x:S157} {cs:List Value} (h:k157.K w x cs):cs=[.int .i64 x.f0,.int .i64 x.f1,.int .i64 x.f2]:=by
 obtain ⟨_,_,rfl,rfl,⟨_,_,rfl,rfl,rfl⟩⟩:=h
 exact rfl
def rd_T157 (xs:List S157) (i:Int):S157:=xs.getD i.toNat z157
theorem at_T157 {w:World} {A:Option Addr} {n:Nat} {xs:List S157} (h:Kd.C k157 w A n xs) (i:Int) (h0:0≤i) (h1:i<n):∃ ad ,A=some ad∧w.cell? (ad.add (i.toNat * 3))=some (.int .i64 (rd_T157 xs i).f0)∧w.cell? ⟨(ad.add (i.toNat * 3)).block,(ad.add (i.toNat * 3)).off+1,none⟩=some (.int .i64 (rd_T157 xs i).f1)∧w.cell? ⟨(ad.add (i.toNat * 3)).block,(ad.add (i.toNat * 3)).off+2,none⟩=some (.int .i64 (rd_T157 xs i).f2):=by
 obtain ⟨ad,c,e,_,hK,hc0⟩:=Kd.C_get h z157 i h0 h1
 have hc:∀ j u,c[j]?=some u→w.cell? (ad.add (i.toNat * 3+j))=some u:=hc0
 obtain rfl:=k157_open hK
 exact ⟨ad,e,hc 0 _ rfl,by rw [← add_field _ _ 1 (by omega)];exact hc 1 _ rfl,by rw [← add_field _ _ 2 (by omega)];exact hc 2 _ rfl⟩
structure S154 where
 f0:Int
 f1:Int
 f2:Int
def z154:S154:=⟨(0:Int),(0:Int),(0:Int)⟩
def k154:Kd S154:=Kd.iso (Kd.pair (Kd.int .i64) (Kd.pair (Kd.int .i64) (Kd.int .i64))) (fun x:S154=>(x.f0,x.f1,x.f2))
theorem k154_open {w:World} {x:S154} {cs:List Value} (h:k154.K w x cs):cs=[.int .i64 x.f0,.int .i64 x.f1,.int .i64 x.f2]:=by
 obtain ⟨_,_,rfl,rfl,⟨_,_,rfl,rfl,rfl⟩⟩:=h
 exact rfl
theorem k154_openM {w:World} {base:Nat} {ok:Nat→Prop} {x:S154} {cs:List Value} (h:k154.M w base ok x cs):cs=[.int .i64 x.f0,.int .i64 x.f1,.int .i64 x.f2]:=by
 obtain ⟨_,_,rfl,rfl,⟨_,_,rfl,rfl,rfl⟩⟩:=h
 exact rfl
theorem k154_mkM (w:World) (base:Nat) (ok:Nat→Prop) (x:S154) :k154.M w base ok x [.int .i64 x.f0,.int .i64 x.f1,.int .i64 x.f2]:=⟨[.int .i64 x.f0],[.int .i64 x.f1,.int .i64 x.f2],rfl,rfl,⟨[.int .i64 x.f1],[.int .i64 x.f2],rfl,rfl,rfl⟩⟩
def rd_T154 (xs:List S154) (i:Int):S154:=xs.getD i.toNat z154
theorem at_T154 {w:World} {A:Option Addr} {n:Nat} {xs:List S154} (h:Kd.C k154 w A n xs) (i:Int) (h0:0≤i) (h1:i<n):∃ ad ,A=some ad∧w.cell? (ad.add (i.toNat * 3))=some (.int .i64 (rd_T154 xs i).f0)∧w.cell? ⟨(ad.add (i.toNat * 3)).block,(ad.add (i.toNat * 3)).off+1,none⟩=some (.int .i64 (rd_T154 xs i).f1)∧w.cell? ⟨(ad.add (i.toNat * 3)).block,(ad.add (i.toNat * 3)).off+2,none⟩=some (.int .i64 (rd_T154 xs i).f2):=by
 obtain ⟨ad,c,e,_,hK,hc0⟩:=Kd.C_get h z154 i h0 h1
 have hc:∀ j u,c[j]?=some u→w.cell? (ad.add (i.toNat * 3+j))=some u:=hc0
 obtain rfl:=k154_open hK
 exact ⟨ad,e,hc 0 _ rfl,by rw [← add_field _ _ 1 (by omega)];exact hc 1 _ rfl,by rw [← add_field _ _ 2 (by omega)];exact hc 2 _ rfl⟩
end Go.Proofs.Ytpdnabhpkdchjaa.P
namespace Go.Proofs.Ytpdnabhpkdchjaa.Facts
def sg (l : List Nat) : List Char := l.map Char.ofNat
theorem words_cons (c : Char) (hc : c ≠ Char.ofNat 32) (r : List Char) : wordsSigns (c :: r) = match wordsSigns r with | w :: ws => (c :: w) :: ws | [] => [[c]] := by
  rw [wordsSigns.eq_3 c r (fun h => hc h)]
  cases wordsSigns r <;> rfl
theorem words_blank (r : List Char) : wordsSigns (Char.ofNat 32 :: r) = [] :: wordsSigns r := rfl
theorem words_word (a r : List Char) (ha : ∀ c ∈ a, c ≠ Char.ofNat 32) : wordsSigns (a ++ Char.ofNat 32 :: r) = a :: wordsSigns r := by
  induction a with
  | nil => exact words_blank r
  | cons c a ih =>
    have h := ih (fun x hx => ha x (List.mem_cons_of_mem _ hx))
    show wordsSigns (c :: (a ++ Char.ofNat 32 :: r)) = _
    rw [words_cons c (ha c List.mem_cons_self), h]
def w1 : List Nat := [104, 97, 114, 110, 101, 115, 115]
def w2 : List Nat := [99, 98, 100, 51, 97, 55, 55, 98, 49, 48, 100, 98, 52, 102, 101, 102, 49, 101, 52, 51, 98, 57, 101, 100, 100, 49, 99, 98, 52, 98, 97, 48, 51, 53, 101, 98, 56, 53, 99, 55, 98, 97, 57, 57, 53, 52, 49, 57, 56, 56, 102, 51, 50, 55, 49, 52, 54, 99, 55, 50, 55, 52, 102, 98]
def w3 : List Nat := [99, 117, 116]
def w4 : List Nat := [97, 116, 32, 108, 111, 111, 112, 46, 101, 120, 97, 109, 112, 108, 101, 47, 116, 114, 101, 97, 100, 108, 101, 47, 108, 97, 119, 115, 46, 70, 110, 69, 120, 97, 99, 116, 67, 111, 110, 115, 116, 97, 110, 116, 115, 32, 108, 111, 111, 112, 46, 101, 120, 97, 109, 112, 108, 101, 47, 116,
  114, 101, 97, 100, 108, 101, 47, 108, 97, 119, 115, 46, 70, 110, 69, 120, 97, 99, 116, 76, 97, 121, 111, 117, 116, 79, 107, 32, 108, 111, 111, 112, 46, 101, 120, 97, 109, 112, 108, 101, 47, 116, 114, 101, 97, 100, 108, 101, 47, 108, 97, 119, 115, 46, 70, 110, 84, 111, 112, 32,
  108, 111, 111, 112, 46, 101, 120, 97, 109, 112, 108, 101, 47, 116, 114, 101, 97, 100, 108, 101, 47, 108, 97, 119, 115, 46, 70, 110, 69, 120, 97, 99, 116, 69, 118, 101, 110, 116, 79, 107, 32, 108, 111, 111, 112, 46, 101, 120, 97, 109, 112, 108, 101, 47, 116, 114, 101, 97, 100, 108,
  101, 47, 108, 97, 119, 115, 46, 70, 110, 69, 120, 97, 99, 116, 65, 114, 111, 117, 110, 100, 32, 108, 111, 111, 112, 46, 101, 120, 97, 109, 112, 108, 101, 47, 116, 114, 101, 97, 100, 108, 101, 47, 108, 97, 119, 115, 46, 70, 110, 69, 120, 97, 99, 116, 66, 101, 103, 105, 110, 32,
  108, 111, 111, 112, 46, 101, 120, 97, 109, 112, 108, 101, 47, 116, 114, 101, 97, 100, 108, 101, 47, 108, 97, 119, 115, 46, 70, 110, 69, 120, 97, 99, 116, 72, 111, 110, 101, 115, 116, 32, 108, 111, 111, 112, 46, 101, 120, 97, 109, 112, 108, 101, 47, 116, 114, 101, 97, 100, 108, 101,
  47, 108, 97, 119, 115, 46, 70, 110, 83, 112, 111, 105, 108, 116, 32, 108, 111, 111, 112, 46, 101, 120, 97, 109, 112, 108, 101, 47, 116, 114, 101, 97, 100, 108, 101, 47, 108, 97, 119, 115, 46, 70, 110, 69, 120, 97, 99, 116, 83, 116, 97, 116, 101, 79, 107, 32, 108, 111, 111, 112,
  46, 101, 120, 97, 109, 112, 108, 101, 47, 116, 114, 101, 97, 100, 108, 101, 47, 108, 97, 119, 115, 46, 70, 110, 69, 120, 97, 99, 116, 84, 114, 117, 116, 104, 32, 108, 111, 111, 112, 46, 101, 120, 97, 109, 112, 108, 101, 47, 116, 114, 101, 97, 100, 108, 101, 47, 108, 97, 119, 115,
  46, 70, 110, 74, 117, 115, 116, 32, 108, 111, 111, 112, 46, 101, 120, 97, 109, 112, 108, 101, 47, 116, 114, 101, 97, 100, 108, 101, 47, 108, 97, 119, 115, 46, 70, 110, 83, 97, 102, 101, 32, 108, 111, 111, 112, 46, 101, 120, 97, 109, 112, 108, 101, 47, 116, 114, 101, 97, 100, 108,
  101, 47, 108, 97, 119, 115, 46, 70, 110, 83, 119, 97, 112, 32, 108, 111, 111, 112, 46, 101, 120, 97, 109, 112, 108, 101, 47, 116, 114, 101, 97, 100, 108, 101, 47, 108, 97, 119, 115, 46, 70, 110, 69, 120, 97, 99, 116, 71, 97, 112, 115, 32, 108, 111, 111, 112, 46, 101, 120, 97,
  109, 112, 108, 101, 47, 116, 114, 101, 97, 100, 108, 101, 47, 108, 97, 119, 115, 46, 70, 110, 69, 120, 97, 99, 116, 68, 111, 32, 108, 111, 111, 112, 46, 101, 120, 97, 109, 112, 108, 101, 47, 116, 114, 101, 97, 100, 108, 101, 47, 108, 97, 119, 115, 46, 70, 110, 84, 114, 97, 105,
  110, 32, 108, 111, 111, 112, 46, 101, 120, 97, 109, 112, 108, 101, 47, 116, 114, 101, 97, 100, 108, 101, 47, 108, 97, 119, 115, 46, 70, 110, 69, 120, 97, 99, 116, 82, 117, 110, 32, 108, 111, 111, 112, 46, 101, 120, 97, 109, 112, 108, 101, 47, 116, 114, 101, 97, 100, 108, 101, 47,
  108, 97, 119, 115, 46, 70, 110, 69, 120, 97, 99, 116, 80, 97, 115, 115, 105, 110, 103, 32, 108, 111, 111, 112, 46, 101, 120, 97, 109, 112, 108, 101, 47, 116, 114, 101, 97, 100, 108, 101, 47, 108, 97, 119, 115, 46, 70, 110, 83, 119, 101, 101, 112]
theorem init_is : Try.prog.initOrder = String.ofList (sg (w1 ++ 32 :: (w2 ++ 32 :: (w3 ++ 32 :: w4)))) := by kernel_rfl
theorem init_list : Try.prog.initOrder.toList = sg w1 ++ Char.ofNat 32 :: (sg w2 ++ Char.ofNat 32 :: (sg w3 ++ Char.ofNat 32 :: sg w4)) := by
  rw [init_is, String.toList_ofList]
  simp [sg]
theorem w1_is : sg w1 = "harness".toList := by kernel_rfl
theorem w2_sum : isSumSigns (sg w2) = true := by kernel_rfl
theorem w3_is : sg w3 = "cut".toList := by kernel_rfl
theorem w1_nb : (sg w1).all (· != Char.ofNat 32) = true := by kernel_rfl
theorem w2_nb : (sg w2).all (· != Char.ofNat 32) = true := by kernel_rfl
theorem w3_nb : (sg w3).all (· != Char.ofNat 32) = true := by kernel_rfl
theorem nb {l : List Char} (h : l.all (· != Char.ofNat 32) = true) : ∀ c ∈ l, c ≠ Char.ofNat 32 := by
  intro c hc
  have := List.all_eq_true.1 h c hc
  simpa using this
theorem words_init : behindMainWord (wordsSigns Try.prog.initOrder.toList) = "cut".toList :: wordsSigns (sg w4) := by
  rw [init_list, words_word _ _ (nb w1_nb), words_word _ _ (nb w2_nb), words_word _ _ (nb w3_nb), w1_is, w3_is]
  simp only [behindMainWord]
  rw [if_pos]
  rw [w2_sum]
  rfl
theorem may_of (P : Program) (r : List (List Char)) (h : behindMainWord (wordsSigns P.initOrder.toList) = "cut".toList :: r) (h1 : P.laysLater = false) (h2 : P.bearsReflect = false) (h3 : P.doorRows = []) : P.mayEnter = true := by
  unfold Program.mayEnter
  rw [h]
  unfold Program.doorFits
  rw [h1, h2, h3]
  kernel_rfl
theorem lifts_of (P : Program) (r : List (List Char)) (h : behindMainWord (wordsSigns P.initOrder.toList) = "cut".toList :: r) : P.headLifts = [] := by
  unfold Program.headLifts
  rw [h]
  kernel_rfl
theorem final_of (P : Program) (r : List (List Char)) (h : behindMainWord (wordsSigns P.initOrder.toList) = "cut".toList :: r) : P.liftsFinal = false := by
  unfold Program.liftsFinal
  rw [lifts_of P r h, h]
  kernel_rfl
theorem make_of (P : Program) (r : List (List Char)) (h : behindMainWord (wordsSigns P.initOrder.toList) = "cut".toList :: r) : P.make = some .cut := by
  unfold Program.make
  rw [h]
  generalize P.headLifts = x
  kernel_rfl
theorem laysLater : Try.prog.laysLater = false := by kernel_rfl
theorem bearsReflect : Try.prog.bearsReflect = false := by kernel_rfl
theorem doorRows : Try.prog.doorRows = [] := by kernel_rfl
theorem mayEnter : Try.prog.mayEnter = true := may_of _ _ words_init laysLater bearsReflect doorRows
theorem liftsFinal : Try.prog.liftsFinal = false := final_of _ _ words_init
theorem make : Try.prog.make = some .cut := make_of _ _ words_init
theorem laidOut : laidOutB Try.prog = true := by kernel_rfl
theorem mapsRowed : Go.mapsRowed Try.prog = true := by kernel_rfl
theorem stops : (Try.prog.stops == []) = true := by kernel_rfl
theorem stopKnobs : (Try.prog.stopKnobs == []) = true := by kernel_rfl
theorem plainKeys : Try.prog.plainKeys = true := by kernel_rfl
theorem stopsHeard : Try.prog.stopsHeard = true := by kernel_rfl
theorem own : ownKnob Try.prog.godebug = none := by kernel_rfl
end Go.Proofs.Ytpdnabhpkdchjaa.Facts
namespace Go.Proofs.Ytpdnabhpkdchjaa.Open
open Go.RowKit Go.Proofs.YtpdnabhpkdchjaaW.PrintWords Go.Proofs.YtpdnabhpkdchjaaW.PrintLast Go.Proofs.YtpdnabhpkdchjaaW.PrintMore
open Go.WideShapes
set_option linter.unusedVariables false
def Opens {α : Type} (P : Program) (t : TypeId) (d : Kd α) : Prop :=
  ∀ (H : Type) (enc : TypeId × Value → H) (w : World) (base : Nat) (spare : Nat → Bool) (held : Bool) (fuel : Nat) (cs : List Value) (x : DataW H × List MemPlace),
    DataW.trod enc P w base spare held fuel t cs = some x → ∃ a, d.K w a cs
variable {P : Program} {t : TypeId}
theorem opens_int {k : IntKind} (ht : P.underlying t = some (.int k)) : Opens P t (Kd.int k) := by
  intro H enc w base spare held fuel cs x h
  obtain ⟨n, rfl, _⟩ := DataW.trod_int ht h
  exact ⟨n, rfl⟩
theorem opens_iso {α β : Type} {d : Kd α} (f : β → α) (g : α → β) (hg : ∀ a, f (g a) = a) (h : Opens P t d) : Opens P t (Kd.iso d f) := by
  intro H enc w base spare held fuel cs x hx
  obtain ⟨a, ha⟩ := h H enc w base spare held fuel cs x hx
  exact ⟨g a, by show d.K w (f (g a)) cs; rw [hg]; exact ha⟩
theorem mapM_get {α β : Type} {f : α → Option β} : ∀ {l : List α} {r : List β}, l.mapM f = some r → r.length = l.length ∧ ∀ (i : Nat) u, r[i]? = some u → ∃ y, l[i]? = some y ∧ f y = some u
  | [], r, h => by
    simp at h
    subst h
    exact ⟨rfl, fun i u hu => by simp at hu⟩
  | y :: l, r, h => by
    simp only [List.mapM_cons] at h
    cases hy : f y with
    | none => simp [hy] at h
    | some b =>
      cases hl : l.mapM f with
      | none => simp [hy, hl] at h
      | some r' =>
        simp [hy, hl] at h
        subst h
        obtain ⟨h1, h2⟩ := mapM_get hl
        refine ⟨by simp [h1], fun i u hu => ?_⟩
        cases i with
        | zero =>
          simp at hu
          subst hu
          exact ⟨y, rfl, hy⟩
        | succ i =>
          simp at hu
          obtain ⟨z, hz, hf⟩ := h2 i u hu
          exact ⟨z, by simpa using hz, hf⟩
theorem opens_slice {α : Type} {d : Kd α} {e : TypeId} (ht : P.underlying t = some (.slice e)) (hc : P.cellsOf e = d.sz) (he : Opens P e d) : Opens P t (Kd.slice e d) := by
  intro H enc w base spare held fuel cs x h
  rcases DataW.trod_slice ht h with ⟨rfl, _⟩ | ⟨a, len, cap, elems, rest, n, _, rfl, _, hb, hl, hm, hlen, hel, _, _⟩
  · exact ⟨[], none, 0, rfl, Nat.le_refl _, rfl, by simp, fun hp => absurd hp (by simp)⟩
  · have each : ∀ i : Fin len, ∃ q : α × List Value, d.K w q.1 q.2 ∧ q.2.length = d.sz ∧ ∀ j u, q.2[j]? = some u → w.cell? (a.add (i.1 * d.sz + j)) = some u := by
      intro i
      have h1 := hel i.1 i.2
      rw [hc] at h1
      obtain ⟨y, hy⟩ : ∃ y, elems[i.1]? = some y := ⟨_, List.getElem?_eq_getElem (by rw [hlen]; exact i.2)⟩
      rw [hy, Option.bind_eq_some_iff] at h1
      obtain ⟨c, h2, h3⟩ := h1
      obtain ⟨v, hv⟩ := he H enc w base spare held n c y h3
      refine ⟨(v, c), hv, d.K_len hv, fun j u hu => ?_⟩
      unfold World.cells? at h2
      rw [if_pos (by unfold Addr.add; split <;> exact hb)] at h2
      obtain ⟨_, h4⟩ := mapM_get h2
      obtain ⟨z, hz, hz2⟩ := h4 j u hu
      have : z = j := by
        have := List.getElem?_eq_some_iff.1 hz
        obtain ⟨hlt, hz'⟩ := this
        simpa using hz'.symm
      subst this
      rw [Addr.add_add] at hz2
      exact hz2
    have hmx : maxLen = 9223372036854775807 := by unfold maxLen; rfl
    refine ⟨List.ofFn fun i : Fin len => (Classical.choose (each i)).1, some a, cap, by simp, by simpa using hl, ?_, by simp; omega, fun hp => ⟨a, rfl, fun j p hj => ?_⟩⟩
    · rfl
    · have hj' : j < len := by
        have := (List.getElem?_eq_some_iff.1 hj).1
        simpa using this
      have hp' : p = (Classical.choose (each ⟨j, hj'⟩)).1 := by
        rw [List.getElem?_ofFn, dif_pos hj'] at hj
        exact (Option.some.inj hj).symm
      obtain ⟨h1, h2, h3⟩ := Classical.choose_spec (each ⟨j, hj'⟩)
      exact ⟨_, h2, by rw [hp']; exact h1, h3⟩
def OpensF {α : Type} (P : Program) (fs : List Field) (off : Nat) (d : Kd α) : Prop :=
  ∀ (H : Type) (enc : TypeId × Value → H) (w : World) (base : Nat) (spare : Nat → Bool) (held : Bool) (n : Nat) (cs : List Value),
    (∀ f ∈ fs, ∃ x, DataW.trod enc P w base spare held n f.type ((cs.drop f.offset).take (P.cellsOf f.type)) = some x) → cs.length = off + d.sz → ∃ a, d.K w a (cs.drop off)
theorem opensF_one {α : Type} {d : Kd α} {f : Field} {off : Nat} (ho : f.offset = off) (hc : P.cellsOf f.type = d.sz) (h : Opens P f.type d) : OpensF P [f] off d := by
  intro H enc w base spare held n cs hf hl
  obtain ⟨x, hx⟩ := hf f List.mem_cons_self
  obtain ⟨a, ha⟩ := h H enc w base spare held n _ x hx
  refine ⟨a, ?_⟩
  rw [ho, hc, List.take_of_length_le (by simp; omega)] at ha
  exact ha
theorem opensF_cons {α β : Type} {d : Kd α} {d2 : Kd β} {f : Field} {fs : List Field} {off off2 : Nat} (ho : f.offset = off) (hc : P.cellsOf f.type = d.sz) (h2 : off2 = off + d.sz) (h : Opens P f.type d) (hr : OpensF P fs off2 d2) : OpensF P (f :: fs) off (Kd.pair d d2) := by
  intro H enc w base spare held n cs hf hl
  have hl' : cs.length = off + (d.sz + d2.sz) := hl
  obtain ⟨x, hx⟩ := hf f List.mem_cons_self
  obtain ⟨a, ha⟩ := h H enc w base spare held n _ x hx
  obtain ⟨b, hb⟩ := hr H enc w base spare held n cs (fun g hg => hf g (List.mem_cons_of_mem _ hg)) (by omega)
  refine ⟨(a, b), (cs.drop off).take d.sz, cs.drop off2, ?_, ?_, hb⟩
  · rw [h2, ← List.drop_drop, List.take_append_drop]
  · rw [ho, hc] at ha
    exact ha
theorem opens_struct {α : Type} {d : Kd α} {fs : Array Field} (ht : P.underlying t = some (.struct fs)) (hc : P.cellsOf t = d.sz) (h : OpensF P fs.toList 0 d) : Opens P t d := by
  intro H enc w base spare held fuel cs x hx
  obtain ⟨xs, n, _, _, hl, hlen, hf⟩ := DataW.trod_struct ht hx
  obtain ⟨a, ha⟩ := h H enc w base spare held n cs (fun f hm => by
    obtain ⟨i, hi⟩ := List.getElem?_of_mem hm
    have hi' : fs[i]? = some f := by simpa using hi
    have := hf i f hi'
    have hlt : i < xs.length := by
      rw [hlen]
      exact (Array.getElem?_eq_some_iff.1 hi').1
    exact ⟨_, this.trans (List.getElem?_eq_getElem hlt)⟩) (by omega)
  exact ⟨a, by simpa using ha⟩
theorem open_arg {α : Type} {d : Kd α} (h : Opens P t d) {H : Type} {enc : TypeId × Value → H} {w : World} {base : Nat} {spare : Nat → Bool} {held : Bool} {v : Value} {x : DataW H} {ps : List MemPlace}
    (hx : DataW.Trod enc P w base spare held t v x ps) : ∃ a, d.K w a v.cells.toList := by
  obtain ⟨fuel, hf⟩ := hx
  exact h H enc w base spare held fuel _ _ hf
end Go.Proofs.Ytpdnabhpkdchjaa.Open
namespace Go.Proofs.Ytpdnabhpkdchjaa.Open
open Go.RowKit Go.Proofs.YtpdnabhpkdchjaaW.PrintWords Go.Proofs.YtpdnabhpkdchjaaW.PrintLast Go.Proofs.YtpdnabhpkdchjaaW.PrintMore
open Go.ChangeShapes Go.WideShapes Go.ChangeAt P
set_option maxRecDepth 100000
set_option linter.unusedVariables false
theorem oInt : Opens Try.prog 3 (Kd.int .i64) := opens_int Try.underlying3
theorem o160 : Opens Try.prog 160 k160 :=
  opens_iso _ (fun a => ⟨a.1, a.2⟩) (fun _ => rfl) (opens_struct Try.underlying160 (by kernel_rfl) (opensF_cons rfl (by kernel_rfl) rfl oInt (opensF_one rfl (by kernel_rfl) oInt)))
theorem o157 : Opens Try.prog 157 k157 :=
  opens_iso _ (fun a => ⟨a.1, a.2.1, a.2.2⟩) (fun _ => rfl) (opens_struct Try.underlying157 (by kernel_rfl) (opensF_cons rfl (by kernel_rfl) rfl oInt (opensF_cons rfl (by kernel_rfl) rfl oInt (opensF_one rfl (by kernel_rfl) oInt))))
theorem oCounters : Opens Try.prog 23 (Kd.slice 160 k160) := opens_slice Try.underlying23 (by kernel_rfl) o160
theorem oPosts : Opens Try.prog 101 (Kd.slice 157 k157) := opens_slice Try.underlying101 (by kernel_rfl) o157
theorem oInts : Opens Try.prog 59 (Kd.slice 3 (Kd.int .i64)) := opens_slice Try.underlying59 (by kernel_rfl) oInt
theorem oLayout : Opens Try.prog 25 (Kd.pair (Kd.int .i64) (Kd.slice 160 k160)) :=
  opens_struct Try.underlying25 (by kernel_rfl) (opensF_cons rfl (by kernel_rfl) rfl oInt (opensF_one rfl (by kernel_rfl) oCounters))
section
variable {H : Type} {enc : TypeId × Value → H} {W : World} {base b0 : Nat} {spare : Nat → Bool} {held : Bool} {v : Value} {x : DataW H} {ps : List MemPlace} {r : Reach}
theorem arg_layout (hv : Value.okWide Try.prog W r b0 25 v) (h : DataW.Trod enc Try.prog W base spare held 25 v x ps) :
    ∃ n A c l, v = .agg #[.int .i64 n, .slice A l.length c] ∧ Kd.C k160 W A l.length l ∧ l.length ≤ c := by
  obtain ⟨cs, rfl, _⟩ := okWide_struct Try.underlying25 hv
  obtain ⟨⟨n, l⟩, c0, c1, hcs, h0, A, c, h1, hl, hr⟩ := open_arg oLayout h
  have h0' : c0 = [.int .i64 n] := h0
  subst h0' h1
  refine ⟨n, A, c, l, ?_, hr, hl⟩
  have : cs.toList = [.int .i64 n, .slice A l.length c] := hcs
  rw [← Array.toArray_toList (xs := cs), this]
theorem arg_slice {α : Type} {d : Kd α} {t e : TypeId} (ht : Try.prog.underlying t = some (.slice e)) (hd : Opens Try.prog t (Kd.slice e d)) (hv : Value.okWide Try.prog W r b0 t v) (h : DataW.Trod enc Try.prog W base spare held t v x ps) :
    ∃ A c l, v = .slice A l.length c ∧ Kd.C d W A l.length l ∧ l.length ≤ c := by
  obtain ⟨a, len, cap, rfl⟩ := okWide_slice ht hv
  obtain ⟨l, A, c, h1, hl, hr⟩ := open_arg hd h
  have h1' : [Value.slice a len cap] = [.slice A l.length c] := h1
  injection h1' with h2 _
  injection h2 with h3 h4 h5
  subst h3 h4 h5
  exact ⟨_, _, l, rfl, hr, hl⟩
theorem arg_int (hv : Value.okWide Try.prog W r b0 3 v) (h : DataW.Trod enc Try.prog W base spare held 3 v x ps) : ∃ n, v = .int .i64 n ∧ (Lit.int .i64 n).wf = true := by
  obtain ⟨n, rfl, rfl, rfl, hw⟩ := open_int Try.underlying3 hv h
  exact ⟨n, rfl, hw⟩
end
theorem joined_of (f : FuncId) (fn : Func) (s : ChangeSpec) (c : OpenClaim) (k1 : c.wf (OpenSpec.ofChange s) = true) (k4 : fn.params.all (Try.prog.readableRec ·) = true) (k5 : namedTie Try.prog c.named s.vars = true)
    (k6 : (c.stops == []) = true) (k8 : (c.knobs == []) = true) (k9 : (Try.prog.stopKnobs == []) = true) (k10 : (c.inPlace == Try.prog.inPlace f) = true) (k11 : (c.unfollowed == Try.prog.unfollowed f) = true) (k12 : (c.recurses == Try.prog.recurses f) = true) (k13 : (c.named == Try.prog.varsNamed f) = true)
    (k14 : (c.maps == (fn.params.toList ++ s.plain.varTypes Try.prog).any (Try.prog.mapsRec ·)) = true) (k15 : (c.ifaces == (fn.params.toList ++ s.plain.varTypes Try.prog).any (Try.prog.ifacesRec ·)) = true) (k16 : (c.mapsOut == Try.prog.mapsAmong fn.resultTypes.toList) = true)
    (k17 : (c.loops == (fn.params.toList ++ s.plain.varTypes Try.prog).any (Try.prog.loopsFrom ·)) = true) (k17b : (c.wideKeys == (fn.params.toList ++ s.plain.varTypes Try.prog ++ fn.resultTypes.toList).any (Try.prog.wideKeysFrom ·)) = true)
    (k18 : s.vars.all (Try.prog.varReadable ·) = true) (k19 : fn.resultTypes.all (fun t => Try.prog.readableRec t && decide (t < Try.prog.types.size)) = true) (k20 : (c.ifacesOut == fn.resultTypes.toList.any (Try.prog.ifacesRec ·)) = true) (k21 : (c.loopsOut == fn.resultTypes.toList.any (Try.prog.loopsFrom ·)) = true)
    (k22 : c.plainKeys = true) (k23 : c.shortTexts.isNone = true) (k24 : c.lifted = false) (k25 : c.make = .cut)
    (k26a : c.domain.isEmpty = true) (k26b : c.kinds = []) (k27 : (c.pinned == c.pinnedBy) = true)
    (k28 : (c.veiled == (fn.params.toList ++ s.plain.varTypes Try.prog ++ fn.resultTypes.toList).any (Try.prog.veiledRec ·)) = true) (k29 : c.veiledFits Try.prog fn.params.toList (fn.params.toList ++ s.plain.varTypes Try.prog ++ fn.resultTypes.toList) = true) :
    joinedFacts Try.prog f fn s c = true := by
  have q1 := Facts.laidOut
  have q2 := Facts.mapsRowed
  have q3 := Facts.stops
  have q4 := Facts.plainKeys
  have q5 := Facts.stopsHeard
  have q6 := Facts.mayEnter
  have q7 := Facts.liftsFinal
  have q8 := Facts.make
  generalize Try.prog = P at *
  unfold joinedFacts
  rw [k22, q4, k24, q7, k25, q8, k1, q1, q2, k4, k5, k6, q3, k8, k9, k10, k11, k12, k13, k14, k15, k16, k17, k17b, k18, k19, k20, k21, k23, q5, q6, k26a, k26b, if_pos rfl, k27, k28, k29]
  rfl
end Go.Proofs.Ytpdnabhpkdchjaa.Open
namespace Go.Proofs.Ytpdnabhpkdchjaa.P
open Go.RowKit Go.Proofs.YtpdnabhpkdchjaaW.PrintWords Go.Proofs.YtpdnabhpkdchjaaW.PrintLast
set_option linter.unusedVariables false
set_option linter.unusedSimpArgs false
instance dec154 : DecidableEq S154 := fun x y => decidable_of_iff (x.f0 = y.f0 ∧ x.f1 = y.f1 ∧ x.f2 = y.f2) (by cases x; cases y; simp)
def metAt (ps : List S143) (a i fr tt : Int) (k : Nat) : List S154 :=
  if fr < (rd_T143 ps (k : Int)).f0 + a ∧ (rd_T143 ps (k : Int)).f0 + a ≤ tt then [⟨(rd_T143 ps (k : Int)).f0 + a, i, (k : Int)⟩] else []
def rowTo (ps : List S143) (a i fr tt : Int) : Nat → List S154
  | 0 => []
  | k + 1 => rowTo ps a i fr tt k ++ metAt ps a i fr tt k
def metTo (ps : List S143) (ax : List Int) (fr tt : Int) : Nat → List S154
  | 0 => []
  | i + 1 => metTo ps ax fr tt i ++ rowTo ps (rd ax (i : Int)) (i : Int) fr tt ps.length
def mets (ps : List S143) (ax : List Int) (fr tt : Int) : List S154 := metTo ps ax fr tt ax.length
theorem mem_metAt {ps : List S143} {a i fr tt : Int} {k : Nat} {x : S154} : x ∈ metAt ps a i fr tt k ↔ x = ⟨(rd_T143 ps (k : Int)).f0 + a, i, (k : Int)⟩ ∧ fr < x.f0 ∧ x.f0 ≤ tt := by
  unfold metAt
  by_cases h : fr < (rd_T143 ps (k : Int)).f0 + a ∧ (rd_T143 ps (k : Int)).f0 + a ≤ tt
  · rw [if_pos h, List.mem_singleton]
    exact ⟨fun e => ⟨e, by rw [e]; exact h⟩, fun e => e.1⟩
  · rw [if_neg h]
    refine ⟨fun e => absurd e List.not_mem_nil, fun e => absurd ?_ h⟩
    have := e.2
    rw [e.1] at this
    exact this
theorem mem_rowTo {ps : List S143} {a i fr tt : Int} {x : S154} : ∀ {n : Nat}, x ∈ rowTo ps a i fr tt n ↔ ∃ k, k < n ∧ x = ⟨(rd_T143 ps (k : Int)).f0 + a, i, (k : Int)⟩ ∧ fr < x.f0 ∧ x.f0 ≤ tt
  | 0 => ⟨fun h => absurd h List.not_mem_nil, fun ⟨k, h, _⟩ => absurd h (Nat.not_lt_zero k)⟩
  | n + 1 => by
    rw [rowTo, List.mem_append, mem_rowTo (n := n), mem_metAt]
    constructor
    · rintro (⟨k, h, r⟩ | r)
      · exact ⟨k, Nat.lt_succ_of_lt h, r⟩
      · exact ⟨n, Nat.lt_succ_self n, r⟩
    · rintro ⟨k, h, r⟩
      by_cases e : k = n
      · subst e; exact Or.inr r
      · exact Or.inl ⟨k, by omega, r⟩
theorem mem_metTo {ps : List S143} {ax : List Int} {fr tt : Int} {x : S154} : ∀ {n : Nat}, x ∈ metTo ps ax fr tt n ↔ ∃ i k, i < n ∧ k < ps.length ∧ x = ⟨(rd_T143 ps ((k : Nat) : Int)).f0 + rd ax ((i : Nat) : Int), (i : Int), (k : Int)⟩ ∧ fr < x.f0 ∧ x.f0 ≤ tt
  | 0 => ⟨fun h => absurd h List.not_mem_nil, fun ⟨i, _, h, _⟩ => absurd h (Nat.not_lt_zero i)⟩
  | n + 1 => by
    rw [metTo, List.mem_append, mem_metTo (n := n), mem_rowTo]
    constructor
    · rintro (⟨i, k, h, r⟩ | ⟨k, r⟩)
      · exact ⟨i, k, Nat.lt_succ_of_lt h, r⟩
      · exact ⟨n, k, Nat.lt_succ_self n, r⟩
    · rintro ⟨i, k, h, r⟩
      by_cases e : i = n
      · subst e; exact Or.inr ⟨k, r⟩
      · exact Or.inl ⟨i, k, by omega, r⟩
theorem mem_mets {ps : List S143} {ax : List Int} {fr tt : Int} {x : S154} : x ∈ mets ps ax fr tt ↔ ∃ i k, i < ax.length ∧ k < ps.length ∧ x = ⟨(rd_T143 ps ((k : Nat) : Int)).f0 + rd ax ((i : Nat) : Int), (i : Int), (k : Int)⟩ ∧ fr < x.f0 ∧ x.f0 ≤ tt := mem_metTo
def ixLt (x y : S154) : Prop := x.f1 < y.f1 ∨ (x.f1 = y.f1 ∧ x.f2 < y.f2)
theorem metAt_ix (ps : List S143) (a i fr tt : Int) (k : Nat) : (metAt ps a i fr tt k).Pairwise ixLt := by
  unfold metAt
  split <;> simp
theorem rowTo_ix (ps : List S143) (a i fr tt : Int) : ∀ n, (rowTo ps a i fr tt n).Pairwise ixLt
  | 0 => List.Pairwise.nil
  | n + 1 => by
    rw [rowTo, List.pairwise_append]
    refine ⟨rowTo_ix ps a i fr tt n, metAt_ix .., fun x hx y hy => ?_⟩
    obtain ⟨k, hk, ex, _⟩ := mem_rowTo.1 hx
    have ey := (mem_metAt.1 hy).1
    rw [ex, ey]
    exact Or.inr ⟨rfl, by show (k : Int) < (n : Int); omega⟩
theorem metTo_ix (ps : List S143) (ax : List Int) (fr tt : Int) : ∀ n, (metTo ps ax fr tt n).Pairwise ixLt
  | 0 => List.Pairwise.nil
  | n + 1 => by
    rw [metTo, List.pairwise_append]
    refine ⟨metTo_ix ps ax fr tt n, rowTo_ix .., fun x hx y hy => ?_⟩
    obtain ⟨i, k, hi, hk, ex, _⟩ := mem_metTo.1 hx
    obtain ⟨k', hk', ey, _⟩ := mem_rowTo.1 hy
    rw [ex, ey]
    exact Or.inl (by show (i : Int) < (n : Int); omega)
theorem metAt_len (ps : List S143) (a i fr tt : Int) (k : Nat) : (metAt ps a i fr tt k).length ≤ 1 := by
  unfold metAt
  split <;> simp
theorem rowTo_len (ps : List S143) (a i fr tt : Int) : ∀ n, (rowTo ps a i fr tt n).length ≤ n
  | 0 => Nat.le_refl _
  | n + 1 => by rw [rowTo, List.length_append]; have := rowTo_len ps a i fr tt n; have := metAt_len ps a i fr tt n; omega
theorem metTo_len (ps : List S143) (ax : List Int) (fr tt : Int) : ∀ n, (metTo ps ax fr tt n).length ≤ n * ps.length
  | 0 => Nat.zero_le _
  | n + 1 => by rw [metTo, List.length_append, Nat.succ_mul]; have := metTo_len ps ax fr tt n; have := rowTo_len ps (rd ax (n : Int)) (n : Int) fr tt ps.length; omega
def lexLt (x y : S154) : Bool := decide (x.f0 < y.f0 ∨ (x.f0 = y.f0 ∧ (x.f1 < y.f1 ∨ (x.f1 = y.f1 ∧ x.f2 < y.f2))))
theorem lexLt_iff {x y : S154} : lexLt x y = true ↔ (x.f0 < y.f0 ∨ (x.f0 = y.f0 ∧ (x.f1 < y.f1 ∨ (x.f1 = y.f1 ∧ x.f2 < y.f2)))) := by unfold lexLt; exact decide_eq_true_iff
theorem lexLt_not {x y : S154} : lexLt x y = false ↔ ¬ (x.f0 < y.f0 ∨ (x.f0 = y.f0 ∧ (x.f1 < y.f1 ∨ (x.f1 = y.f1 ∧ x.f2 < y.f2)))) := by unfold lexLt; exact decide_eq_false_iff_not
theorem lexLt_irrefl (x : S154) : lexLt x x = false := lexLt_not.2 (by omega)
theorem lexLt_trans {x y z : S154} (h1 : lexLt x y = true) (h2 : lexLt y z = true) : lexLt x z = true := by rw [lexLt_iff] at *; omega
theorem lexLt_asymm {x y : S154} (h1 : lexLt x y = true) : lexLt y x = false := by rw [lexLt_iff] at h1; rw [lexLt_not]; omega
theorem lexLt_total {x y : S154} (h1 : lexLt x y = false) (h2 : lexLt y x = false) : x = y := by
  rw [lexLt_not] at h1 h2
  obtain ⟨a, b, c⟩ := x
  obtain ⟨d, e, f⟩ := y
  dsimp only at h1 h2
  obtain rfl : a = d := by omega
  obtain rfl : b = e := by omega
  obtain rfl : c = f := by omega
  rfl
theorem snoc_ind {α : Type} {P : List α → Prop} (h0 : P []) (h1 : ∀ xs y, P xs → P (xs ++ [y])) (xs : List α) : P xs := by
  have h : ∀ ys : List α, P ys.reverse := by
    intro ys
    induction ys with
    | nil => exact h0
    | cons y ys ih => rw [List.reverse_cons]; exact h1 _ _ ih
  have := h xs.reverse
  rwa [List.reverse_reverse] at this
theorem lex_unique {xs ys : List S154} (hp : xs.Perm ys) (hx : xs.Pairwise (fun a b => lexLt a b = true)) (hy : ys.Pairwise (fun a b => lexLt a b = true)) : xs = ys :=
  List.Perm.eq_of_pairwise (le := fun a b => lexLt a b = true) (fun a b _ _ h1 h2 => absurd (lexLt_asymm h1) (by rw [h2]; decide)) hx hy hp
def insM (y : S154) (acc : List S154) : List S154 := acc.filter (fun x => !lexLt y x) ++ y :: acc.filter (fun x => lexLt y x)
def sortM (xs : List S154) : List S154 := xs.foldl (fun acc y => insM y acc) []
theorem sortM_snoc (xs : List S154) (y : S154) : sortM (xs ++ [y]) = insM y (sortM xs) := by rw [sortM, List.foldl_append]; rfl
theorem insM_perm (y : S154) (acc : List S154) : (insM y acc).Perm (y :: acc) := by
  unfold insM
  refine List.perm_middle.trans (List.Perm.cons y ?_)
  refine List.perm_append_comm.trans ?_
  have := List.filter_append_perm (fun x => lexLt y x) acc
  exact this
theorem sortM_perm : ∀ (xs : List S154), (sortM xs).Perm xs := by
  refine snoc_ind (List.Perm.refl _) fun xs y ih => ?_
  · rw [sortM_snoc]
    exact (insM_perm y _).trans ((List.Perm.cons y ih).trans (List.perm_append_comm (l₁ := [y])))
theorem insM_sorted {y : S154} {acc : List S154} (ha : acc.Pairwise (fun a b => lexLt a b = true)) (hy : y ∉ acc) : (insM y acc).Pairwise (fun a b => lexLt a b = true) := by
  unfold insM
  rw [List.pairwise_append, List.pairwise_cons]
  refine ⟨ha.filter _, ⟨fun b hb => (List.mem_filter.1 hb).2, ha.filter _⟩, fun a h b hb => ?_⟩
  have h1 := List.mem_filter.1 h
  have hny : lexLt y a = false := by have := h1.2; simpa using this
  have hay : lexLt a y = true := by
    cases hq : lexLt a y
    · exact absurd (lexLt_total hny hq ▸ h1.1) hy
    · rfl
  rcases List.mem_cons.1 hb with rfl | hb
  · exact hay
  · exact lexLt_trans hay (List.mem_filter.1 hb).2
theorem sortM_sorted (xs : List S154) : xs.Nodup → (sortM xs).Pairwise (fun a b => lexLt a b = true) := by
  refine snoc_ind (P := fun xs => xs.Nodup → (sortM xs).Pairwise (fun a b => lexLt a b = true)) (fun _ => List.Pairwise.nil) (fun xs y ih hx => ?_) xs
  rw [List.nodup_append] at hx
  rw [sortM_snoc]
  exact insM_sorted (ih hx.1) (fun h => hx.2.2 _ ((sortM_perm xs).mem_iff.1 h) _ List.mem_cons_self rfl)
theorem ix_nodup {xs : List S154} (h : xs.Pairwise ixLt) : xs.Nodup := h.imp (fun {a b} h e => by subst e; unfold ixLt at h; omega)
theorem mets_nodup (ps : List S143) (ax : List Int) (fr tt : Int) : (mets ps ax fr tt).Nodup := ix_nodup (metTo_ix ps ax fr tt _)
def evOf (ps : List S143) (x : S154) : S56 := ⟨1, (rd_T143 ps x.f2).f1, (rd_T143 ps x.f2).f2⟩
def trainEvs (ps : List S143) (ax : List Int) (fr tt : Int) : List S56 := (sortM (mets ps ax fr tt)).map (evOf ps)
theorem mem_sortM {xs : List S154} {x : S154} : x ∈ sortM xs ↔ x ∈ xs := (sortM_perm xs).mem_iff
theorem sortM_len (xs : List S154) : (sortM xs).length = xs.length := (sortM_perm xs).length_eq
end Go.Proofs.Ytpdnabhpkdchjaa.P
namespace Go.Proofs.Ytpdnabhpkdchjaa.P
open Go.RowKit Go.Proofs.YtpdnabhpkdchjaaW.PrintWords Go.Proofs.YtpdnabhpkdchjaaW.PrintLast Go.Proofs.YtpdnabhpkdchjaaW.PrintMore
set_option linter.unusedVariables false
set_option linter.unusedSimpArgs false
theorem ret_int {k : IntKind} {a b : Int} (h : a = b) : Ending.returned (.int k a) = .returned (.int k b) := by rw [h]
theorem ret_bool {a b : Bool} (h : a = b) : Ending.returned (.bool a) = .returned (.bool b) := by rw [h]
def inB (n x : Int) : Bool := decide (-1 ≤ x) && decide (x < n)
def ctrOk (n : Int) (x : S88) : Bool := inB n x.f0 && inB n x.f1 && !(x.f0 == x.f1)
def layoutOk (n : Int) (l : List S88) : Int := if n < 1 then 1 else if 60 < n then 1 else if 120 < l.length then 1 else if l.all (ctrOk n) then 0 else 2
def impl_LayoutOk.f (a0_0 : Int) (l0_1 : List S88) : Option Int := some (layoutOk a0_0 l0_1)
theorem in_calls (x n : Int) (v : Value) (g : Nat) (w : World) (hb : w.heap[g]? = some (.cells #[.int .i64 n, v] 30 (0, 0))) :
    Calls Try.prog 89 #[.int .i64 x, .pointer (some ⟨g, 0, none⟩)] w fun e w' => e = .returned (.bool (inB n x)) ∧ w = w' := by
  have hc : w.cell? ⟨g, 0, none⟩ = some (.int .i64 n) := (blk_cell hb 0).trans rfl
  by_cases h : -1 ≤ x
  · have h1 : decide (x ≥ -1) = true := decide_eq_true h
    go_enter Try.func89, Try.ntmps89
    go_wp2
    go_ret
    exact ⟨ret_bool (by simp [inB, h]), rfl⟩
  · have h1 : decide (x ≥ -1) = false := decide_eq_false h
    go_enter Try.func89, Try.ntmps89
    go_wp2
    go_ret
    exact ⟨ret_bool (by simp only [inB, decide_eq_false (show ¬ (-1 ≤ x) by omega), Bool.false_and]), rfl⟩
theorem layoutOk_bad {n : Int} {l : List S88} (h : ¬ (n < 1) ∧ ¬ (60 < n) ∧ ¬ (120 < l.length)) {i : Nat} (hi : i < l.length) (hb : ctrOk n (rd_T88 l i) = false) : layoutOk n l = 2 := by
  unfold layoutOk
  rw [if_neg h.1, if_neg h.2.1, if_neg h.2.2, if_neg]
  intro ha
  have := List.all_eq_true.1 ha (l.getD i z88) (by rw [List.getD_eq_getElem?_getD, List.getElem?_eq_getElem hi]; exact List.getElem_mem hi)
  simp only [rd_T88, Int.toNat_natCast] at hb
  rw [hb] at this
  cases this
theorem lay_b {n : Int} {m : Nat} (h : 1 ≤ n ∧ n ≤ 60 ∧ ¬ 120 < m) : ¬ (n < 1) ∧ ¬ (60 < n) ∧ ¬ (120 < m) := ⟨by omega, by omega, h.2.2⟩
theorem layoutOk_good {n : Int} {l : List S88} (h : ¬ (n < 1) ∧ ¬ (60 < n) ∧ ¬ (120 < l.length)) {i : Nat} (hi : ¬ i < l.length) (ht : (l.take i).all (ctrOk n) = true) : layoutOk n l = 0 := by
  rw [List.take_of_length_le (by omega)] at ht
  unfold layoutOk
  rw [if_neg h.1, if_neg h.2.1, if_neg h.2.2, if_pos ht]
theorem take_all {n : Int} {l : List S88} {i : Nat} (hi : i < l.length) (ht : (l.take i).all (ctrOk n) = true) (hb : ctrOk n (rd_T88 l i) = true) : (l.take (i + 1)).all (ctrOk n) = true := by
  rw [List.take_succ_eq_append_getElem hi, List.all_append, ht]
  simp only [rd_T88, Int.toNat_natCast, List.getD_eq_getElem?_getD, List.getElem?_eq_getElem hi, Option.getD_some] at hb
  simp [hb]
set_option maxHeartbeats 2000000 in
set_option maxRecDepth 100000 in
theorem impl_LayoutOk.calls (a0_0 : Int) (A0_1 : Option Addr) (c0_1 : Nat) (l0_1 : List (S88)) (r : Int) (w : World) (hr0_1 : Kd.C k88 w A0_1 l0_1.length l0_1) (hc0_1 : l0_1.length ≤ c0_1) (h : impl_LayoutOk.f a0_0 l0_1 = some r) :
    Calls Try.prog 25 #[.agg #[.int .i64 a0_0, .slice A0_1 l0_1.length c0_1]] w fun e w' => e = .returned (.int .i64 r) ∧ Below w.heap.size w w' := by
  obtain rfl := Option.some.inj h
  clear h
  have HR := Aside0.mk hr0_1
  clear hr0_1 hc0_1
  by_cases h1 : a0_0 < 1
  · have e : Aside0 (layoutOk a0_0 l0_1 = 1) := ⟨by unfold layoutOk; rw [if_pos h1]⟩
    have h1b : decide (a0_0 < 1) = true := decide_eq_true h1
    clear h1
    go_enter Try.func25, Try.ntmps25
    go_wp2
    go_ret
    exact ⟨ret_int e.out.symm, below_alloc (Below.refl _ _) _⟩
  · have h1b : decide (a0_0 < 1) = false := decide_eq_false h1
    by_cases h2 : 60 < a0_0
    · have e : Aside0 (layoutOk a0_0 l0_1 = 1) := ⟨by unfold layoutOk; rw [if_neg h1, if_pos h2]⟩
      have h2b : decide (a0_0 > 60) = true := decide_eq_true h2
      clear h1 h2
      go_enter Try.func25, Try.ntmps25
      go_wp2
      go_ret
      exact ⟨ret_int e.out.symm, below_alloc (Below.refl _ _) _⟩
    · have h2b : decide (a0_0 > 60) = false := decide_eq_false h2
      by_cases h3 : 120 < l0_1.length
      · have e : Aside0 (layoutOk a0_0 l0_1 = 1) := ⟨by unfold layoutOk; rw [if_neg h1, if_neg h2, if_pos h3]⟩
        have h3b : decide ((l0_1.length : Int) > 120) = true := decide_eq_true (by omega)
        have h3c : decide (120 < l0_1.length) = true := decide_eq_true h3
        clear h1 h2 h3
        go_enter Try.func25, Try.ntmps25
        go_wp2
        go_ret
        exact ⟨ret_int e.out.symm, below_alloc (Below.refl _ _) _⟩
      · have h3b : decide ((l0_1.length : Int) > 120) = false := decide_eq_false (by omega)
        have h3c : decide (120 < l0_1.length) = false := decide_eq_false h3
        have HH : Aside0 (¬ (a0_0 < 1) ∧ ¬ (60 < a0_0) ∧ ¬ (120 < l0_1.length)) := ⟨h1, h2, h3⟩
        clear h1 h2 h3
        go_enter Try.func25, Try.ntmps25
        go_wp2
        go_loopw [24] (fun v wr => ∃ i : Nat, v = .int .i64 i ∧ Aside0 (i ≤ l0_1.length ∧ (l0_1.take i).all (ctrOk a0_0) = true) ∧ Aside0 (wr.heap[w.heap.size]? = some (.cells #[.int .i64 a0_0, .slice A0_1 l0_1.length c0_1] 30 (0, 0))) ∧ Aside0 (Below w.heap.size w wr)) (fun v _ => l0_1.length - (intOf v).toNat)
        case atStart => exact ⟨0, rfl, ⟨Nat.zero_le _, by simp⟩, ⟨heap_alloc_new _ _⟩, ⟨below_alloc (Below.refl _ _) _⟩⟩
        case round =>
          obtain ⟨i, rfl, HI, BK, HB⟩ := hrel
          have hgt : Aside0 (¬ (a0_0 < 1) ∧ ¬ (60 < a0_0) ∧ ¬ (120 < l0_1.length)) := by
            have := HH.out
            exact ⟨by omega, by omega, by omega⟩
          clear HH
          have hcz0 : wr.cell? ⟨w.heap.size, 0, none⟩ = some (.int .i64 a0_0) := (blk_cell BK.out 0).trans rfl
          have hcz1 : wr.cell? ⟨w.heap.size, 1, none⟩ = some (.slice A0_1 l0_1.length c0_1) := (blk_cell BK.out 1).trans rfl
          by_cases hlt : i < l0_1.length
          · have hlt1 : decide ((i : Int) < (l0_1.length : Int)) = true := decide_eq_true (by omega)
            have hlt2 : decide (i < l0_1.length) = true := decide_eq_true hlt
            obtain ⟨ad, e, hx0, hx1⟩ := at_T88 HR.out (i : Int) (by omega) (by omega)
            subst e
            replace hx0 := (HB.out.cell (World.block_lt_of_cell? w _ hx0)).trans hx0
            replace hx1 := (HB.out.cell (World.block_lt_of_cell? w _ hx1)).trans hx1
            rw [Int.toNat_natCast] at hx0 hx1
            generalize hv : rd_T88 l0_1 i = v at hx0 hx1
            have HV := Aside0.mk hv
            clear hv
            have HLT := Aside0.mk hlt
            have hsz := Aside0.mk HB.out.size
            have hp0 : 0 ≤ (i : Int) := by omega
            have hp1 : (i : Int) < 120 := by have := hgt.out; omega
            by_cases t1 : inB a0_0 v.f0 = true
            · have T1 : Aside0 (true = inB a0_0 v.f0) := ⟨t1.symm⟩
              clear t1
              by_cases t2 : inB a0_0 v.f1 = true
              · have T2 : Aside0 (true = inB a0_0 v.f1) := ⟨t2.symm⟩
                clear t2
                by_cases t3 : v.f0 = v.f1
                · have t3b : (v.f0 == v.f1) = true := beq_iff_eq.mpr t3
                  have T3 : Aside0 (true = (v.f0 == v.f1)) := ⟨t3b.symm⟩
                  clear t3
                  go_wp2_with (go_at_call 89; refine (in_calls _ a0_0 _ w.heap.size _ (blk_alloc BK.out _)).mono ?_; rintro e w' ⟨rfl, rfl⟩; (first | rw [← T1.out] | rw [← T2.out]))
                  go_ret
                  exact ⟨ret_int (layoutOk_bad (lay_b hgt.out) HLT.out (by rw [HV.out]; simp [ctrOk, ← T3.out])).symm, below_alloc HB.out _⟩
                · have t3b : (v.f0 == v.f1) = false := beq_eq_false_iff_ne.mpr t3
                  have T3 : Aside0 (false = (v.f0 == v.f1)) := ⟨t3b.symm⟩
                  clear t3
                  go_wp2_with (go_at_call 89; refine (in_calls _ a0_0 _ w.heap.size _ (blk_alloc BK.out _)).mono ?_; rintro e w' ⟨rfl, rfl⟩; (first | rw [← T1.out] | rw [← T2.out]))
                  go_roundw
                  case rel => exact ⟨i + 1, by go_num, ⟨HLT.out, take_all HLT.out HI.out.2 (by rw [HV.out]; simp [ctrOk, ← T1.out, ← T2.out, ← T3.out])⟩, ⟨blk_alloc BK.out _⟩, ⟨below_alloc HB.out _⟩⟩
                  case measure => have := HLT.out; simp [intOf]; omega
              · have T2 : Aside0 (false = inB a0_0 v.f1) := ⟨by simpa using t2⟩
                clear t2
                go_wp2_with (go_at_call 89; refine (in_calls _ a0_0 _ w.heap.size _ (blk_alloc BK.out _)).mono ?_; rintro e w' ⟨rfl, rfl⟩; (first | rw [← T1.out] | rw [← T2.out]))
                go_ret
                exact ⟨ret_int (layoutOk_bad (lay_b hgt.out) HLT.out (by rw [HV.out]; simp [ctrOk, ← T2.out])).symm, below_alloc HB.out _⟩
            · have T1 : Aside0 (false = inB a0_0 v.f0) := ⟨by simpa using t1⟩
              clear t1
              go_wp2_with (go_at_call 89; refine (in_calls _ a0_0 _ w.heap.size _ (blk_alloc BK.out _)).mono ?_; rintro e w' ⟨rfl, rfl⟩; rw [← T1.out])
              go_ret
              exact ⟨ret_int (layoutOk_bad (lay_b hgt.out) HLT.out (by rw [HV.out]; simp [ctrOk, ← T1.out])).symm, below_alloc HB.out _⟩
          · have hlt1 : decide ((i : Int) < (l0_1.length : Int)) = false := decide_eq_false (by omega)
            have hlt2 : decide (i < l0_1.length) = false := decide_eq_false hlt
            have HLT := Aside0.mk hlt
            clear hlt
            go_wp2
            go_ret
            exact ⟨ret_int (layoutOk_good (lay_b hgt.out) HLT.out HI.out.2).symm, HB.out⟩
end Go.Proofs.Ytpdnabhpkdchjaa.P
namespace Go.Proofs.Ytpdnabhpkdchjaa.P
open Go.RowKit Go.Proofs.YtpdnabhpkdchjaaW.PrintWords Go.Proofs.YtpdnabhpkdchjaaW.PrintLast Go.Proofs.YtpdnabhpkdchjaaW.PrintMore
attribute [local go_sem] max2_int min2_int max_two min_two max_three min_three max_four min_four
set_option linter.unusedVariables false
set_option linter.unusedSimpArgs false
def laws_szCounterS.f (l0:List (S160)) (a1:Int):Option (Int):=if (wrap64 (a1 - (l0.length:Int)))<0 then (some (-1)) else (some (wrap64 (a1 - (l0.length:Int))))
set_option maxHeartbeats 8000000 in
set_option maxRecDepth 100000 in
theorem laws_szCounterS.calls (A0:Option Addr) (c0:Nat) (l0:List (S160)) (a1:Int) (r:Int) (w:World) (hr0:Kd.C k160 w A0 l0.length l0) (hc0:l0.length≤c0) (h:laws_szCounterS.f l0 a1=some r) :
  Calls Try.prog 86 #[.slice A0 l0.length c0,.int .i64 a1] w fun e w'=>e=.returned (.int .i64 r)∧Drawn0 w w':=by
 have HR0:=Aside0.mk hr0
 have HC0:=Aside0.mk hc0
 clear hr0 hc0
 have H:(if (wrap64 (a1 - (l0.length:Int)))<0 then (some (-1)) else (some (wrap64 (a1 - (l0.length:Int)))))=some r:=h
 clear h
 by_cases c3:(wrap64 (a1 - (l0.length:Int)))<0
 ·rw [if_pos c3] at H
  have c3b0:decide ((wrap64 (a1 - (l0.length:Int)))<0)=true:=decide_eq_true c3
  clear c3
  obtain rfl:=Option.some.inj H
  go_enter Try.func86,Try.ntmps86
  go_wp2
  go_ret
  exact ⟨by first|rfl|(simp;done)|(simp [*];done),by repeat (first|exact Drawn0.refl _|apply Drawn0.step)⟩
 rw [if_neg c3] at H
 have c3b0:decide ((wrap64 (a1 - (l0.length:Int)))<0)=false:=decide_eq_false c3
 clear c3
 obtain rfl:=Option.some.inj H
 go_enter Try.func86,Try.ntmps86
 go_wp2
 go_ret
 exact ⟨by first|rfl|(simp;done)|(simp [*];done),by repeat (first|exact Drawn0.refl _|apply Drawn0.step)⟩
end Go.Proofs.Ytpdnabhpkdchjaa.P
namespace Go.Proofs.Ytpdnabhpkdchjaa.P
open Go.RowKit Go.Proofs.YtpdnabhpkdchjaaW.PrintWords Go.Proofs.YtpdnabhpkdchjaaW.PrintLast Go.Proofs.YtpdnabhpkdchjaaW.PrintMore
attribute [local go_sem] max2_int min2_int max_two min_two max_three min_three max_four min_four
set_option linter.unusedVariables false
set_option linter.unusedSimpArgs false
def laws_szLayout.f (a0_0:Int) (l0_1:List (S160)) (a1:Int):Option (Int):=(laws_szCounterS.f l0_1 a1).bind fun t102=>(if t102<0 then (some (-1)) else (some t102))
set_option maxHeartbeats 8000000 in
set_option maxRecDepth 100000 in
theorem laws_szLayout.calls (a0_0:Int) (A0_1:Option Addr) (c0_1:Nat) (l0_1:List (S160)) (a1:Int) (r:Int) (w:World) (hr0_1:Kd.C k160 w A0_1 l0_1.length l0_1) (hc0_1:l0_1.length≤c0_1) (h:laws_szLayout.f a0_0 l0_1 a1=some r) :
  Calls Try.prog 22 #[.agg #[.int .i64 a0_0,.slice A0_1 l0_1.length c0_1],.int .i64 a1] w fun e w'=>e=.returned (.int .i64 r)∧Below w.heap.size w w':=by
 have hu25:=Try.underlying25
 have HR0_1:=Aside0.mk hr0_1
 have HC0_1:=Aside0.mk hc0_1
 clear hr0_1 hc0_1
 have HB:=Aside0.mk (Below.refl w.heap.size w)
 have H:((laws_szCounterS.f l0_1 a1).bind fun t102=>(if t102<0 then (some (-1)) else (some t102)))=some r:=h
 clear h
 replace H:=Option.bind_eq_some_iff.mp H
 obtain ⟨t102,A30,H⟩:=H
 replace H:(if t102<0 then (some (-1)) else (some t102))=some r:=H
 have A3:=Aside0.mk A30
 clear A30
 by_cases c4:t102<0
 ·rw [if_pos c4] at H
  have c4b0:decide (t102<0)=true:=decide_eq_true c4
  clear c4
  obtain rfl:=Option.some.inj H
  go_enter Try.func22,Try.ntmps22
  go_wp2_with (first|((with_reducible refine gate_dst (N:=2) rfl ?_);refine box_event ?hg (N:=2) ?hd (cs:=#[.int .i64 a0_0,.slice A0_1 l0_1.length c0_1]) (t:=25) ?hr ?_;(case hd=>rfl);(case hg=>rfl);(case hr=>first|(go_simp;done)|(go_simp;rfl));intro gb101 hg w5 hbox hb;have n0_:=Aside0.mk (below_step (by repeat (first|(with_reducible first|exact HB.out|apply below_alloc|apply pw_below_drewN|apply below_drew1)|exact HB.out)) hb);have n1_:=Aside0.mk (hbox);have n2_:=Aside0.mk ((by rw [hg];exact (below_size (by repeat (first|(with_reducible first|exact HB.out|apply below_alloc|apply pw_below_drewN|apply below_drew1)|exact HB.out))):w.heap.size≤gb101));have n3_:=Aside0.mk ((by rw [hg];exact (below_size (by repeat (first|(with_reducible first|exact HB.out|apply below_alloc|apply pw_below_drewN|apply below_drew1)|exact HB.out))):w.heap.size≤gb101));clear HB;have HB:=n0_;have BK101:=n1_;have GW101:=n2_;have GE101:=n3_;clear n0_ n1_ n2_ n3_;clear hb hbox hg;have hcz6_0:w5.cell? ⟨gb101,0,none⟩=some (.int .i64 a0_0):=(blk_cell BK101.out 0).trans rfl;have hcz6_1:w5.cell? ⟨gb101,1,none⟩=some (.slice A0_1 l0_1.length c0_1):=(blk_cell BK101.out 1).trans rfl;have hfz6_0:=blk_frozen BK101.out 0;have hfz6_1:=blk_frozen BK101.out 1)|((with_reducible refine gate_callee (f:=86) rfl ?_);refine goesL_ (some 8) rfl rfl Try.func86 (by kernel_rfl) rfl #[.slice A0_1 l0_1.length c0_1,.int .i64 a1] rfl (by (try simp only [List.map_toArray,List.map_cons,List.map_nil]);first|done|rfl|(simp only [List.length_drop,List.length_take];rfl)) ?_;(with_reducible refine (laws_szCounterS.calls _ _ l0_1 a1 t102 _ ?side1 ?side2 A3.out).mono ?_);(case side1=>repeat (first|exact (Kd.C_below HR0_1.out HB.out)|(with_reducible refine Kd.C_alloc ?_ _)|(with_reducible refine Kd.C_drewN ?_ _)|(with_reducible refine Kd.C_drew ?_)));(case side2=>exact HC0_1.out);rintro e w' ⟨rfl,⟨nd,rfl⟩⟩;refine ⟨_,rfl,?_⟩))
  go_ret
  exact ⟨by first|rfl|(simp [errW_none,errW_some] <;> rfl)|(simp [*,errW_none,errW_some] <;> rfl),by repeat (first|(with_reducible first|exact HB.out|apply below_alloc|apply pw_below_drewN|apply below_drew1|refine below_set ?_ GE101.out)|exact HB.out)⟩
 rw [if_neg c4] at H
 have c4b0:decide (t102<0)=false:=decide_eq_false c4
 clear c4
 obtain rfl:=Option.some.inj H
 go_enter Try.func22,Try.ntmps22
 go_wp2_with (first|((with_reducible refine gate_dst (N:=2) rfl ?_);refine box_event ?hg (N:=2) ?hd (cs:=#[.int .i64 a0_0,.slice A0_1 l0_1.length c0_1]) (t:=25) ?hr ?_;(case hd=>rfl);(case hg=>rfl);(case hr=>first|(go_simp;done)|(go_simp;rfl));intro gb101 hg w7 hbox hb;have n0_:=Aside0.mk (below_step (by repeat (first|(with_reducible first|exact HB.out|apply below_alloc|apply pw_below_drewN|apply below_drew1)|exact HB.out)) hb);have n1_:=Aside0.mk (hbox);have n2_:=Aside0.mk ((by rw [hg];exact (below_size (by repeat (first|(with_reducible first|exact HB.out|apply below_alloc|apply pw_below_drewN|apply below_drew1)|exact HB.out))):w.heap.size≤gb101));have n3_:=Aside0.mk ((by rw [hg];exact (below_size (by repeat (first|(with_reducible first|exact HB.out|apply below_alloc|apply pw_below_drewN|apply below_drew1)|exact HB.out))):w.heap.size≤gb101));clear HB;have HB:=n0_;have BK101:=n1_;have GW101:=n2_;have GE101:=n3_;clear n0_ n1_ n2_ n3_;clear hb hbox hg;have hcz8_0:w7.cell? ⟨gb101,0,none⟩=some (.int .i64 a0_0):=(blk_cell BK101.out 0).trans rfl;have hcz8_1:w7.cell? ⟨gb101,1,none⟩=some (.slice A0_1 l0_1.length c0_1):=(blk_cell BK101.out 1).trans rfl;have hfz8_0:=blk_frozen BK101.out 0;have hfz8_1:=blk_frozen BK101.out 1)|((with_reducible refine gate_callee (f:=86) rfl ?_);refine goesL_ (some 8) rfl rfl Try.func86 (by kernel_rfl) rfl #[.slice A0_1 l0_1.length c0_1,.int .i64 a1] rfl (by (try simp only [List.map_toArray,List.map_cons,List.map_nil]);first|done|rfl|(simp only [List.length_drop,List.length_take];rfl)) ?_;(with_reducible refine (laws_szCounterS.calls _ _ l0_1 a1 t102 _ ?side1 ?side2 A3.out).mono ?_);(case side1=>repeat (first|exact (Kd.C_below HR0_1.out HB.out)|(with_reducible refine Kd.C_alloc ?_ _)|(with_reducible refine Kd.C_drewN ?_ _)|(with_reducible refine Kd.C_drew ?_)));(case side2=>exact HC0_1.out);rintro e w' ⟨rfl,⟨nd,rfl⟩⟩;refine ⟨_,rfl,?_⟩))
 go_ret
 exact ⟨by first|rfl|(simp [errW_none,errW_some] <;> rfl)|(simp [*,errW_none,errW_some] <;> rfl),by repeat (first|(with_reducible first|exact HB.out|apply below_alloc|apply pw_below_drewN|apply below_drew1|refine below_set ?_ GE101.out)|exact HB.out)⟩
end Go.Proofs.Ytpdnabhpkdchjaa.P
namespace Go.Proofs.Ytpdnabhpkdchjaa.P
open Go.RowKit Go.Proofs.YtpdnabhpkdchjaaW.PrintWords Go.Proofs.YtpdnabhpkdchjaaW.PrintLast Go.Proofs.YtpdnabhpkdchjaaW.PrintMore
attribute [local go_sem] max2_int min2_int max_two min_two max_three min_three max_four min_four
set_option linter.unusedVariables false
set_option linter.unusedSimpArgs false
def spec_l1in.f (a0:Int) (a1:Int) (a2:Int):Option (Bool):=if a0 ≥ a1 then (some (decide (a0≤a2))) else (some false)
set_option maxHeartbeats 8000000 in
set_option maxRecDepth 100000 in
theorem spec_l1in.calls (a0:Int) (a1:Int) (a2:Int) (r:Bool) (w:World) (h:spec_l1in.f a0 a1 a2=some r) :
  Calls Try.prog 87 #[.int .i64 a0,.int .i64 a1,.int .i64 a2] w fun e w'=>e=.returned (.bool r)∧Drawn0 w w':=by
 have H:(if a0 ≥ a1 then (some (decide (a0≤a2))) else (some false))=some r:=h
 clear h
 by_cases c4:a0 ≥ a1
 ·rw [if_pos c4] at H
  have c4b0:decide (a1≤a0)=true:=decide_eq_true c4
  clear c4
  obtain rfl:=Option.some.inj H
  go_enter Try.func87,Try.ntmps87
  go_wp2
  go_ret
  exact ⟨by first|rfl|(simp;done)|(simp [*];done),by repeat (first|exact Drawn0.refl _|apply Drawn0.step)⟩
 rw [if_neg c4] at H
 have c4b0:decide (a1≤a0)=false:=decide_eq_false c4
 clear c4
 obtain rfl:=Option.some.inj H
 go_enter Try.func87,Try.ntmps87
 go_wp2
 go_ret
 exact ⟨by first|rfl|(simp;done)|(simp [*];done),by repeat (first|exact Drawn0.refl _|apply Drawn0.step)⟩
end Go.Proofs.Ytpdnabhpkdchjaa.P
namespace Go.Proofs.Ytpdnabhpkdchjaa.P
open Go.RowKit Go.Proofs.YtpdnabhpkdchjaaW.PrintWords Go.Proofs.YtpdnabhpkdchjaaW.PrintLast Go.Proofs.YtpdnabhpkdchjaaW.PrintMore
attribute [local go_sem] max2_int min2_int max_two min_two max_three min_three max_four min_four
set_option linter.unusedVariables false
set_option linter.unusedSimpArgs false
mutual
def spec_LayoutOk.j0:Nat→Bool→Int→List (S88)→Option (Int)
 | 0,_,_,_=>none
 | k+1,x14,x104000,x104001=>if x14=true then (some 1) else (spec_LayoutOk.l0 k x104001 (x104001.length:Int) 0 x104000 x104001)
def spec_LayoutOk.l0:Nat→List (S88)→Int→Int→Int→List (S88)→Option (Int)
 | 0,_,_,_,_,_=>none
 | k+1,x16,x17,x18,x104000,x104001=>if x18<x17 then (if 0≤x18 then (if x18<(x16.length:Int) then ((spec_l1in.f ((rd_T88 x16 x18).f0) (-1) (wrap64 (x104000 - 1))).bind fun t107=>(if t107=true then ((spec_l1in.f ((rd_T88 x16 x18).f1) (-1) (wrap64 (x104000 - 1))).bind fun t108=>(if t108=true then (if ((rd_T88 x16 x18).f0)=((rd_T88 x16 x18).f1) then (some 2) else (spec_LayoutOk.l0 k x16 x17 (wrap64 (x18+1)) x104000 x104001)) else (some 2))) else (some 2))) else (none)) else (none)) else (some 0)
end
def spec_LayoutOk.f (k:Nat) (a0_0:Int) (l0_1:List (S88)):Option (Int):=(spec_l1in.f a0_0 1 60).bind fun t104=>(if t104=true then (spec_LayoutOk.j0 k (decide ((l0_1.length:Int) > 120)) a0_0 l0_1) else (spec_LayoutOk.j0 k true a0_0 l0_1))
set_option maxHeartbeats 8000000 in
set_option maxRecDepth 100000 in
theorem spec_LayoutOk.calls (k:Nat) (a0_0:Int) (A0_1:Option Addr) (c0_1:Nat) (l0_1:List (S88)) (r:Int) (w:World) (hr0_1:Kd.C k88 w A0_1 l0_1.length l0_1) (hc0_1:l0_1.length≤c0_1) (h:spec_LayoutOk.f k a0_0 l0_1=some r) :
  Calls Try.prog 23 #[.agg #[.int .i64 a0_0,.slice A0_1 l0_1.length c0_1]] w fun e w'=>e=.returned (.int .i64 r)∧Below w.heap.size w w':=by
 have hu30:=Try.underlying30
 have hu88:=Try.underlying88
 have HR0_1:=Aside0.mk hr0_1
 have HC0_1:=Aside0.mk hc0_1
 clear hr0_1 hc0_1
 have HB:=Aside0.mk (Below.refl w.heap.size w)
 have H:((spec_l1in.f a0_0 1 60).bind fun t104=>(if t104=true then (spec_LayoutOk.j0 k (decide ((l0_1.length:Int) > 120)) a0_0 l0_1) else (spec_LayoutOk.j0 k true a0_0 l0_1)))=some r:=h
 clear h
 have HC2:=Aside0.mk H
 clear H
 go_enter Try.func23,Try.ntmps23
 go_upto_region 1 with (first|((with_reducible refine gate_dst (N:=1) rfl ?_);refine box_event ?hg (N:=1) ?hd (cs:=#[.int .i64 a0_0,.slice A0_1 l0_1.length c0_1]) (t:=30) ?hr ?_;(case hd=>rfl);(case hg=>rfl);(case hr=>first|(go_simp;done)|(go_simp;rfl));intro gb103 hg w3 hbox hb;have n0_:=Aside0.mk (below_step (by exact HB.out) hb);have n1_:=Aside0.mk (hbox);have n2_:=Aside0.mk ((by rw [hg];exact (below_size (by exact HB.out)):w.heap.size≤gb103));have n3_:=Aside0.mk ((by rw [hg];exact (below_size (by exact HB.out)):w.heap.size≤gb103));clear HB;have HB:=n0_;have BK103:=n1_;have GW103:=n2_;have GE103:=n3_;clear n0_ n1_ n2_ n3_;clear hb hbox hg))
 (try simp only [Act.put,List.setIfInBounds_toArray,List.set_cons_zero,List.set_cons_succ])
 go_cut [14] (fun v14 wc=>∃ (kq:Nat) (x14_1:Bool),v14=.bool x14_1∧Aside0 (spec_LayoutOk.j0 kq x14_1 a0_0 l0_1=some r)∧Aside0 (kq≤k)∧Aside0 (wc.heap[gb103]?=some (.cells #[.int .i64 a0_0,(.slice A0_1 l0_1.length c0_1)] 30 (0,0)))∧Aside0 (Below w.heap.size w wc))
 case first =>
  have H:=HC2.out
  clear HC2
  replace H:=Option.bind_eq_some_iff.mp H
  obtain ⟨t104,A40,H⟩:=H
  replace H:(if t104=true then (spec_LayoutOk.j0 k (decide ((l0_1.length:Int) > 120)) a0_0 l0_1) else (spec_LayoutOk.j0 k true a0_0 l0_1))=some r:=H
  have A4:=Aside0.mk A40
  clear A40
  by_cases c5:t104=true
  ·subst c5
   have H1:(spec_LayoutOk.j0 k (decide ((l0_1.length:Int) > 120)) a0_0 l0_1)=some r:=by rw [if_pos rfl] at H;exact H
   clear H
   have H:=H1
   clear H1
   have H':=Aside0.mk H
   clear H
   have hcz6_0:w3.cell? ⟨gb103,0,none⟩=some (.int .i64 a0_0):=(blk_cell BK103.out 0).trans rfl
   have hcz6_1:w3.cell? ⟨gb103,1,none⟩=some (.slice A0_1 l0_1.length c0_1):=(blk_cell BK103.out 1).trans rfl
   have hfz6_0:=blk_frozen BK103.out 0
   have hfz6_1:=blk_frozen BK103.out 1
   go_wp2_with (first|((with_reducible refine gate_callee (f:=87) rfl ?_);refine goesL_ (some 7) rfl rfl Try.func87 (by kernel_rfl) rfl #[.int .i64 a0_0,.int .i64 1,.int .i64 60] rfl (by (try simp only [List.map_toArray,List.map_cons,List.map_nil]);first|done|rfl|(simp only [List.length_drop,List.length_take];rfl)) ?_;(with_reducible refine (spec_l1in.calls a0_0 1 60 true _ A4.out).mono ?_);rintro e w' ⟨rfl,⟨nd,rfl⟩⟩;refine ⟨_,rfl,?_⟩))
   go_meet
   case rel=>exact ⟨_,(decide ((l0_1.length:Int) > 120)),(by first|rfl|(simp;done)|(simp [*];done)),H',⟨by first|omega|exact Nat.le_refl _⟩,⟨by exact BK103.out⟩,⟨by repeat (first|(with_reducible first|exact HB.out|apply below_alloc|apply pw_below_drewN|apply below_drew1|refine below_set ?_ GE103.out)|exact HB.out)⟩⟩
  replace c5:=Bool.eq_false_iff.mpr c5
  subst c5
  have H1:(spec_LayoutOk.j0 k true a0_0 l0_1)=some r:=by rw [if_neg (show ¬ (false=true) by decide)] at H;exact H
  clear H
  have H:=H1
  clear H1
  have H':=Aside0.mk H
  clear H
  have hcz7_0:w3.cell? ⟨gb103,0,none⟩=some (.int .i64 a0_0):=(blk_cell BK103.out 0).trans rfl
  have hcz7_1:w3.cell? ⟨gb103,1,none⟩=some (.slice A0_1 l0_1.length c0_1):=(blk_cell BK103.out 1).trans rfl
  have hfz7_0:=blk_frozen BK103.out 0
  have hfz7_1:=blk_frozen BK103.out 1
  go_wp2_with (first|((with_reducible refine gate_callee (f:=87) rfl ?_);refine goesL_ (some 7) rfl rfl Try.func87 (by kernel_rfl) rfl #[.int .i64 a0_0,.int .i64 1,.int .i64 60] rfl (by (try simp only [List.map_toArray,List.map_cons,List.map_nil]);first|done|rfl|(simp only [List.length_drop,List.length_take];rfl)) ?_;(with_reducible refine (spec_l1in.calls a0_0 1 60 false _ A4.out).mono ?_);rintro e w' ⟨rfl,⟨nd,rfl⟩⟩;refine ⟨_,rfl,?_⟩))
  go_meet
  case rel=>exact ⟨_,(true),(by first|rfl|(simp;done)|(simp [*];done)),H',⟨by first|omega|exact Nat.le_refl _⟩,⟨by exact BK103.out⟩,⟨by repeat (first|(with_reducible first|exact HB.out|apply below_alloc|apply pw_below_drewN|apply below_drew1|refine below_set ?_ GE103.out)|exact HB.out)⟩⟩
 case rest =>
  clear HC2
  try clear c2
  try clear p2
  try clear c5
  try clear hcz6_0
  try clear hcz6_1
  try clear hcz7_0
  try clear hcz7_1
  try clear hfz6_0
  try clear hfz6_1
  try clear hfz7_0
  try clear hfz7_1
  obtain ⟨kq,x14_1,rfl,HA,HJ1,BK103,HB⟩:=hcut
  cases kq with
  | zero=>exact absurd HA.out (by simp [spec_LayoutOk.j0])
  | succ kj1 =>
   have H:=HA.out
   clear HA
   simp only [spec_LayoutOk.j0] at H
   by_cases c8:x14_1=true
   ·subst c8
    have H1:(some 1)=some r:=by rw [if_pos rfl] at H;exact H
    clear H
    have H:=H1
    clear H1
    obtain rfl:=Option.some.inj H
    go_wp2
    go_ret
    exact ⟨by first|rfl|(simp [errW_none,errW_some] <;> rfl)|(simp [*,errW_none,errW_some] <;> rfl),by exact HB.out⟩
   replace c8:=Bool.eq_false_iff.mpr c8
   subst c8
   have H1:(spec_LayoutOk.l0 kj1 l0_1 (l0_1.length:Int) 0 a0_0 l0_1)=some r:=by rw [if_neg (show ¬ (false=true) by decide)] at H;exact H
   clear H
   have H:=H1
   clear H1
   have H':=Aside0.mk H
   clear H
   have hcz9_0:wc.cell? ⟨gb103,0,none⟩=some (.int .i64 a0_0):=(blk_cell BK103.out 0).trans rfl
   have hcz9_1:wc.cell? ⟨gb103,1,none⟩=some (.slice A0_1 l0_1.length c0_1):=(blk_cell BK103.out 1).trans rfl
   have hfz9_0:=blk_frozen BK103.out 0
   have hfz9_1:=blk_frozen BK103.out 1
   go_wp2
   go_loopg [18] kj1 (fun kq v18 w'=>∃ (x18_2:Int),v18=.int .i64 x18_2∧Aside0 (spec_LayoutOk.l0 kq l0_1 (l0_1.length:Int) x18_2 a0_0 l0_1=some r)∧Aside0 (kq≤kj1)∧Aside0 (w'.heap[gb103]?=some (.cells #[.int .i64 a0_0,(.slice A0_1 l0_1.length c0_1)] 30 (0,0)))∧Aside0 (Below w.heap.size w w'))
   case atStart=>exact ⟨(0),(by first|rfl|(simp;done)|(simp [*];done)),H',⟨Nat.le_refl _⟩,⟨by exact BK103.out⟩,⟨by exact HB.out⟩⟩
   case round =>
    clear H'
    try clear c2
    try clear p2
    try clear c5
    try clear c8
    try clear hcz6_0
    try clear hcz6_1
    try clear hcz7_0
    try clear hcz7_1
    try clear hcz9_0
    try clear hcz9_1
    try clear hfz6_0
    try clear hfz6_1
    try clear hfz7_0
    try clear hfz7_1
    try clear hfz9_0
    try clear hfz9_1
    try clear p2
    obtain ⟨x18_2,rfl,HA,HK2,BK103,HB⟩:=hrel
    cases gk with
    | zero=>exact absurd HA.out (by simp [spec_LayoutOk.l0])
    | succ k2 =>
     have H:=HA.out
     clear HA
     simp only [spec_LayoutOk.l0] at H
     by_cases c10:x18_2<(l0_1.length:Int)
     ·rw [if_pos c10] at H
      have c10b0:decide (x18_2<(l0_1.length:Int))=true:=decide_eq_true c10
      clear c10
      by_cases c11:0≤x18_2
      ·rw [if_pos c11] at H
       have c11b0:decide (0≤x18_2)=true:=decide_eq_true c11
       clear c11
       by_cases c12:x18_2<(l0_1.length:Int)
       ·rw [if_pos c12] at H
        have c12b0:decide (x18_2<(l0_1.length:Int))=true:=decide_eq_true c12
        clear c12
        replace H:=Option.bind_eq_some_iff.mp H
        obtain ⟨t107,A130,H⟩:=H
        replace H:(if t107=true then ((spec_l1in.f ((rd_T88 l0_1 x18_2).f1) (-1) (wrap64 (a0_0 - 1))).bind fun t108=>(if t108=true then (if ((rd_T88 l0_1 x18_2).f0)=((rd_T88 l0_1 x18_2).f1) then (some 2) else (spec_LayoutOk.l0 k2 l0_1 (l0_1.length:Int) (wrap64 (x18_2+1)) a0_0 l0_1)) else (some 2))) else (some 2))=some r:=H
        have A13:=Aside0.mk A130
        clear A130
        by_cases c14:t107=true
        ·subst c14
         have H1:((spec_l1in.f ((rd_T88 l0_1 x18_2).f1) (-1) (wrap64 (a0_0 - 1))).bind fun t108=>(if t108=true then (if ((rd_T88 l0_1 x18_2).f0)=((rd_T88 l0_1 x18_2).f1) then (some 2) else (spec_LayoutOk.l0 k2 l0_1 (l0_1.length:Int) (wrap64 (x18_2+1)) a0_0 l0_1)) else (some 2)))=some r:=by rw [if_pos rfl] at H;exact H
         clear H
         have H:=H1
         clear H1
         replace H:=Option.bind_eq_some_iff.mp H
         obtain ⟨t108,A150,H⟩:=H
         replace H:(if t108=true then (if ((rd_T88 l0_1 x18_2).f0)=((rd_T88 l0_1 x18_2).f1) then (some 2) else (spec_LayoutOk.l0 k2 l0_1 (l0_1.length:Int) (wrap64 (x18_2+1)) a0_0 l0_1)) else (some 2))=some r:=H
         have A15:=Aside0.mk A150
         clear A150
         by_cases c16:t108=true
         ·subst c16
          have H1:(if ((rd_T88 l0_1 x18_2).f0)=((rd_T88 l0_1 x18_2).f1) then (some 2) else (spec_LayoutOk.l0 k2 l0_1 (l0_1.length:Int) (wrap64 (x18_2+1)) a0_0 l0_1))=some r:=by rw [if_pos rfl] at H;exact H
          clear H
          have H:=H1
          clear H1
          by_cases c17:((rd_T88 l0_1 x18_2).f0)=((rd_T88 l0_1 x18_2).f1)
          ·rw [if_pos c17] at H
           have c17b0:(((rd_T88 l0_1 x18_2).f0)==((rd_T88 l0_1 x18_2).f1))=true:=beq_iff_eq.mpr c17
           have c17b1:(((rd_T88 l0_1 x18_2).f0) != ((rd_T88 l0_1 x18_2).f1))=false:=bne_eq_false_iff_eq.mpr c17
           clear c17
           obtain rfl:=Option.some.inj H
           have p105:0≤(x18_2:Int):=of_decide_eq_true (by first|(with_reducible assumption)|assumption)
           have q105:x18_2<(l0_1.length:Int):=of_decide_eq_true (by first|(with_reducible assumption)|assumption)
           obtain ⟨ad105,e105,hx105_0,hx105_1⟩:=at_T88 HR0_1.out x18_2 p105 q105
           cases e105
           replace hx105_0:=(HB.out.cell (World.block_lt_of_cell? w _ hx105_0)).trans hx105_0
           replace hx105_1:=(HB.out.cell (World.block_lt_of_cell? w _ hx105_1)).trans hx105_1
           replace p105:=eq_true p105
           replace q105:=eq_true q105
           go_wp2_with (first|((with_reducible refine gate_dst (N:=4) rfl ?_);refine box_event ?hg (N:=4) ?hd (cs:=#[.int .i64 0,.int .i64 0]) (t:=88) ?hr ?_;(case hd=>rfl);(case hg=>rfl);(case hr=>first|(go_simp;done)|(go_simp;rfl));intro gb106 hg w18 hbox hb;have n0_:=Aside0.mk (blk_below (g:=gb103) (o:=.cells #[.int .i64 a0_0,.slice (some ad105) l0_1.length c0_1] 30 (0,0)) (by exact BK103.out) hb);have n1_:=Aside0.mk (below_step (by exact HB.out) hb);have n2_:=Aside0.mk (hbox);have n3_:=Aside0.mk ((by rw [hg];exact (below_size (by exact HB.out)):w.heap.size≤gb106));have n4_:=Aside0.mk ((by rw [hg];exact (below_size (by exact HB.out)):w.heap.size≤gb106));have n5_:=Aside0.mk ((by rw [hg];exact Nat.ne_of_lt (blk_lt (g:=gb103) (o:=.cells #[.int .i64 a0_0,.slice (some ad105) l0_1.length c0_1] 30 (0,0)) (by exact BK103.out)):gb103 ≠ gb106));have n6_:=Aside0.mk ((by rw [hg];exact Nat.ne_of_gt (blk_lt (g:=gb103) (o:=.cells #[.int .i64 a0_0,.slice (some ad105) l0_1.length c0_1] 30 (0,0)) (by exact BK103.out)):gb106 ≠ gb103));clear BK103;clear HB;have BK103:=n0_;have HB:=n1_;have BK106:=n2_;have GW106:=n3_;have GE106:=n4_;have NB103_106:=n5_;have NB106_103:=n6_;clear n0_ n1_ n2_ n3_ n4_ n5_ n6_;clear hb hbox hg;have hnb19:=NB106_103.out;have hnc19:=NB103_106.out;have hcz20_0:w18.cell? ⟨gb106,0,none⟩=some (.int .i64 0):=(blk_cell BK106.out 0).trans rfl;have hcz20_1:w18.cell? ⟨gb106,1,none⟩=some (.int .i64 0):=(blk_cell BK106.out 1).trans rfl;have hfz20_0:=blk_frozen BK106.out 0;have hfz20_1:=blk_frozen BK106.out 1;have hcz21_0:w18.cell? ⟨gb103,0,none⟩=some (.int .i64 a0_0):=(blk_cell BK103.out 0).trans rfl;have hcz21_1:w18.cell? ⟨gb103,1,none⟩=some (.slice (some ad105) l0_1.length c0_1):=(blk_cell BK103.out 1).trans rfl;have hfz21_0:=blk_frozen BK103.out 0;have hfz21_1:=blk_frozen BK103.out 1)|((with_reducible refine gate_callee (f:=87) rfl ?_);refine goesL_ (some 27) rfl rfl Try.func87 (by kernel_rfl) rfl #[.int .i64 ((rd_T88 l0_1 x18_2).f0),.int .i64 (-1),.int .i64 (wrap64 (a0_0 - 1))] rfl (by (try simp only [List.map_toArray,List.map_cons,List.map_nil]);first|done|rfl|(simp only [List.length_drop,List.length_take];rfl)) ?_;(with_reducible refine (spec_l1in.calls ((rd_T88 l0_1 x18_2).f0) (-1) (wrap64 (a0_0 - 1)) true _ A13.out).mono ?_);rintro e w' ⟨rfl,⟨nd,rfl⟩⟩;refine ⟨_,rfl,?_⟩)|(go_at_call 87;(with_reducible refine (spec_l1in.calls ((rd_T88 l0_1 x18_2).f1) (-1) (wrap64 (a0_0 - 1)) true _ A15.out).mono ?_);rintro e w' ⟨rfl,⟨nd,rfl⟩⟩))
           go_ret
           exact ⟨by first|rfl|(simp [errW_none,errW_some] <;> rfl)|(simp [*,errW_none,errW_some] <;> rfl),by repeat (first|(with_reducible first|exact HB.out|apply below_alloc|apply pw_below_drewN|apply below_drew1|refine below_set ?_ GE103.out|refine below_set ?_ GE106.out)|exact HB.out)⟩
          rw [if_neg c17] at H
          have c17b0:(((rd_T88 l0_1 x18_2).f0)==((rd_T88 l0_1 x18_2).f1))=false:=beq_eq_false_iff_ne.mpr c17
          have c17b1:(((rd_T88 l0_1 x18_2).f0) != ((rd_T88 l0_1 x18_2).f1))=true:=bne_iff_ne.mpr c17
          have H':=Aside0.mk H
          clear H
          have p105:0≤(x18_2:Int):=of_decide_eq_true (by first|(with_reducible assumption)|assumption)
          have q105:x18_2<(l0_1.length:Int):=of_decide_eq_true (by first|(with_reducible assumption)|assumption)
          obtain ⟨ad105,e105,hx105_0,hx105_1⟩:=at_T88 HR0_1.out x18_2 p105 q105
          cases e105
          replace hx105_0:=(HB.out.cell (World.block_lt_of_cell? w _ hx105_0)).trans hx105_0
          replace hx105_1:=(HB.out.cell (World.block_lt_of_cell? w _ hx105_1)).trans hx105_1
          replace p105:=eq_true p105
          replace q105:=eq_true q105
          go_wp2_with (first|((with_reducible refine gate_dst (N:=4) rfl ?_);refine box_event ?hg (N:=4) ?hd (cs:=#[.int .i64 0,.int .i64 0]) (t:=88) ?hr ?_;(case hd=>rfl);(case hg=>rfl);(case hr=>first|(go_simp;done)|(go_simp;rfl));intro gb106 hg w22 hbox hb;have n0_:=Aside0.mk (blk_below (g:=gb103) (o:=.cells #[.int .i64 a0_0,.slice (some ad105) l0_1.length c0_1] 30 (0,0)) (by exact BK103.out) hb);have n1_:=Aside0.mk (below_step (by exact HB.out) hb);have n2_:=Aside0.mk (hbox);have n3_:=Aside0.mk ((by rw [hg];exact (below_size (by exact HB.out)):w.heap.size≤gb106));have n4_:=Aside0.mk ((by rw [hg];exact (below_size (by exact HB.out)):w.heap.size≤gb106));have n5_:=Aside0.mk ((by rw [hg];exact Nat.ne_of_lt (blk_lt (g:=gb103) (o:=.cells #[.int .i64 a0_0,.slice (some ad105) l0_1.length c0_1] 30 (0,0)) (by exact BK103.out)):gb103 ≠ gb106));have n6_:=Aside0.mk ((by rw [hg];exact Nat.ne_of_gt (blk_lt (g:=gb103) (o:=.cells #[.int .i64 a0_0,.slice (some ad105) l0_1.length c0_1] 30 (0,0)) (by exact BK103.out)):gb106 ≠ gb103));clear BK103;clear HB;have BK103:=n0_;have HB:=n1_;have BK106:=n2_;have GW106:=n3_;have GE106:=n4_;have NB103_106:=n5_;have NB106_103:=n6_;clear n0_ n1_ n2_ n3_ n4_ n5_ n6_;clear hb hbox hg;have hnb23:=NB106_103.out;have hnc23:=NB103_106.out;have hcz24_0:w22.cell? ⟨gb106,0,none⟩=some (.int .i64 0):=(blk_cell BK106.out 0).trans rfl;have hcz24_1:w22.cell? ⟨gb106,1,none⟩=some (.int .i64 0):=(blk_cell BK106.out 1).trans rfl;have hfz24_0:=blk_frozen BK106.out 0;have hfz24_1:=blk_frozen BK106.out 1;have hcz25_0:w22.cell? ⟨gb103,0,none⟩=some (.int .i64 a0_0):=(blk_cell BK103.out 0).trans rfl;have hcz25_1:w22.cell? ⟨gb103,1,none⟩=some (.slice (some ad105) l0_1.length c0_1):=(blk_cell BK103.out 1).trans rfl;have hfz25_0:=blk_frozen BK103.out 0;have hfz25_1:=blk_frozen BK103.out 1)|((with_reducible refine gate_callee (f:=87) rfl ?_);refine goesL_ (some 27) rfl rfl Try.func87 (by kernel_rfl) rfl #[.int .i64 ((rd_T88 l0_1 x18_2).f0),.int .i64 (-1),.int .i64 (wrap64 (a0_0 - 1))] rfl (by (try simp only [List.map_toArray,List.map_cons,List.map_nil]);first|done|rfl|(simp only [List.length_drop,List.length_take];rfl)) ?_;(with_reducible refine (spec_l1in.calls ((rd_T88 l0_1 x18_2).f0) (-1) (wrap64 (a0_0 - 1)) true _ A13.out).mono ?_);rintro e w' ⟨rfl,⟨nd,rfl⟩⟩;refine ⟨_,rfl,?_⟩)|(go_at_call 87;(with_reducible refine (spec_l1in.calls ((rd_T88 l0_1 x18_2).f1) (-1) (wrap64 (a0_0 - 1)) true _ A15.out).mono ?_);rintro e w' ⟨rfl,⟨nd,rfl⟩⟩))
          go_roundg k2
          case measure=>have:=HJ1.out;have:=HK2.out;omega
          case rel=>exact ⟨(wrap64 (x18_2+1)),(by first|rfl|(simp;done)|(simp [*];done)),H',⟨by have:=HJ1.out;have:=HK2.out;omega⟩,⟨by refine blk_far ?_ NB103_106.out _;refine blk_far ?_ NB103_106.out _;exact BK103.out⟩,⟨by repeat (first|(with_reducible first|exact HB.out|apply below_alloc|apply pw_below_drewN|apply below_drew1|refine below_set ?_ GE103.out|refine below_set ?_ GE106.out)|exact HB.out)⟩⟩
         replace c16:=Bool.eq_false_iff.mpr c16
         subst c16
         have H1:(some 2)=some r:=by rw [if_neg (show ¬ (false=true) by decide)] at H;exact H
         clear H
         have H:=H1
         clear H1
         obtain rfl:=Option.some.inj H
         have p105:0≤(x18_2:Int):=of_decide_eq_true (by first|(with_reducible assumption)|assumption)
         have q105:x18_2<(l0_1.length:Int):=of_decide_eq_true (by first|(with_reducible assumption)|assumption)
         obtain ⟨ad105,e105,hx105_0,hx105_1⟩:=at_T88 HR0_1.out x18_2 p105 q105
         cases e105
         replace hx105_0:=(HB.out.cell (World.block_lt_of_cell? w _ hx105_0)).trans hx105_0
         replace hx105_1:=(HB.out.cell (World.block_lt_of_cell? w _ hx105_1)).trans hx105_1
         replace p105:=eq_true p105
         replace q105:=eq_true q105
         go_wp2_with (first|((with_reducible refine gate_dst (N:=4) rfl ?_);refine box_event ?hg (N:=4) ?hd (cs:=#[.int .i64 0,.int .i64 0]) (t:=88) ?hr ?_;(case hd=>rfl);(case hg=>rfl);(case hr=>first|(go_simp;done)|(go_simp;rfl));intro gb106 hg w26 hbox hb;have n0_:=Aside0.mk (blk_below (g:=gb103) (o:=.cells #[.int .i64 a0_0,.slice (some ad105) l0_1.length c0_1] 30 (0,0)) (by exact BK103.out) hb);have n1_:=Aside0.mk (below_step (by exact HB.out) hb);have n2_:=Aside0.mk (hbox);have n3_:=Aside0.mk ((by rw [hg];exact (below_size (by exact HB.out)):w.heap.size≤gb106));have n4_:=Aside0.mk ((by rw [hg];exact (below_size (by exact HB.out)):w.heap.size≤gb106));have n5_:=Aside0.mk ((by rw [hg];exact Nat.ne_of_lt (blk_lt (g:=gb103) (o:=.cells #[.int .i64 a0_0,.slice (some ad105) l0_1.length c0_1] 30 (0,0)) (by exact BK103.out)):gb103 ≠ gb106));have n6_:=Aside0.mk ((by rw [hg];exact Nat.ne_of_gt (blk_lt (g:=gb103) (o:=.cells #[.int .i64 a0_0,.slice (some ad105) l0_1.length c0_1] 30 (0,0)) (by exact BK103.out)):gb106 ≠ gb103));clear BK103;clear HB;have BK103:=n0_;have HB:=n1_;have BK106:=n2_;have GW106:=n3_;have GE106:=n4_;have NB103_106:=n5_;have NB106_103:=n6_;clear n0_ n1_ n2_ n3_ n4_ n5_ n6_;clear hb hbox hg;have hnb27:=NB106_103.out;have hnc27:=NB103_106.out;have hcz28_0:w26.cell? ⟨gb106,0,none⟩=some (.int .i64 0):=(blk_cell BK106.out 0).trans rfl;have hcz28_1:w26.cell? ⟨gb106,1,none⟩=some (.int .i64 0):=(blk_cell BK106.out 1).trans rfl;have hfz28_0:=blk_frozen BK106.out 0;have hfz28_1:=blk_frozen BK106.out 1;have hcz29_0:w26.cell? ⟨gb103,0,none⟩=some (.int .i64 a0_0):=(blk_cell BK103.out 0).trans rfl;have hcz29_1:w26.cell? ⟨gb103,1,none⟩=some (.slice (some ad105) l0_1.length c0_1):=(blk_cell BK103.out 1).trans rfl;have hfz29_0:=blk_frozen BK103.out 0;have hfz29_1:=blk_frozen BK103.out 1)|((with_reducible refine gate_callee (f:=87) rfl ?_);refine goesL_ (some 27) rfl rfl Try.func87 (by kernel_rfl) rfl #[.int .i64 ((rd_T88 l0_1 x18_2).f0),.int .i64 (-1),.int .i64 (wrap64 (a0_0 - 1))] rfl (by (try simp only [List.map_toArray,List.map_cons,List.map_nil]);first|done|rfl|(simp only [List.length_drop,List.length_take];rfl)) ?_;(with_reducible refine (spec_l1in.calls ((rd_T88 l0_1 x18_2).f0) (-1) (wrap64 (a0_0 - 1)) true _ A13.out).mono ?_);rintro e w' ⟨rfl,⟨nd,rfl⟩⟩;refine ⟨_,rfl,?_⟩)|(go_at_call 87;(with_reducible refine (spec_l1in.calls ((rd_T88 l0_1 x18_2).f1) (-1) (wrap64 (a0_0 - 1)) false _ A15.out).mono ?_);rintro e w' ⟨rfl,⟨nd,rfl⟩⟩))
         go_ret
         exact ⟨by first|rfl|(simp [errW_none,errW_some] <;> rfl)|(simp [*,errW_none,errW_some] <;> rfl),by repeat (first|(with_reducible first|exact HB.out|apply below_alloc|apply pw_below_drewN|apply below_drew1|refine below_set ?_ GE103.out|refine below_set ?_ GE106.out)|exact HB.out)⟩
        replace c14:=Bool.eq_false_iff.mpr c14
        subst c14
        have H1:(some 2)=some r:=by rw [if_neg (show ¬ (false=true) by decide)] at H;exact H
        clear H
        have H:=H1
        clear H1
        obtain rfl:=Option.some.inj H
        have p105:0≤(x18_2:Int):=of_decide_eq_true (by first|(with_reducible assumption)|assumption)
        have q105:x18_2<(l0_1.length:Int):=of_decide_eq_true (by first|(with_reducible assumption)|assumption)
        obtain ⟨ad105,e105,hx105_0,hx105_1⟩:=at_T88 HR0_1.out x18_2 p105 q105
        cases e105
        replace hx105_0:=(HB.out.cell (World.block_lt_of_cell? w _ hx105_0)).trans hx105_0
        replace hx105_1:=(HB.out.cell (World.block_lt_of_cell? w _ hx105_1)).trans hx105_1
        replace p105:=eq_true p105
        replace q105:=eq_true q105
        go_wp2_with (first|((with_reducible refine gate_dst (N:=4) rfl ?_);refine box_event ?hg (N:=4) ?hd (cs:=#[.int .i64 0,.int .i64 0]) (t:=88) ?hr ?_;(case hd=>rfl);(case hg=>rfl);(case hr=>first|(go_simp;done)|(go_simp;rfl));intro gb106 hg w30 hbox hb;have n0_:=Aside0.mk (blk_below (g:=gb103) (o:=.cells #[.int .i64 a0_0,.slice (some ad105) l0_1.length c0_1] 30 (0,0)) (by exact BK103.out) hb);have n1_:=Aside0.mk (below_step (by exact HB.out) hb);have n2_:=Aside0.mk (hbox);have n3_:=Aside0.mk ((by rw [hg];exact (below_size (by exact HB.out)):w.heap.size≤gb106));have n4_:=Aside0.mk ((by rw [hg];exact (below_size (by exact HB.out)):w.heap.size≤gb106));have n5_:=Aside0.mk ((by rw [hg];exact Nat.ne_of_lt (blk_lt (g:=gb103) (o:=.cells #[.int .i64 a0_0,.slice (some ad105) l0_1.length c0_1] 30 (0,0)) (by exact BK103.out)):gb103 ≠ gb106));have n6_:=Aside0.mk ((by rw [hg];exact Nat.ne_of_gt (blk_lt (g:=gb103) (o:=.cells #[.int .i64 a0_0,.slice (some ad105) l0_1.length c0_1] 30 (0,0)) (by exact BK103.out)):gb106 ≠ gb103));clear BK103;clear HB;have BK103:=n0_;have HB:=n1_;have BK106:=n2_;have GW106:=n3_;have GE106:=n4_;have NB103_106:=n5_;have NB106_103:=n6_;clear n0_ n1_ n2_ n3_ n4_ n5_ n6_;clear hb hbox hg;have hnb31:=NB106_103.out;have hnc31:=NB103_106.out;have hcz32_0:w30.cell? ⟨gb106,0,none⟩=some (.int .i64 0):=(blk_cell BK106.out 0).trans rfl;have hcz32_1:w30.cell? ⟨gb106,1,none⟩=some (.int .i64 0):=(blk_cell BK106.out 1).trans rfl;have hfz32_0:=blk_frozen BK106.out 0;have hfz32_1:=blk_frozen BK106.out 1;have hcz33_0:w30.cell? ⟨gb103,0,none⟩=some (.int .i64 a0_0):=(blk_cell BK103.out 0).trans rfl;have hcz33_1:w30.cell? ⟨gb103,1,none⟩=some (.slice (some ad105) l0_1.length c0_1):=(blk_cell BK103.out 1).trans rfl;have hfz33_0:=blk_frozen BK103.out 0;have hfz33_1:=blk_frozen BK103.out 1)|((with_reducible refine gate_callee (f:=87) rfl ?_);refine goesL_ (some 27) rfl rfl Try.func87 (by kernel_rfl) rfl #[.int .i64 ((rd_T88 l0_1 x18_2).f0),.int .i64 (-1),.int .i64 (wrap64 (a0_0 - 1))] rfl (by (try simp only [List.map_toArray,List.map_cons,List.map_nil]);first|done|rfl|(simp only [List.length_drop,List.length_take];rfl)) ?_;(with_reducible refine (spec_l1in.calls ((rd_T88 l0_1 x18_2).f0) (-1) (wrap64 (a0_0 - 1)) false _ A13.out).mono ?_);rintro e w' ⟨rfl,⟨nd,rfl⟩⟩;refine ⟨_,rfl,?_⟩))
        go_ret
        exact ⟨by first|rfl|(simp [errW_none,errW_some] <;> rfl)|(simp [*,errW_none,errW_some] <;> rfl),by repeat (first|(with_reducible first|exact HB.out|apply below_alloc|apply pw_below_drewN|apply below_drew1|refine below_set ?_ GE103.out|refine below_set ?_ GE106.out)|exact HB.out)⟩
       rw [if_neg c12] at H
       exact absurd H (by simp)
      rw [if_neg c11] at H
      exact absurd H (by simp)
     rw [if_neg c10] at H
     have c10b0:decide (x18_2<(l0_1.length:Int))=false:=decide_eq_false c10
     clear c10
     obtain rfl:=Option.some.inj H
     go_wp2
     go_ret
     exact ⟨by first|rfl|(simp [errW_none,errW_some] <;> rfl)|(simp [*,errW_none,errW_some] <;> rfl),by exact HB.out⟩
end Go.Proofs.Ytpdnabhpkdchjaa.P
namespace Go.Proofs.Ytpdnabhpkdchjaa.P
open Go.RowKit Go.Proofs.YtpdnabhpkdchjaaW.PrintWords Go.Proofs.YtpdnabhpkdchjaaW.PrintLast Go.Proofs.YtpdnabhpkdchjaaW.PrintMore
attribute [local go_sem] max2_int min2_int max_two min_two max_three min_three max_four min_four
set_option linter.unusedVariables false
set_option linter.unusedSimpArgs false
def laws_toCounter.f (a0_0:Int) (a0_1:Int):Option (Int × Int):=some (a0_0,a0_1)
set_option maxHeartbeats 8000000 in
set_option maxRecDepth 100000 in
theorem laws_toCounter.calls (a0_0:Int) (a0_1:Int) (r1:Int) (r2:Int) (w:World) (h:laws_toCounter.f a0_0 a0_1=some (r1,r2)) :
  Calls Try.prog 128 #[.agg #[.int .i64 a0_0,.int .i64 a0_1]] w fun e w'=>e=.returned (.agg #[.int .i64 r1,.int .i64 r2])∧Below w.heap.size w w':=by
 have hu160:=Try.underlying160
 have hu88:=Try.underlying88
 have HB:=Aside0.mk (Below.refl w.heap.size w)
 have H:(some (a0_0,a0_1))=some (r1,r2):=h
 clear h
 simp only [Option.some.injEq,Prod.mk.injEq] at H
 obtain ⟨rfl,rfl⟩:=H
 go_enter Try.func128,Try.ntmps128
 go_wp2_with (first|((with_reducible refine gate_dst (N:=1) rfl ?_);refine box_event ?hg (N:=1) ?hd (cs:=#[.int .i64 a0_0,.int .i64 a0_1]) (t:=160) ?hr ?_;(case hd=>rfl);(case hg=>rfl);(case hr=>first|(go_simp;done)|(go_simp;rfl));intro gb109 hg w2 hbox hb;have n0_:=Aside0.mk (below_step (by repeat (first|(with_reducible first|exact HB.out|apply below_alloc|apply pw_below_drewN|apply below_drew1)|exact HB.out)) hb);have n1_:=Aside0.mk (hbox);have n2_:=Aside0.mk ((by rw [hg];exact (below_size (by repeat (first|(with_reducible first|exact HB.out|apply below_alloc|apply pw_below_drewN|apply below_drew1)|exact HB.out))):w.heap.size≤gb109));have n3_:=Aside0.mk ((by rw [hg];exact (below_size (by repeat (first|(with_reducible first|exact HB.out|apply below_alloc|apply pw_below_drewN|apply below_drew1)|exact HB.out))):w.heap.size≤gb109));clear HB;have HB:=n0_;have BK109:=n1_;have GW109:=n2_;have GE109:=n3_;clear n0_ n1_ n2_ n3_;clear hb hbox hg)|((with_reducible refine gate_dst (N:=2) rfl ?_);refine box_event ?hg (N:=2) ?hd (cs:=#[.int .i64 0,.int .i64 0]) (t:=88) ?hr ?_;(case hd=>rfl);(case hg=>rfl);(case hr=>first|(go_simp;done)|(go_simp;rfl));intro gb110 hg w3 hbox hb;have n0_:=Aside0.mk (blk_below (g:=gb109) (o:=.cells #[.int .i64 a0_0,.int .i64 a0_1] 160 (0,0)) (by (with_reducible repeat (first|refine blk_drewN ?_ _|refine blk_drew ?_|refine blk_alloc ?_ _));exact BK109.out) hb);have n1_:=Aside0.mk (below_step (by repeat (first|(with_reducible first|exact HB.out|apply below_alloc|apply pw_below_drewN|apply below_drew1|refine below_set ?_ GE109.out)|exact HB.out)) hb);have n2_:=Aside0.mk (hbox);have n3_:=Aside0.mk ((by rw [hg];exact (below_size (by repeat (first|(with_reducible first|exact HB.out|apply below_alloc|apply pw_below_drewN|apply below_drew1|refine below_set ?_ GE109.out)|exact HB.out))):w.heap.size≤gb110));have n4_:=Aside0.mk ((by rw [hg];exact (below_size (by repeat (first|(with_reducible first|exact HB.out|apply below_alloc|apply pw_below_drewN|apply below_drew1|refine below_set ?_ GE109.out)|exact HB.out))):w.heap.size≤gb110));have n5_:=Aside0.mk ((by rw [hg];exact Nat.ne_of_lt (blk_lt (g:=gb109) (o:=.cells #[.int .i64 a0_0,.int .i64 a0_1] 160 (0,0)) (by (with_reducible repeat (first|refine blk_drewN ?_ _|refine blk_drew ?_|refine blk_alloc ?_ _));exact BK109.out)):gb109 ≠ gb110));have n6_:=Aside0.mk ((by rw [hg];exact Nat.ne_of_gt (blk_lt (g:=gb109) (o:=.cells #[.int .i64 a0_0,.int .i64 a0_1] 160 (0,0)) (by (with_reducible repeat (first|refine blk_drewN ?_ _|refine blk_drew ?_|refine blk_alloc ?_ _));exact BK109.out)):gb110 ≠ gb109));clear BK109;clear HB;have BK109:=n0_;have HB:=n1_;have BK110:=n2_;have GW110:=n3_;have GE110:=n4_;have NB109_110:=n5_;have NB110_109:=n6_;clear n0_ n1_ n2_ n3_ n4_ n5_ n6_;clear hb hbox hg)|((with_reducible refine gate_dst (N:=3) rfl ?_);refine box_event ?hg (N:=3) ?hd (cs:=#[.int .i64 0,.int .i64 0]) (t:=88) ?hr ?_;(case hd=>rfl);(case hg=>rfl);(case hr=>first|(go_simp;done)|(go_simp;rfl));intro gb111 hg w4 hbox hb;have n0_:=Aside0.mk (blk_below (g:=gb109) (o:=.cells #[.int .i64 a0_0,.int .i64 a0_1] 160 (0,0)) (by (with_reducible repeat (first|refine blk_drewN ?_ _|refine blk_drew ?_|refine blk_alloc ?_ _));exact BK109.out) hb);have n1_:=Aside0.mk (blk_below (g:=gb110) (o:=.cells #[.int .i64 0,.int .i64 0] 88 (0,0)) (by (with_reducible repeat (first|refine blk_drewN ?_ _|refine blk_drew ?_|refine blk_alloc ?_ _));exact BK110.out) hb);have n2_:=Aside0.mk (below_step (by repeat (first|(with_reducible first|exact HB.out|apply below_alloc|apply pw_below_drewN|apply below_drew1|refine below_set ?_ GE109.out|refine below_set ?_ GE110.out)|exact HB.out)) hb);have n3_:=Aside0.mk (hbox);have n4_:=Aside0.mk ((by rw [hg];exact (below_size (by repeat (first|(with_reducible first|exact HB.out|apply below_alloc|apply pw_below_drewN|apply below_drew1|refine below_set ?_ GE109.out|refine below_set ?_ GE110.out)|exact HB.out))):w.heap.size≤gb111));have n5_:=Aside0.mk ((by rw [hg];exact (below_size (by repeat (first|(with_reducible first|exact HB.out|apply below_alloc|apply pw_below_drewN|apply below_drew1|refine below_set ?_ GE109.out|refine below_set ?_ GE110.out)|exact HB.out))):w.heap.size≤gb111));have n6_:=Aside0.mk ((by rw [hg];exact Nat.ne_of_lt (blk_lt (g:=gb109) (o:=.cells #[.int .i64 a0_0,.int .i64 a0_1] 160 (0,0)) (by (with_reducible repeat (first|refine blk_drewN ?_ _|refine blk_drew ?_|refine blk_alloc ?_ _));exact BK109.out)):gb109 ≠ gb111));have n7_:=Aside0.mk ((by rw [hg];exact Nat.ne_of_gt (blk_lt (g:=gb109) (o:=.cells #[.int .i64 a0_0,.int .i64 a0_1] 160 (0,0)) (by (with_reducible repeat (first|refine blk_drewN ?_ _|refine blk_drew ?_|refine blk_alloc ?_ _));exact BK109.out)):gb111 ≠ gb109));have n8_:=Aside0.mk ((by rw [hg];exact Nat.ne_of_lt (blk_lt (g:=gb110) (o:=.cells #[.int .i64 0,.int .i64 0] 88 (0,0)) (by (with_reducible repeat (first|refine blk_drewN ?_ _|refine blk_drew ?_|refine blk_alloc ?_ _));exact BK110.out)):gb110 ≠ gb111));have n9_:=Aside0.mk ((by rw [hg];exact Nat.ne_of_gt (blk_lt (g:=gb110) (o:=.cells #[.int .i64 0,.int .i64 0] 88 (0,0)) (by (with_reducible repeat (first|refine blk_drewN ?_ _|refine blk_drew ?_|refine blk_alloc ?_ _));exact BK110.out)):gb111 ≠ gb110));clear BK109;clear BK110;clear HB;have BK109:=n0_;have BK110:=n1_;have HB:=n2_;have BK111:=n3_;have GW111:=n4_;have GE111:=n5_;have NB109_111:=n6_;have NB111_109:=n7_;have NB110_111:=n8_;have NB111_110:=n9_;clear n0_ n1_ n2_ n3_ n4_ n5_ n6_ n7_ n8_ n9_;clear hb hbox hg;have hnb5:=NB109_110.out;have hnc5:=NB110_109.out;have hnb6:=NB109_111.out;have hnc6:=NB111_109.out;have hcz7_0:w4.cell? ⟨gb109,0,none⟩=some (.int .i64 a0_0):=(blk_cell BK109.out 0).trans rfl;have hcz7_1:w4.cell? ⟨gb109,1,none⟩=some (.int .i64 a0_1):=(blk_cell BK109.out 1).trans rfl;have hfz7_0:=blk_frozen BK109.out 0;have hfz7_1:=blk_frozen BK109.out 1;have hnb8:=NB111_110.out;have hnc8:=NB110_111.out;have hcz9_0:w4.cell? ⟨gb111,0,none⟩=some (.int .i64 0):=(blk_cell BK111.out 0).trans rfl;have hcz9_1:w4.cell? ⟨gb111,1,none⟩=some (.int .i64 0):=(blk_cell BK111.out 1).trans rfl;have hfz9_0:=blk_frozen BK111.out 0;have hfz9_1:=blk_frozen BK111.out 1;have hcz10_0:w4.cell? ⟨gb110,0,none⟩=some (.int .i64 0):=(blk_cell BK110.out 0).trans rfl;have hcz10_1:w4.cell? ⟨gb110,1,none⟩=some (.int .i64 0):=(blk_cell BK110.out 1).trans rfl;have hfz10_0:=blk_frozen BK110.out 0;have hfz10_1:=blk_frozen BK110.out 1))
 refine bodyPost_ret (results_cell_row rfl _ _ gb110 88 #[.int .i64 a0_0,.int .i64 a0_1] (0,0) _ rfl (by (with_reducible repeat (first|refine blk_drewN ?_ _|refine blk_drew ?_|refine blk_alloc ?_ _));refine blk_put (cs:=#[.int .i64 a0_0,.int .i64 0]) ?_ 1 _ rfl;(with_reducible repeat (first|refine blk_drewN ?_ _|refine blk_drew ?_|refine blk_alloc ?_ _));refine blk_put (cs:=#[.int .i64 0,.int .i64 0]) ?_ 0 _ rfl;(with_reducible repeat (first|refine blk_drewN ?_ _|refine blk_drew ?_|refine blk_alloc ?_ _));refine blk_far ?_ NB110_111.out _;(with_reducible repeat (first|refine blk_drewN ?_ _|refine blk_drew ?_|refine blk_alloc ?_ _));refine blk_far ?_ NB110_111.out _;(with_reducible repeat (first|refine blk_drewN ?_ _|refine blk_drew ?_|refine blk_alloc ?_ _));exact BK110.out) Try.underlying88 rfl (by kernel_rfl)) rfl ?_
 exact ⟨by first|rfl|(simp [errW_none,errW_some] <;> rfl)|(simp [*,errW_none,errW_some] <;> rfl),by repeat (first|(with_reducible first|exact HB.out|apply below_alloc|apply pw_below_drewN|apply below_drew1|refine below_set ?_ GE109.out|refine below_set ?_ GE110.out|refine below_set ?_ GE111.out)|exact HB.out)⟩
end Go.Proofs.Ytpdnabhpkdchjaa.P
namespace Go.Proofs.Ytpdnabhpkdchjaa.P
open Go.RowKit Go.Proofs.YtpdnabhpkdchjaaW.PrintWords Go.Proofs.YtpdnabhpkdchjaaW.PrintLast Go.Proofs.YtpdnabhpkdchjaaW.PrintMore
attribute [local go_sem] max2_int min2_int max_two min_two max_three min_three max_four min_four
set_option linter.unusedVariables false
set_option linter.unusedSimpArgs false
def laws_toCounterS.l0:Nat→List (S160)→List (S88)→Int→Option ((List (S88)))
 | 0,_,_,_=>none
 | k+1,x0,x3,x4=>if x4<(x0.length:Int) then (if 0≤x4 then ((laws_toCounter.f ((rd_T160 x0 x4).f0) ((rd_T160 x0 x4).f1)).bind fun bt116=>(if x4<(x3.length:Int) then (laws_toCounterS.l0 k x0 (x3.set (x4:Int).toNat (⟨bt116.1,bt116.2⟩:S88)) (wrap64 (x4+1))) else (none))) else (none)) else (some x3)
def laws_toCounterS.f (k:Nat) (l0:List (S160)):Option ((List (S88))):=if 0≤(l0.length:Int) then (if ((l0.length:Int):Int).toNat≤17592186044416 then (laws_toCounterS.l0 k l0 (List.replicate ((l0.length:Int):Int).toNat z88) 0) else (none)) else (none)
set_option maxHeartbeats 8000000 in
set_option maxRecDepth 100000 in
theorem laws_toCounterS.calls (k:Nat) (A0:Option Addr) (c0:Nat) (l0:List (S160)) (r:List (S88)) (w:World) (hr0:Kd.C k160 w A0 l0.length l0) (hc0:l0.length≤c0) (h:laws_toCounterS.f k l0=some r) :
  Calls Try.prog 88 #[.slice A0 l0.length c0] w fun e w'=>∃ v0_:Value,e=.returned (v0_)∧Kd.R k88 88 w' w.heap.size (fun _=>True) v0_ r∧Below w.heap.size w w':=by
 have hu160:=Try.underlying160
 have hu88:=Try.underlying88
 have HR0:=Aside0.mk hr0
 have HC0:=Aside0.mk hc0
 clear hr0 hc0
 have HB:=Aside0.mk (Below.refl w.heap.size w)
 have H:(if 0≤(l0.length:Int) then (if ((l0.length:Int):Int).toNat≤17592186044416 then (laws_toCounterS.l0 k l0 (List.replicate ((l0.length:Int):Int).toNat z88) 0) else (none)) else (none))=some r:=h
 clear h
 by_cases c2:0≤(l0.length:Int)
 ·rw [if_pos c2] at H
  have c2b0:=eq_true c2
  have c2b1:decide (0≤(l0.length:Int))=true:=decide_eq_true c2
  clear c2
  by_cases c3:((l0.length:Int):Int).toNat≤17592186044416
  ·rw [if_pos c3] at H
   have c3b0:=eq_true c3
   have c3b1:decide (((l0.length:Int):Int).toNat≤17592186044416)=true:=decide_eq_true c3
   clear c3
   obtain ⟨y112,hy112⟩:∃ y_:List (S88),y_=(List.replicate ((l0.length:Int):Int).toNat z88):=⟨_,rfl⟩
   replace H:(laws_toCounterS.l0 k l0 y112 0)=some r:=by first|(rw [hy112];with_reducible exact H)|(have H2_:=(Option.bind_some _ _).symm.trans H;rw [hy112];with_reducible exact H2_)|(have H2_:=(Option.bind_some _ _).symm.trans H;with_reducible exact H2_)|with_reducible exact H|(rw [hy112];exact H)|exact H
   have Ny112:=Aside0.mk hy112
   clear hy112
   have H':=Aside0.mk H
   clear H
   go_enter Try.func88,Try.ntmps88
   go_wp2_with (first|((with_reducible refine gate_dst (N:=7) rfl ?_);refine Kd.R_make k88 _ 88 rfl (N:=7) rfl 28 _ _ rfl (l0.length:Int) rfl rfl Try.underlying28 (.agg #[(.int .i64 0),(.int .i64 0)]) 16 info88 rfl (by decide) (by omega) z88 (ok:=fun _=>True) (okp:=fun _=>True) (k88_mkM _ _ _ z88 ) (fun _ hk=>hk) trivial (of_decide_eq_true (by first|(with_reducible assumption)|assumption)) (Nat.le_trans (Nat.mul_le_mul_right _ (of_decide_eq_true (by first|(with_reducible assumption)|assumption):(l0.length:Int).toNat≤17592186044416)) (by omega)) (Below.refl _ _) (Nat.le_refl _) ?_;intro v113 w4 ho5 hb hg_ hnew_;clear hg_ hnew_;(first|rw [← Ny112.out] at ho5|(simp only [Int.reduceToNat] at ho5;rw [← Ny112.out] at ho5));have n0_:=Aside0.mk (Kd.R_lower ho5 (below_size (by repeat (first|(with_reducible first|exact HB.out|apply below_alloc|apply pw_below_drewN|apply below_drew1)|exact HB.out))));have n1_:=Aside0.mk (below_step (by repeat (first|(with_reducible first|exact HB.out|apply below_alloc|apply pw_below_drewN|apply below_drew1)|exact HB.out)) hb);clear HB;have HO114:=n0_;have HB:=n1_;clear n0_ n1_;clear hb ho5))
   go_loopg [4] k (fun kq v4 w'=>∃ (x3_1:List (S88)) (x4_1:Int),v4=.int .i64 x4_1∧Aside0 (laws_toCounterS.l0 kq l0 x3_1 x4_1=some r)∧Aside0 (kq≤k)∧Aside0 (Kd.R k88 88 w' w.heap.size (fun _=>True) v113 x3_1)∧Aside0 (Below w.heap.size w w'))
   case atStart=>exact ⟨(y112),(0),(by first|rfl|(simp;done)|(simp [*];done)),H',⟨Nat.le_refl _⟩,⟨by (with_reducible repeat (first|apply Kd.R_alloc|apply Kd.R_drewN|apply Kd.R_drew));exact HO114.out⟩,⟨by repeat (first|(with_reducible first|exact HB.out|apply below_alloc|apply pw_below_drewN|apply below_drew1)|exact HB.out)⟩⟩
   case round =>
    clear H'
    try clear c2
    try clear c2b0
    try clear c2b1
    try clear p2
    try clear c3
    try clear c3b0
    try clear c3b1
    obtain ⟨x3_1,x4_1,rfl,HA,HK1,HO_3,HB⟩:=hrel
    cases gk with
    | zero=>exact absurd HA.out (by simp [laws_toCounterS.l0])
    | succ k1 =>
     have H:=HA.out
     clear HA
     simp only [laws_toCounterS.l0] at H
     by_cases c6:x4_1<(l0.length:Int)
     ·rw [if_pos c6] at H
      have c6b0:decide (x4_1<(l0.length:Int))=true:=decide_eq_true c6
      clear c6
      by_cases c7:0≤x4_1
      ·rw [if_pos c7] at H
       have c7b0:decide (0≤x4_1)=true:=decide_eq_true c7
       clear c7
       replace H:=Option.bind_eq_some_iff.mp H
       obtain ⟨⟨t116,t117⟩,A80,H⟩:=H
       replace H:(if x4_1<(x3_1.length:Int) then (laws_toCounterS.l0 k1 l0 (x3_1.set (x4_1:Int).toNat (⟨t116,t117⟩:S88)) (wrap64 (x4_1+1))) else (none))=some r:=H
       have A8:=Aside0.mk A80
       clear A80
       by_cases c9:x4_1<(x3_1.length:Int)
       ·rw [if_pos c9] at H
        have c9b0:decide (x4_1<(x3_1.length:Int))=true:=decide_eq_true c9
        clear c9
        obtain ⟨y118,hy118⟩:∃ y_:List (S88),y_=(x3_1.set (x4_1:Int).toNat (⟨t116,t117⟩:S88)):=⟨_,rfl⟩
        replace H:(laws_toCounterS.l0 k1 l0 y118 (wrap64 (x4_1+1)))=some r:=by first|(rw [hy118];with_reducible exact H)|(have H2_:=(Option.bind_some _ _).symm.trans H;rw [hy118];with_reducible exact H2_)|(have H2_:=(Option.bind_some _ _).symm.trans H;with_reducible exact H2_)|with_reducible exact H|(rw [hy118];exact H)|exact H
        have Ny118:=Aside0.mk hy118
        clear hy118
        have H':=Aside0.mk H
        clear H
        have p115:0≤(x4_1:Int):=of_decide_eq_true (by first|(with_reducible assumption)|assumption)
        have q115:x4_1<(l0.length:Int):=of_decide_eq_true (by first|(with_reducible assumption)|assumption)
        obtain ⟨ad115,e115,hx115_0,hx115_1⟩:=at_T160 HR0.out x4_1 p115 q115
        cases e115
        replace hx115_0:=(HB.out.cell (World.block_lt_of_cell? w _ hx115_0)).trans hx115_0
        replace hx115_1:=(HB.out.cell (World.block_lt_of_cell? w _ hx115_1)).trans hx115_1
        replace p115:=eq_true p115
        replace q115:=eq_true q115
        go_wp2_with (first|((with_reducible refine gate_callee (f:=128) rfl ?_);refine goesL_ (some 20) rfl rfl Try.func128 (by kernel_rfl) rfl #[.agg #[.int .i64 ((rd_T160 l0 x4_1).f0),.int .i64 ((rd_T160 l0 x4_1).f1)]] rfl (by (try simp only [List.map_toArray,List.map_cons,List.map_nil]);first|done|rfl|(simp only [List.length_drop,List.length_take];rfl)) ?_;(with_reducible refine (laws_toCounter.calls ((rd_T160 l0 x4_1).f0) ((rd_T160 l0 x4_1).f1) t116 t117 _ A8.out).mono ?_);rintro e w11 ⟨rfl,hb⟩;refine ⟨_,rfl,?_⟩;have n0_:=Aside0.mk (Kd.R_below (by (with_reducible repeat (first|apply Kd.R_alloc|apply Kd.R_drewN|apply Kd.R_drew));exact HO_3.out) hb);have n1_:=Aside0.mk (below_step (by repeat (first|(with_reducible first|exact HB.out|apply below_alloc|apply pw_below_drewN|apply below_drew1)|exact HB.out)) hb);clear HO_3;clear HB;have HO_3:=n0_;have HB:=n1_;clear n0_ n1_;(try clear hb);(try clear hb2);(try clear hk);(try clear hi);have p10:0≤(x4_1:Int):=of_decide_eq_true (by first|(with_reducible assumption)|assumption);have q10:(x4_1:Int)<((x3_1.length:Int):Int):=of_decide_eq_true (by first|(with_reducible assumption)|assumption);obtain ⟨go10,co10,eo10,gb10,gl10,cl10,HG10⟩:=Kd.R_form HO_3.out (by omega);(first|cases eo10|(injection eo10 with ea_ en_ ec_;(first|subst ea_|(injection ea_ with ea_;subst ea_));subst ec_;clear en_));have GB10:=Aside0.mk gb10;have GG10:=Aside0.mk HG10;clear gb10 gl10 HG10;obtain ⟨ce10,hcl10,hM10,hcc10,hfr10⟩:=Kd.R_elem HO_3.out z88 (x4_1:Int) p10 q10;obtain rfl:=k88_openM hM10;have hx10_0:w11.cell? ⟨go10,(x4_1:Int).toNat * 2,none⟩=some (.int .i64 ((rd_T88 x3_1 x4_1).f0)):=hcc10 0 _ rfl;have hx10_1:w11.cell? ⟨go10,(x4_1:Int).toNat * 2+1,none⟩=some (.int .i64 ((rd_T88 x3_1 x4_1).f1)):=hcc10 1 _ rfl;have hf10_0:w11.frozen? ⟨go10,(x4_1:Int).toNat * 2,none⟩=false:=hfr10 0;have hf10_1:w11.frozen? ⟨go10,(x4_1:Int).toNat * 2+1,none⟩=false:=hfr10 1;clear hcl10 hcc10 hfr10 hM10;replace p10:=eq_true p10;replace q10:=eq_true q10;have HX12:=Aside0.mk (show Kd.R k88 88 w11 w.heap.size (fun _=>True) (.slice (some ⟨go10,0,none⟩) x3_1.length co10) x3_1 from (by (with_reducible repeat (first|apply Kd.R_alloc|apply Kd.R_drewN|apply Kd.R_drew));exact HO_3.out));obtain ⟨ce12,hcl12,hM12,hcc12,hfr12⟩:=Kd.R_elem HX12.out z88 (x4_1:Int) (of_decide_eq_true (by first|(with_reducible assumption)|assumption)) (by have h_:(x4_1:Int)<((x3_1.length:Int):Int):=of_decide_eq_true (by first|(with_reducible assumption)|assumption);first|exact h_|(have e_:=(Kd.R_reads' HO_3.out).1;omega)|simpa using h_);obtain rfl:=k88_openM hM12;have HP12:=Kd.R_seg HX12.out (x4_1:Int) (of_decide_eq_true (by first|(with_reducible assumption)|assumption)) (by have h_:(x4_1:Int)<((x3_1.length:Int):Int):=of_decide_eq_true (by first|(with_reducible assumption)|assumption);first|exact h_|(have e_:=(Kd.R_reads' HO_3.out).1;omega)|simpa using h_) (seg:=[.int .i64 t116,.int .i64 t117]) (j:=0) hcl12 hcc12 (show 2≤2 from by decide) (x':=(⟨t116,t117⟩:S88)) (k88_mkM _ _ _ (⟨t116,t117⟩:S88) ) (fun _ hk=>hk);have hx12_0:=hcc12 0 _ rfl;(try simp only [show (k88).sz=2 from rfl,Nat.mul_one,Nat.add_zero] at hx12_0);have hf12_0:=hfr12 0;(try simp only [show (k88).sz=2 from rfl,Nat.mul_one,Nat.add_zero] at hf12_0);have hx12_1:=hcc12 1 _ rfl;(try simp only [show (k88).sz=2 from rfl,Nat.mul_one,Nat.add_zero] at hx12_1);have hf12_1:=hfr12 1;(try simp only [show (k88).sz=2 from rfl,Nat.mul_one,Nat.add_zero] at hf12_1);clear hcl12 hcc12 hfr12 hM12)|((with_reducible refine gate_store (t:=88) (p:=21) rfl ?_);refine store_event (t:=88) (p:=21) (v:=?vo_w13) (w1:=((w11.setCell ⟨go10,(x4_1:Int).toNat * 2,none⟩ (.int .i64 t116)).setCell ⟨go10,(x4_1:Int).toNat * 2+1,none⟩ (.int .i64 t117))) ?hg ?ho ?hn ?hr ?_;(case ho=>rfl);(case hg=>rfl);(case hn=>rfl);(case hr=>first|(go_simp;done)|(go_simp;rfl));intro w13 hw;have hg:w11.grownBy w13 (some go10):=(by rw [hw];exact HP12.2);have hp_:Kd.R k88 88 w13 w.heap.size (fun _=>True) (.slice (some ⟨go10,0,none⟩) x3_1.length co10) y118:=(by rw [hw,Ny118.out];exact HP12.1);clear HP12;have n0_:=Aside0.mk (hp_);have n1_:=Aside0.mk ((by rw [hw];exact below_set (below_set (HB.out) GB10.out) GB10.out:Below w.heap.size w w13));clear HO_3;clear HB;have HO_3:=n0_;have HB:=n1_;clear n0_ n1_;clear hg hw hp_))
        go_roundg k1
        case measure=>have:=HK1.out;omega
        case rel=>exact ⟨(y118),(wrap64 (x4_1+1)),(by first|rfl|(simp;done)|(simp [*];done)),H',⟨by have:=HK1.out;omega⟩,⟨by (with_reducible repeat (first|apply Kd.R_alloc|apply Kd.R_drewN|apply Kd.R_drew));exact HO_3.out⟩,⟨by repeat (first|(with_reducible first|exact HB.out|apply below_alloc|apply pw_below_drewN|apply below_drew1)|exact HB.out)⟩⟩
       rw [if_neg c9] at H
       exact absurd H (by simp)
      rw [if_neg c7] at H
      exact absurd H (by simp)
     rw [if_neg c6] at H
     have c6b0:decide (x4_1<(l0.length:Int))=false:=decide_eq_false c6
     clear c6
     obtain rfl:=Option.some.inj H
     go_wp2
     go_ret
     exact ⟨_,by first|rfl|(simp [errW_none,errW_some] <;> rfl)|(simp [*,errW_none,errW_some] <;> rfl),by (with_reducible repeat (first|apply Kd.R_alloc|apply Kd.R_drewN|apply Kd.R_drew));exact HO_3.out,by repeat (first|(with_reducible first|exact HB.out|apply below_alloc|apply pw_below_drewN|apply below_drew1)|exact HB.out)⟩
  rw [if_neg c3] at H
  exact absurd H (by simp)
 rw [if_neg c2] at H
 exact absurd H (by simp)
end Go.Proofs.Ytpdnabhpkdchjaa.P
namespace Go.Proofs.Ytpdnabhpkdchjaa.P
open Go.RowKit Go.Proofs.YtpdnabhpkdchjaaW.PrintWords Go.Proofs.YtpdnabhpkdchjaaW.PrintLast Go.Proofs.YtpdnabhpkdchjaaW.PrintMore
attribute [local go_sem] max2_int min2_int max_two min_two max_three min_three max_four min_four
set_option linter.unusedVariables false
set_option linter.unusedSimpArgs false
def laws_toLayout.f (k:Nat) (a0_0:Int) (l0_1:List (S160)):Option (Int × (List (S88))):=(laws_toCounterS.f k l0_1).bind fun t122=>(some (a0_0,t122))
set_option maxHeartbeats 8000000 in
set_option maxRecDepth 100000 in
theorem laws_toLayout.calls (k:Nat) (a0_0:Int) (A0_1:Option Addr) (c0_1:Nat) (l0_1:List (S160)) (r1:Int) (r2:List (S88)) (w:World) (hr0_1:Kd.C k160 w A0_1 l0_1.length l0_1) (hc0_1:l0_1.length≤c0_1) (h:laws_toLayout.f k a0_0 l0_1=some (r1,r2)) :
  Calls Try.prog 24 #[.agg #[.int .i64 a0_0,.slice A0_1 l0_1.length c0_1]] w fun e w'=>∃ v1_:Value,e=.returned (.agg #[.int .i64 r1,v1_])∧Kd.R k88 88 w' w.heap.size (fun _=>True) v1_ r2∧Below w.heap.size w w':=by
 have hu25:=Try.underlying25
 have hu30:=Try.underlying30
 have HR0_1:=Aside0.mk hr0_1
 have HC0_1:=Aside0.mk hc0_1
 clear hr0_1 hc0_1
 have HB:=Aside0.mk (Below.refl w.heap.size w)
 have H:((laws_toCounterS.f k l0_1).bind fun t122=>(some (a0_0,t122)))=some (r1,r2):=h
 clear h
 replace H:=Option.bind_eq_some_iff.mp H
 obtain ⟨t122,A20,H⟩:=H
 replace H:(some (a0_0,t122))=some (r1,r2):=H
 have A2:=Aside0.mk A20
 clear A20
 simp only [Option.some.injEq,Prod.mk.injEq] at H
 obtain ⟨rfl,rfl⟩:=H
 go_enter Try.func24,Try.ntmps24
 go_wp2_with (first|((with_reducible refine gate_dst (N:=1) rfl ?_);refine box_event ?hg (N:=1) ?hd (cs:=#[.int .i64 a0_0,.slice A0_1 l0_1.length c0_1]) (t:=25) ?hr ?_;(case hd=>rfl);(case hg=>rfl);(case hr=>first|(go_simp;done)|(go_simp;rfl));intro gb119 hg w3 hbox hb;have n0_:=Aside0.mk (below_step (by repeat (first|(with_reducible first|exact HB.out|apply below_alloc|apply pw_below_drewN|apply below_drew1)|exact HB.out)) hb);have n1_:=Aside0.mk (hbox);have n2_:=Aside0.mk ((by rw [hg];exact (below_size (by repeat (first|(with_reducible first|exact HB.out|apply below_alloc|apply pw_below_drewN|apply below_drew1)|exact HB.out))):w.heap.size≤gb119));have n3_:=Aside0.mk ((by rw [hg];exact (below_size (by repeat (first|(with_reducible first|exact HB.out|apply below_alloc|apply pw_below_drewN|apply below_drew1)|exact HB.out))):w.heap.size≤gb119));clear HB;have HB:=n0_;have BK119:=n1_;have GW119:=n2_;have GE119:=n3_;clear n0_ n1_ n2_ n3_;clear hb hbox hg)|((with_reducible refine gate_dst (N:=2) rfl ?_);refine box_event ?hg (N:=2) ?hd (cs:=#[.int .i64 0,.slice none 0 0]) (t:=30) ?hr ?_;(case hd=>rfl);(case hg=>rfl);(case hr=>first|(go_simp;done)|(go_simp;rfl));intro gb120 hg w4 hbox hb;have n0_:=Aside0.mk (blk_below (g:=gb119) (o:=.cells #[.int .i64 a0_0,.slice A0_1 l0_1.length c0_1] 25 (0,0)) (by (with_reducible repeat (first|refine blk_drewN ?_ _|refine blk_drew ?_|refine blk_alloc ?_ _));exact BK119.out) hb);have n1_:=Aside0.mk (below_step (by repeat (first|(with_reducible first|exact HB.out|apply below_alloc|apply pw_below_drewN|apply below_drew1|refine below_set ?_ GE119.out)|exact HB.out)) hb);have n2_:=Aside0.mk (hbox);have n3_:=Aside0.mk ((by rw [hg];exact (below_size (by repeat (first|(with_reducible first|exact HB.out|apply below_alloc|apply pw_below_drewN|apply below_drew1|refine below_set ?_ GE119.out)|exact HB.out))):w.heap.size≤gb120));have n4_:=Aside0.mk ((by rw [hg];exact (below_size (by repeat (first|(with_reducible first|exact HB.out|apply below_alloc|apply pw_below_drewN|apply below_drew1|refine below_set ?_ GE119.out)|exact HB.out))):w.heap.size≤gb120));have n5_:=Aside0.mk ((by rw [hg];exact Nat.ne_of_lt (blk_lt (g:=gb119) (o:=.cells #[.int .i64 a0_0,.slice A0_1 l0_1.length c0_1] 25 (0,0)) (by (with_reducible repeat (first|refine blk_drewN ?_ _|refine blk_drew ?_|refine blk_alloc ?_ _));exact BK119.out)):gb119 ≠ gb120));have n6_:=Aside0.mk ((by rw [hg];exact Nat.ne_of_gt (blk_lt (g:=gb119) (o:=.cells #[.int .i64 a0_0,.slice A0_1 l0_1.length c0_1] 25 (0,0)) (by (with_reducible repeat (first|refine blk_drewN ?_ _|refine blk_drew ?_|refine blk_alloc ?_ _));exact BK119.out)):gb120 ≠ gb119));clear BK119;clear HB;have BK119:=n0_;have HB:=n1_;have BK120:=n2_;have GW120:=n3_;have GE120:=n4_;have NB119_120:=n5_;have NB120_119:=n6_;clear n0_ n1_ n2_ n3_ n4_ n5_ n6_;clear hb hbox hg)|((with_reducible refine gate_dst (N:=3) rfl ?_);refine box_event ?hg (N:=3) ?hd (cs:=#[.int .i64 0,.slice none 0 0]) (t:=30) ?hr ?_;(case hd=>rfl);(case hg=>rfl);(case hr=>first|(go_simp;done)|(go_simp;rfl));intro gb121 hg w5 hbox hb;have n0_:=Aside0.mk (blk_below (g:=gb119) (o:=.cells #[.int .i64 a0_0,.slice A0_1 l0_1.length c0_1] 25 (0,0)) (by (with_reducible repeat (first|refine blk_drewN ?_ _|refine blk_drew ?_|refine blk_alloc ?_ _));exact BK119.out) hb);have n1_:=Aside0.mk (blk_below (g:=gb120) (o:=.cells #[.int .i64 0,.slice none 0 0] 30 (0,0)) (by (with_reducible repeat (first|refine blk_drewN ?_ _|refine blk_drew ?_|refine blk_alloc ?_ _));exact BK120.out) hb);have n2_:=Aside0.mk (below_step (by repeat (first|(with_reducible first|exact HB.out|apply below_alloc|apply pw_below_drewN|apply below_drew1|refine below_set ?_ GE119.out|refine below_set ?_ GE120.out)|exact HB.out)) hb);have n3_:=Aside0.mk (hbox);have n4_:=Aside0.mk ((by rw [hg];exact (below_size (by repeat (first|(with_reducible first|exact HB.out|apply below_alloc|apply pw_below_drewN|apply below_drew1|refine below_set ?_ GE119.out|refine below_set ?_ GE120.out)|exact HB.out))):w.heap.size≤gb121));have n5_:=Aside0.mk ((by rw [hg];exact (below_size (by repeat (first|(with_reducible first|exact HB.out|apply below_alloc|apply pw_below_drewN|apply below_drew1|refine below_set ?_ GE119.out|refine below_set ?_ GE120.out)|exact HB.out))):w.heap.size≤gb121));have n6_:=Aside0.mk ((by rw [hg];exact Nat.ne_of_lt (blk_lt (g:=gb119) (o:=.cells #[.int .i64 a0_0,.slice A0_1 l0_1.length c0_1] 25 (0,0)) (by (with_reducible repeat (first|refine blk_drewN ?_ _|refine blk_drew ?_|refine blk_alloc ?_ _));exact BK119.out)):gb119 ≠ gb121));have n7_:=Aside0.mk ((by rw [hg];exact Nat.ne_of_gt (blk_lt (g:=gb119) (o:=.cells #[.int .i64 a0_0,.slice A0_1 l0_1.length c0_1] 25 (0,0)) (by (with_reducible repeat (first|refine blk_drewN ?_ _|refine blk_drew ?_|refine blk_alloc ?_ _));exact BK119.out)):gb121 ≠ gb119));have n8_:=Aside0.mk ((by rw [hg];exact Nat.ne_of_lt (blk_lt (g:=gb120) (o:=.cells #[.int .i64 0,.slice none 0 0] 30 (0,0)) (by (with_reducible repeat (first|refine blk_drewN ?_ _|refine blk_drew ?_|refine blk_alloc ?_ _));exact BK120.out)):gb120 ≠ gb121));have n9_:=Aside0.mk ((by rw [hg];exact Nat.ne_of_gt (blk_lt (g:=gb120) (o:=.cells #[.int .i64 0,.slice none 0 0] 30 (0,0)) (by (with_reducible repeat (first|refine blk_drewN ?_ _|refine blk_drew ?_|refine blk_alloc ?_ _));exact BK120.out)):gb121 ≠ gb120));clear BK119;clear BK120;clear HB;have BK119:=n0_;have BK120:=n1_;have HB:=n2_;have BK121:=n3_;have GW121:=n4_;have GE121:=n5_;have NB119_121:=n6_;have NB121_119:=n7_;have NB120_121:=n8_;have NB121_120:=n9_;clear n0_ n1_ n2_ n3_ n4_ n5_ n6_ n7_ n8_ n9_;clear hb hbox hg;have hnb6:=NB119_120.out;have hnc6:=NB120_119.out;have hnb7:=NB119_121.out;have hnc7:=NB121_119.out;have hcz8_0:w5.cell? ⟨gb119,0,none⟩=some (.int .i64 a0_0):=(blk_cell BK119.out 0).trans rfl;have hcz8_1:w5.cell? ⟨gb119,1,none⟩=some (.slice A0_1 l0_1.length c0_1):=(blk_cell BK119.out 1).trans rfl;have hfz8_0:=blk_frozen BK119.out 0;have hfz8_1:=blk_frozen BK119.out 1;have hnb9:=NB121_120.out;have hnc9:=NB120_121.out;have hcz10_0:w5.cell? ⟨gb121,0,none⟩=some (.int .i64 0):=(blk_cell BK121.out 0).trans rfl;have hcz10_1:w5.cell? ⟨gb121,1,none⟩=some (.slice none 0 0):=(blk_cell BK121.out 1).trans rfl;have hfz10_0:=blk_frozen BK121.out 0;have hfz10_1:=blk_frozen BK121.out 1)|((with_reducible refine gate_callee (f:=88) rfl ?_);refine goesL_ (some 9) rfl rfl Try.func88 (by kernel_rfl) rfl #[.slice A0_1 l0_1.length c0_1] rfl (by (try simp only [List.map_toArray,List.map_cons,List.map_nil]);first|done|rfl|(simp only [List.length_drop,List.length_take];rfl)) ?_;(with_reducible refine (laws_toCounterS.calls k _ _ l0_1 t122 _ ?side1 ?side2 A2.out).mono ?_);(case side1=>exact Kd.C_below HR0_1.out (by repeat (first|(with_reducible first|exact HB.out|apply below_alloc|apply pw_below_drewN|apply below_drew1|refine below_set ?_ GE119.out|refine below_set ?_ GE120.out|refine below_set ?_ GE121.out)|exact HB.out)));(case side2=>exact HC0_1.out);rintro e w11 ⟨v123,rfl,ho0,hb⟩;refine ⟨_,rfl,?_⟩;have n0_:=Aside0.mk (Kd.R_lower ho0 (below_size (by repeat (first|(with_reducible first|exact HB.out|apply below_alloc|apply pw_below_drewN|apply below_drew1|refine below_set ?_ GE119.out|refine below_set ?_ GE120.out|refine below_set ?_ GE121.out)|exact HB.out))));have n1_:=Aside0.mk (blk_below (g:=gb119) (o:=.cells #[.int .i64 a0_0,.slice A0_1 l0_1.length c0_1] 25 (0,0)) (by (with_reducible repeat (first|refine blk_drewN ?_ _|refine blk_drew ?_|refine blk_alloc ?_ _));refine blk_far ?_ NB119_121.out _;(with_reducible repeat (first|refine blk_drewN ?_ _|refine blk_drew ?_|refine blk_alloc ?_ _));exact BK119.out) hb);have n2_:=Aside0.mk (blk_below (g:=gb120) (o:=.cells #[.int .i64 0,.slice none 0 0] 30 (0,0)) (by (with_reducible repeat (first|refine blk_drewN ?_ _|refine blk_drew ?_|refine blk_alloc ?_ _));refine blk_far ?_ NB120_121.out _;(with_reducible repeat (first|refine blk_drewN ?_ _|refine blk_drew ?_|refine blk_alloc ?_ _));exact BK120.out) hb);have n3_:=Aside0.mk (blk_below (g:=gb121) (o:=.cells #[.int .i64 a0_0,.slice none 0 0] 30 (0,0)) (by (with_reducible repeat (first|refine blk_drewN ?_ _|refine blk_drew ?_|refine blk_alloc ?_ _));refine blk_put (cs:=#[.int .i64 0,.slice none 0 0]) ?_ 0 _ rfl;(with_reducible repeat (first|refine blk_drewN ?_ _|refine blk_drew ?_|refine blk_alloc ?_ _));exact BK121.out) hb);have n4_:=Aside0.mk (below_step (by repeat (first|(with_reducible first|exact HB.out|apply below_alloc|apply pw_below_drewN|apply below_drew1|refine below_set ?_ GE119.out|refine below_set ?_ GE120.out|refine below_set ?_ GE121.out)|exact HB.out)) hb);clear BK119;clear BK120;clear BK121;clear HB;have HO124:=n0_;have BK119:=n1_;have BK120:=n2_;have BK121:=n3_;have HB:=n4_;clear n0_ n1_ n2_ n3_ n4_;(try clear hb);(try clear hb2);(try clear hk);(try clear hi);(try clear ho0);obtain ⟨Ao12,co12,eo12⟩:=Kd.R_slice HO124.out;subst eo12;have hcz13_0:w11.cell? ⟨gb121,0,none⟩=some (.int .i64 a0_0):=(blk_cell BK121.out 0).trans rfl;have hcz13_1:w11.cell? ⟨gb121,1,none⟩=some (.slice none 0 0):=(blk_cell BK121.out 1).trans rfl;have hfz13_0:=blk_frozen BK121.out 0;have hfz13_1:=blk_frozen BK121.out 1;have hcz14_0:w11.cell? ⟨gb120,0,none⟩=some (.int .i64 0):=(blk_cell BK120.out 0).trans rfl;have hcz14_1:w11.cell? ⟨gb120,1,none⟩=some (.slice none 0 0):=(blk_cell BK120.out 1).trans rfl;have hfz14_0:=blk_frozen BK120.out 0;have hfz14_1:=blk_frozen BK120.out 1))
 refine bodyPost_ret (results_cell_row rfl _ _ gb120 30 #[.int .i64 a0_0,.slice Ao12 t122.length co12] (0,0) _ rfl (by (with_reducible repeat (first|refine blk_drewN ?_ _|refine blk_drew ?_|refine blk_alloc ?_ _));refine blk_put (cs:=#[.int .i64 a0_0,.slice none 0 0]) ?_ 1 _ rfl;(with_reducible repeat (first|refine blk_drewN ?_ _|refine blk_drew ?_|refine blk_alloc ?_ _));refine blk_put (cs:=#[.int .i64 0,.slice none 0 0]) ?_ 0 _ rfl;(with_reducible repeat (first|refine blk_drewN ?_ _|refine blk_drew ?_|refine blk_alloc ?_ _));refine blk_far ?_ NB120_121.out _;(with_reducible repeat (first|refine blk_drewN ?_ _|refine blk_drew ?_|refine blk_alloc ?_ _));exact BK120.out) Try.underlying30 rfl (by kernel_rfl)) rfl ?_
 exact ⟨_,by first|rfl|(simp [errW_none,errW_some] <;> rfl)|(simp [*,errW_none,errW_some] <;> rfl),by (with_reducible repeat (first|apply Kd.R_alloc|apply Kd.R_drewN|apply Kd.R_drew));exact Kd.R_mono (Kd.R_far (p:=⟨gb120,1,none⟩) (Kd.R_far (p:=⟨gb120,0,none⟩) (Kd.R_far (p:=⟨gb121,1,none⟩) (Kd.R_types (Kd.R_types HO124.out BK121.out (by decide)) BK120.out (by decide)) (fun _ hk=>hk.1.2) (.slice Ao12 t122.length co12)) (fun _ hk=>hk.2) (.int .i64 a0_0)) (fun _ hk=>hk.2) (.slice Ao12 t122.length co12)) (fun _ hk=>trivial),by repeat (first|(with_reducible first|exact HB.out|apply below_alloc|apply pw_below_drewN|apply below_drew1|refine below_set ?_ GE119.out|refine below_set ?_ GE120.out|refine below_set ?_ GE121.out)|exact HB.out)⟩
end Go.Proofs.Ytpdnabhpkdchjaa.P
namespace Go.Proofs.Ytpdnabhpkdchjaa.P
open Go.RowKit Go.Proofs.YtpdnabhpkdchjaaW.PrintWords Go.Proofs.YtpdnabhpkdchjaaW.PrintLast Go.Proofs.YtpdnabhpkdchjaaW.PrintMore
attribute [local go_sem] max2_int min2_int max_two min_two max_three min_three max_four min_four
set_option linter.unusedVariables false
set_option linter.unusedSimpArgs false
def laws_eqCounter.f (a0_0:Int) (a0_1:Int) (a1_0:Int) (a1_1:Int):Option (Bool):=if a0_0=a1_0 then (if a0_1=a1_1 then (some true) else (some false)) else (some false)
set_option maxHeartbeats 8000000 in
set_option maxRecDepth 100000 in
theorem laws_eqCounter.calls (a0_0:Int) (a0_1:Int) (a1_0:Int) (a1_1:Int) (r:Bool) (w:World) (h:laws_eqCounter.f a0_0 a0_1 a1_0 a1_1=some r) :
  Calls Try.prog 129 #[.agg #[.int .i64 a0_0,.int .i64 a0_1],.agg #[.int .i64 a1_0,.int .i64 a1_1]] w fun e w'=>e=.returned (.bool r)∧Below w.heap.size w w':=by
 have hu88:=Try.underlying88
 have HB:=Aside0.mk (Below.refl w.heap.size w)
 have H:(if a0_0=a1_0 then (if a0_1=a1_1 then (some true) else (some false)) else (some false))=some r:=h
 clear h
 by_cases c3:a0_0=a1_0
 ·rw [if_pos c3] at H
  have c3b0:(a0_0==a1_0)=true:=beq_iff_eq.mpr c3
  have c3b1:(a0_0 != a1_0)=false:=bne_eq_false_iff_eq.mpr c3
  clear c3
  by_cases c4:a0_1=a1_1
  ·rw [if_pos c4] at H
   have c4b0:(a0_1==a1_1)=true:=beq_iff_eq.mpr c4
   have c4b1:(a0_1 != a1_1)=false:=bne_eq_false_iff_eq.mpr c4
   clear c4
   obtain rfl:=Option.some.inj H
   go_enter Try.func129,Try.ntmps129
   go_wp2_with (first|((with_reducible refine gate_dst (N:=2) rfl ?_);refine box_event ?hg (N:=2) ?hd (cs:=#[.int .i64 a0_0,.int .i64 a0_1]) (t:=88) ?hr ?_;(case hd=>rfl);(case hg=>rfl);(case hr=>first|(go_simp;done)|(go_simp;rfl));intro gb126 hg w5 hbox hb;have n0_:=Aside0.mk (below_step (by repeat (first|(with_reducible first|exact HB.out|apply below_alloc|apply pw_below_drewN|apply below_drew1)|exact HB.out)) hb);have n1_:=Aside0.mk (hbox);have n2_:=Aside0.mk ((by rw [hg];exact (below_size (by repeat (first|(with_reducible first|exact HB.out|apply below_alloc|apply pw_below_drewN|apply below_drew1)|exact HB.out))):w.heap.size≤gb126));have n3_:=Aside0.mk ((by rw [hg];exact (below_size (by repeat (first|(with_reducible first|exact HB.out|apply below_alloc|apply pw_below_drewN|apply below_drew1)|exact HB.out))):w.heap.size≤gb126));clear HB;have HB:=n0_;have BK126:=n1_;have GW126:=n2_;have GE126:=n3_;clear n0_ n1_ n2_ n3_;clear hb hbox hg)|((with_reducible refine gate_dst (N:=3) rfl ?_);refine box_event ?hg (N:=3) ?hd (cs:=#[.int .i64 a1_0,.int .i64 a1_1]) (t:=88) ?hr ?_;(case hd=>rfl);(case hg=>rfl);(case hr=>first|(go_simp;done)|(go_simp;rfl));intro gb127 hg w6 hbox hb;have n0_:=Aside0.mk (blk_below (g:=gb126) (o:=.cells #[.int .i64 a0_0,.int .i64 a0_1] 88 (0,0)) (by (with_reducible repeat (first|refine blk_drewN ?_ _|refine blk_drew ?_|refine blk_alloc ?_ _));exact BK126.out) hb);have n1_:=Aside0.mk (below_step (by repeat (first|(with_reducible first|exact HB.out|apply below_alloc|apply pw_below_drewN|apply below_drew1|refine below_set ?_ GE126.out)|exact HB.out)) hb);have n2_:=Aside0.mk (hbox);have n3_:=Aside0.mk ((by rw [hg];exact (below_size (by repeat (first|(with_reducible first|exact HB.out|apply below_alloc|apply pw_below_drewN|apply below_drew1|refine below_set ?_ GE126.out)|exact HB.out))):w.heap.size≤gb127));have n4_:=Aside0.mk ((by rw [hg];exact (below_size (by repeat (first|(with_reducible first|exact HB.out|apply below_alloc|apply pw_below_drewN|apply below_drew1|refine below_set ?_ GE126.out)|exact HB.out))):w.heap.size≤gb127));have n5_:=Aside0.mk ((by rw [hg];exact Nat.ne_of_lt (blk_lt (g:=gb126) (o:=.cells #[.int .i64 a0_0,.int .i64 a0_1] 88 (0,0)) (by (with_reducible repeat (first|refine blk_drewN ?_ _|refine blk_drew ?_|refine blk_alloc ?_ _));exact BK126.out)):gb126 ≠ gb127));have n6_:=Aside0.mk ((by rw [hg];exact Nat.ne_of_gt (blk_lt (g:=gb126) (o:=.cells #[.int .i64 a0_0,.int .i64 a0_1] 88 (0,0)) (by (with_reducible repeat (first|refine blk_drewN ?_ _|refine blk_drew ?_|refine blk_alloc ?_ _));exact BK126.out)):gb127 ≠ gb126));clear BK126;clear HB;have BK126:=n0_;have HB:=n1_;have BK127:=n2_;have GW127:=n3_;have GE127:=n4_;have NB126_127:=n5_;have NB127_126:=n6_;clear n0_ n1_ n2_ n3_ n4_ n5_ n6_;clear hb hbox hg;have hnb7:=NB126_127.out;have hnc7:=NB127_126.out;have hcz8_0:w6.cell? ⟨gb126,0,none⟩=some (.int .i64 a0_0):=(blk_cell BK126.out 0).trans rfl;have hcz8_1:w6.cell? ⟨gb126,1,none⟩=some (.int .i64 a0_1):=(blk_cell BK126.out 1).trans rfl;have hfz8_0:=blk_frozen BK126.out 0;have hfz8_1:=blk_frozen BK126.out 1;have hcz9_0:w6.cell? ⟨gb127,0,none⟩=some (.int .i64 a1_0):=(blk_cell BK127.out 0).trans rfl;have hcz9_1:w6.cell? ⟨gb127,1,none⟩=some (.int .i64 a1_1):=(blk_cell BK127.out 1).trans rfl;have hfz9_0:=blk_frozen BK127.out 0;have hfz9_1:=blk_frozen BK127.out 1))
   go_ret
   exact ⟨by first|rfl|(simp [errW_none,errW_some] <;> rfl)|(simp [*,errW_none,errW_some] <;> rfl),by repeat (first|(with_reducible first|exact HB.out|apply below_alloc|apply pw_below_drewN|apply below_drew1|refine below_set ?_ GE126.out|refine below_set ?_ GE127.out)|exact HB.out)⟩
  rw [if_neg c4] at H
  have c4b0:(a0_1==a1_1)=false:=beq_eq_false_iff_ne.mpr c4
  have c4b1:(a0_1 != a1_1)=true:=bne_iff_ne.mpr c4
  obtain rfl:=Option.some.inj H
  go_enter Try.func129,Try.ntmps129
  go_wp2_with (first|((with_reducible refine gate_dst (N:=2) rfl ?_);refine box_event ?hg (N:=2) ?hd (cs:=#[.int .i64 a0_0,.int .i64 a0_1]) (t:=88) ?hr ?_;(case hd=>rfl);(case hg=>rfl);(case hr=>first|(go_simp;done)|(go_simp;rfl));intro gb126 hg w10 hbox hb;have n0_:=Aside0.mk (below_step (by repeat (first|(with_reducible first|exact HB.out|apply below_alloc|apply pw_below_drewN|apply below_drew1)|exact HB.out)) hb);have n1_:=Aside0.mk (hbox);have n2_:=Aside0.mk ((by rw [hg];exact (below_size (by repeat (first|(with_reducible first|exact HB.out|apply below_alloc|apply pw_below_drewN|apply below_drew1)|exact HB.out))):w.heap.size≤gb126));have n3_:=Aside0.mk ((by rw [hg];exact (below_size (by repeat (first|(with_reducible first|exact HB.out|apply below_alloc|apply pw_below_drewN|apply below_drew1)|exact HB.out))):w.heap.size≤gb126));clear HB;have HB:=n0_;have BK126:=n1_;have GW126:=n2_;have GE126:=n3_;clear n0_ n1_ n2_ n3_;clear hb hbox hg)|((with_reducible refine gate_dst (N:=3) rfl ?_);refine box_event ?hg (N:=3) ?hd (cs:=#[.int .i64 a1_0,.int .i64 a1_1]) (t:=88) ?hr ?_;(case hd=>rfl);(case hg=>rfl);(case hr=>first|(go_simp;done)|(go_simp;rfl));intro gb127 hg w11 hbox hb;have n0_:=Aside0.mk (blk_below (g:=gb126) (o:=.cells #[.int .i64 a0_0,.int .i64 a0_1] 88 (0,0)) (by (with_reducible repeat (first|refine blk_drewN ?_ _|refine blk_drew ?_|refine blk_alloc ?_ _));exact BK126.out) hb);have n1_:=Aside0.mk (below_step (by repeat (first|(with_reducible first|exact HB.out|apply below_alloc|apply pw_below_drewN|apply below_drew1|refine below_set ?_ GE126.out)|exact HB.out)) hb);have n2_:=Aside0.mk (hbox);have n3_:=Aside0.mk ((by rw [hg];exact (below_size (by repeat (first|(with_reducible first|exact HB.out|apply below_alloc|apply pw_below_drewN|apply below_drew1|refine below_set ?_ GE126.out)|exact HB.out))):w.heap.size≤gb127));have n4_:=Aside0.mk ((by rw [hg];exact (below_size (by repeat (first|(with_reducible first|exact HB.out|apply below_alloc|apply pw_below_drewN|apply below_drew1|refine below_set ?_ GE126.out)|exact HB.out))):w.heap.size≤gb127));have n5_:=Aside0.mk ((by rw [hg];exact Nat.ne_of_lt (blk_lt (g:=gb126) (o:=.cells #[.int .i64 a0_0,.int .i64 a0_1] 88 (0,0)) (by (with_reducible repeat (first|refine blk_drewN ?_ _|refine blk_drew ?_|refine blk_alloc ?_ _));exact BK126.out)):gb126 ≠ gb127));have n6_:=Aside0.mk ((by rw [hg];exact Nat.ne_of_gt (blk_lt (g:=gb126) (o:=.cells #[.int .i64 a0_0,.int .i64 a0_1] 88 (0,0)) (by (with_reducible repeat (first|refine blk_drewN ?_ _|refine blk_drew ?_|refine blk_alloc ?_ _));exact BK126.out)):gb127 ≠ gb126));clear BK126;clear HB;have BK126:=n0_;have HB:=n1_;have BK127:=n2_;have GW127:=n3_;have GE127:=n4_;have NB126_127:=n5_;have NB127_126:=n6_;clear n0_ n1_ n2_ n3_ n4_ n5_ n6_;clear hb hbox hg;have hnb12:=NB126_127.out;have hnc12:=NB127_126.out;have hcz13_0:w11.cell? ⟨gb126,0,none⟩=some (.int .i64 a0_0):=(blk_cell BK126.out 0).trans rfl;have hcz13_1:w11.cell? ⟨gb126,1,none⟩=some (.int .i64 a0_1):=(blk_cell BK126.out 1).trans rfl;have hfz13_0:=blk_frozen BK126.out 0;have hfz13_1:=blk_frozen BK126.out 1;have hcz14_0:w11.cell? ⟨gb127,0,none⟩=some (.int .i64 a1_0):=(blk_cell BK127.out 0).trans rfl;have hcz14_1:w11.cell? ⟨gb127,1,none⟩=some (.int .i64 a1_1):=(blk_cell BK127.out 1).trans rfl;have hfz14_0:=blk_frozen BK127.out 0;have hfz14_1:=blk_frozen BK127.out 1))
  go_ret
  exact ⟨by first|rfl|(simp [errW_none,errW_some] <;> rfl)|(simp [*,errW_none,errW_some] <;> rfl),by repeat (first|(with_reducible first|exact HB.out|apply below_alloc|apply pw_below_drewN|apply below_drew1|refine below_set ?_ GE126.out|refine below_set ?_ GE127.out)|exact HB.out)⟩
 rw [if_neg c3] at H
 have c3b0:(a0_0==a1_0)=false:=beq_eq_false_iff_ne.mpr c3
 have c3b1:(a0_0 != a1_0)=true:=bne_iff_ne.mpr c3
 obtain rfl:=Option.some.inj H
 go_enter Try.func129,Try.ntmps129
 go_wp2_with (first|((with_reducible refine gate_dst (N:=2) rfl ?_);refine box_event ?hg (N:=2) ?hd (cs:=#[.int .i64 a0_0,.int .i64 a0_1]) (t:=88) ?hr ?_;(case hd=>rfl);(case hg=>rfl);(case hr=>first|(go_simp;done)|(go_simp;rfl));intro gb126 hg w15 hbox hb;have n0_:=Aside0.mk (below_step (by repeat (first|(with_reducible first|exact HB.out|apply below_alloc|apply pw_below_drewN|apply below_drew1)|exact HB.out)) hb);have n1_:=Aside0.mk (hbox);have n2_:=Aside0.mk ((by rw [hg];exact (below_size (by repeat (first|(with_reducible first|exact HB.out|apply below_alloc|apply pw_below_drewN|apply below_drew1)|exact HB.out))):w.heap.size≤gb126));have n3_:=Aside0.mk ((by rw [hg];exact (below_size (by repeat (first|(with_reducible first|exact HB.out|apply below_alloc|apply pw_below_drewN|apply below_drew1)|exact HB.out))):w.heap.size≤gb126));clear HB;have HB:=n0_;have BK126:=n1_;have GW126:=n2_;have GE126:=n3_;clear n0_ n1_ n2_ n3_;clear hb hbox hg)|((with_reducible refine gate_dst (N:=3) rfl ?_);refine box_event ?hg (N:=3) ?hd (cs:=#[.int .i64 a1_0,.int .i64 a1_1]) (t:=88) ?hr ?_;(case hd=>rfl);(case hg=>rfl);(case hr=>first|(go_simp;done)|(go_simp;rfl));intro gb127 hg w16 hbox hb;have n0_:=Aside0.mk (blk_below (g:=gb126) (o:=.cells #[.int .i64 a0_0,.int .i64 a0_1] 88 (0,0)) (by (with_reducible repeat (first|refine blk_drewN ?_ _|refine blk_drew ?_|refine blk_alloc ?_ _));exact BK126.out) hb);have n1_:=Aside0.mk (below_step (by repeat (first|(with_reducible first|exact HB.out|apply below_alloc|apply pw_below_drewN|apply below_drew1|refine below_set ?_ GE126.out)|exact HB.out)) hb);have n2_:=Aside0.mk (hbox);have n3_:=Aside0.mk ((by rw [hg];exact (below_size (by repeat (first|(with_reducible first|exact HB.out|apply below_alloc|apply pw_below_drewN|apply below_drew1|refine below_set ?_ GE126.out)|exact HB.out))):w.heap.size≤gb127));have n4_:=Aside0.mk ((by rw [hg];exact (below_size (by repeat (first|(with_reducible first|exact HB.out|apply below_alloc|apply pw_below_drewN|apply below_drew1|refine below_set ?_ GE126.out)|exact HB.out))):w.heap.size≤gb127));have n5_:=Aside0.mk ((by rw [hg];exact Nat.ne_of_lt (blk_lt (g:=gb126) (o:=.cells #[.int .i64 a0_0,.int .i64 a0_1] 88 (0,0)) (by (with_reducible repeat (first|refine blk_drewN ?_ _|refine blk_drew ?_|refine blk_alloc ?_ _));exact BK126.out)):gb126 ≠ gb127));have n6_:=Aside0.mk ((by rw [hg];exact Nat.ne_of_gt (blk_lt (g:=gb126) (o:=.cells #[.int .i64 a0_0,.int .i64 a0_1] 88 (0,0)) (by (with_reducible repeat (first|refine blk_drewN ?_ _|refine blk_drew ?_|refine blk_alloc ?_ _));exact BK126.out)):gb127 ≠ gb126));clear BK126;clear HB;have BK126:=n0_;have HB:=n1_;have BK127:=n2_;have GW127:=n3_;have GE127:=n4_;have NB126_127:=n5_;have NB127_126:=n6_;clear n0_ n1_ n2_ n3_ n4_ n5_ n6_;clear hb hbox hg;have hnb17:=NB126_127.out;have hnc17:=NB127_126.out;have hcz18_0:w16.cell? ⟨gb126,0,none⟩=some (.int .i64 a0_0):=(blk_cell BK126.out 0).trans rfl;have hcz18_1:w16.cell? ⟨gb126,1,none⟩=some (.int .i64 a0_1):=(blk_cell BK126.out 1).trans rfl;have hfz18_0:=blk_frozen BK126.out 0;have hfz18_1:=blk_frozen BK126.out 1;have hcz19_0:w16.cell? ⟨gb127,0,none⟩=some (.int .i64 a1_0):=(blk_cell BK127.out 0).trans rfl;have hcz19_1:w16.cell? ⟨gb127,1,none⟩=some (.int .i64 a1_1):=(blk_cell BK127.out 1).trans rfl;have hfz19_0:=blk_frozen BK127.out 0;have hfz19_1:=blk_frozen BK127.out 1))
 go_ret
 exact ⟨by first|rfl|(simp [errW_none,errW_some] <;> rfl)|(simp [*,errW_none,errW_some] <;> rfl),by repeat (first|(with_reducible first|exact HB.out|apply below_alloc|apply pw_below_drewN|apply below_drew1|refine below_set ?_ GE126.out|refine below_set ?_ GE127.out)|exact HB.out)⟩
end Go.Proofs.Ytpdnabhpkdchjaa.P
namespace Go.Proofs.Ytpdnabhpkdchjaa.P
open Go.RowKit Go.Proofs.YtpdnabhpkdchjaaW.PrintWords Go.Proofs.YtpdnabhpkdchjaaW.PrintLast Go.Proofs.YtpdnabhpkdchjaaW.PrintMore
attribute [local go_sem] max2_int min2_int max_two min_two max_three min_three max_four min_four
set_option linter.unusedVariables false
set_option linter.unusedSimpArgs false
def laws_eqCounterS.l0:Nat→List (S88)→List (S88)→Int→Option (Bool)
 | 0,_,_,_=>none
 | k+1,x0,x1,x5=>if x5<(x0.length:Int) then (if 0≤x5 then (if x5<(x1.length:Int) then ((laws_eqCounter.f ((rd_T88 x0 x5).f0) ((rd_T88 x0 x5).f1) ((rd_T88 x1 x5).f0) ((rd_T88 x1 x5).f1)).bind fun t130=>(if t130=true then (laws_eqCounterS.l0 k x0 x1 (wrap64 (x5+1))) else (some false))) else (none)) else (none)) else (some true)
def laws_eqCounterS.f (k:Nat) (l0:List (S88)) (l1:List (S88)):Option (Bool):=if (l0.length:Int)=(l1.length:Int) then (laws_eqCounterS.l0 k l0 l1 0) else (some false)
def laws_eqCounterS.T6:Bool × List (List Nat × List Nat):=(true,[([],[]),([],[]),([0,1],[0,1]),([2],[2]),([],[]),([],[]),([4,5],[4,5]),([6],[6]),([3,7],[3,7]),([8],[8])])
def laws_eqCounterS.B6:List Nat:=[0,0,3,7,0,0,48,112,255,511]
theorem laws_eqCounterS.tab6:rtab .any (opsOf Try.f90 6)=laws_eqCounterS.T6:=by kernel_rfl
theorem laws_eqCounterS.bits6:waitsOk laws_eqCounterS.T6.2 laws_eqCounterS.B6=true:=by kernel_rfl
set_option maxHeartbeats 8000000 in
set_option maxRecDepth 100000 in
theorem laws_eqCounterS.calls (k:Nat) (A0:Option Addr) (c0:Nat) (l0:List (S88)) (A1:Option Addr) (c1:Nat) (l1:List (S88)) (r:Bool) (w:World) (hr0:Kd.C k88 w A0 l0.length l0) (hc0:l0.length≤c0) (hr1:Kd.C k88 w A1 l1.length l1) (hc1:l1.length≤c1) (h:laws_eqCounterS.f k l0 l1=some r) :
  Calls Try.prog 90 #[.slice A0 l0.length c0,.slice A1 l1.length c1] w fun e w'=>e=.returned (.bool r)∧Below w.heap.size w w':=by
 have hu88:=Try.underlying88
 have HR0:=Aside0.mk hr0
 have HC0:=Aside0.mk hc0
 clear hr0 hc0
 have HR1:=Aside0.mk hr1
 have HC1:=Aside0.mk hc1
 clear hr1 hc1
 have HB:=Aside0.mk (Below.refl w.heap.size w)
 have H:(if (l0.length:Int)=(l1.length:Int) then (laws_eqCounterS.l0 k l0 l1 0) else (some false))=some r:=h
 clear h
 by_cases c3:(l0.length:Int)=(l1.length:Int)
 ·rw [if_pos c3] at H
  have c3b0:((l0.length:Int)==(l1.length:Int))=true:=beq_iff_eq.mpr c3
  have c3b1:((l0.length:Int) != (l1.length:Int))=false:=bne_eq_false_iff_eq.mpr c3
  have c3b2:(l0.length==l1.length)=true:=by first|simpa using c3|(simp at c3 ⊢;omega)
  clear c3
  have H':=Aside0.mk H
  clear H
  go_enter Try.func90,Try.ntmps90
  go_wp2
  go_loopg [5] k (fun kq v5 w'=>∃ (x5_1:Int),v5=.int .i64 x5_1∧Aside0 (laws_eqCounterS.l0 kq l0 l1 x5_1=some r)∧Aside0 (kq≤k)∧Aside0 (Below w.heap.size w w'))
  case atStart=>exact ⟨(0),(by first|rfl|(simp;done)|(simp [*];done)),H',⟨Nat.le_refl _⟩,⟨by exact HB.out⟩⟩
  case round =>
   clear H'
   try clear c1
   try clear p2
   try clear c3
   try clear c3b0
   try clear c3b1
   try clear c3b2
   obtain ⟨x5_1,rfl,HA,HK1,HB⟩:=hrel
   cases gk with
   | zero=>exact absurd HA.out (by simp [laws_eqCounterS.l0])
   | succ k1 =>
    have H:=HA.out
    clear HA
    simp only [laws_eqCounterS.l0] at H
    by_cases c4:x5_1<(l0.length:Int)
    ·rw [if_pos c4] at H
     have c4b0:decide (x5_1<(l0.length:Int))=true:=decide_eq_true c4
     clear c4
     by_cases c5:0≤x5_1
     ·rw [if_pos c5] at H
      have c5b0:decide (0≤x5_1)=true:=decide_eq_true c5
      clear c5
      by_cases c6:x5_1<(l1.length:Int)
      ·rw [if_pos c6] at H
       have c6b0:decide (x5_1<(l1.length:Int))=true:=decide_eq_true c6
       clear c6
       replace H:=Option.bind_eq_some_iff.mp H
       obtain ⟨t130,A70,H⟩:=H
       replace H:(if t130=true then (laws_eqCounterS.l0 k1 l0 l1 (wrap64 (x5_1+1))) else (some false))=some r:=H
       have A7:=Aside0.mk A70
       clear A70
       by_cases c8:t130=true
       ·subst c8
        have H1:(laws_eqCounterS.l0 k1 l0 l1 (wrap64 (x5_1+1)))=some r:=by rw [if_pos rfl] at H;exact H
        clear H
        have H:=H1
        clear H1
        have H':=Aside0.mk H
        clear H
        try go_wp2
        have n0_:=Aside0.mk (below_drew1 HB.out)
        clear HB
        have HB:=n0_
        clear n0_
        have p128:0≤(x5_1:Int):=of_decide_eq_true (by first|(with_reducible assumption)|assumption)
        have q128:x5_1<(l0.length:Int):=of_decide_eq_true (by first|(with_reducible assumption)|assumption)
        obtain ⟨ad128,e128,hx128_0,hx128_1⟩:=at_T88 HR0.out x5_1 p128 q128
        have hw128_1:=hx128_1
        have hw128_0:=hx128_0
        cases e128
        replace hx128_0:=(HB.out.cell (World.block_lt_of_cell? w _ hx128_0)).trans hx128_0
        replace hx128_1:=(HB.out.cell (World.block_lt_of_cell? w _ hx128_1)).trans hx128_1
        replace p128:=eq_true p128
        replace q128:=eq_true q128
        have p129:0≤(x5_1:Int):=of_decide_eq_true (by first|(with_reducible assumption)|assumption)
        have q129:x5_1<(l1.length:Int):=of_decide_eq_true (by first|(with_reducible assumption)|assumption)
        obtain ⟨ad129,e129,hx129_0,hx129_1⟩:=at_T88 HR1.out x5_1 p129 q129
        have hw129_1:=hx129_1
        have hw129_0:=hx129_0
        cases e129
        replace hx129_0:=(HB.out.cell (World.block_lt_of_cell? w _ hx129_0)).trans hx129_0
        replace hx129_1:=(HB.out.cell (World.block_lt_of_cell? w _ hx129_1)).trans hx129_1
        replace p129:=eq_true p129
        replace q129:=eq_true q129
        refine start_ (n:=10) (S:=fun w'=>w'.cell? (ad128.add ((x5_1).toNat * 2))=some (.int .i64 ((rd_T88 l0 x5_1).f0))∧w'.cell? ⟨(ad128.add ((x5_1).toNat * 2)).block,(ad128.add ((x5_1).toNat * 2)).off+1,none⟩=some (.int .i64 ((rd_T88 l0 x5_1).f1))∧w'.cell? (ad129.add ((x5_1).toNat * 2))=some (.int .i64 ((rd_T88 l1 x5_1).f0))∧w'.cell? ⟨(ad129.add ((x5_1).toNat * 2)).block,(ad129.add ((x5_1).toNat * 2)).off+1,none⟩=some (.int .i64 ((rd_T88 l1 x5_1).f1))) (ds:=[]) #[false,false,false,false,false,false,false,false,false,false] (by kernel_rfl) rfl rfl ⟨((HB.out.cell (World.block_lt_of_cell? w _ hw128_0)).trans hw128_0),((HB.out.cell (World.block_lt_of_cell? w _ hw128_1)).trans hw128_1),((HB.out.cell (World.block_lt_of_cell? w _ hw129_0)).trans hw129_0),((HB.out.cell (World.block_lt_of_cell? w _ hw129_1)).trans hw129_1)⟩ (fun hHeld=>?_);refine with_tabW laws_eqCounterS.tab6 laws_eqCounterS.bits6 (fun HT_ HW_=>?_)
        generalize wr.drew=w9 at HB hx128_0 hx128_1 hx129_0 hx129_1 hHeld ⊢
        refine pure_ (i:=0) (N:=some 17) (v:=?_) (a':=?_) #[true,false,false,false,false,false,false,false,false,false] rfl rfl (any_of HT_.out (by kernel_rfl)) (fun _ _ _ h=>h) (Or.inl ⟨by rfl,?_⟩) ?_ ?_
        rotate_left
        ·intro w'
         go_simp
         with_reducible rfl
        rotate_left
        ·simp only [Act.put,List.setIfInBounds_toArray,List.set_cons_zero,List.set_cons_succ,i64_w,i32_w]
         rfl
        refine pure_ (i:=1) (N:=some 18) (v:=?_) (a':=?_) #[true,true,false,false,false,false,false,false,false,false] rfl rfl (any_of HT_.out (by kernel_rfl)) (fun _ _ _ h=>h) (Or.inl ⟨by rfl,?_⟩) ?_ ?_
        rotate_left
        ·intro w'
         go_simp
         with_reducible rfl
        rotate_left
        ·simp only [Act.put,List.setIfInBounds_toArray,List.set_cons_zero,List.set_cons_succ,i64_w,i32_w]
         rfl
        refine pure_ (i:=2) (N:=some 19) (v:=?_) (a':=?_) #[true,true,true,false,false,false,false,false,false,false] rfl rfl (any_of HT_.out (by kernel_rfl)) (fun _ _ _ h=>h) (Or.inl ⟨by rfl,?_⟩) ?_ ?_
        rotate_left
        ·intro w'
         go_simp
         with_reducible rfl
        rotate_left
        ·simp only [Act.put,List.setIfInBounds_toArray,List.set_cons_zero,List.set_cons_succ,i64_w,i32_w]
         rfl
        refine pure_ (i:=4) (N:=some 21) (v:=?_) (a':=?_) #[true,true,true,false,true,false,false,false,false,false] rfl rfl (any_of HT_.out (by kernel_rfl)) (fun _ _ _ h=>h) (Or.inl ⟨by rfl,?_⟩) ?_ ?_
        rotate_left
        ·intro w'
         go_simp
         with_reducible rfl
        rotate_left
        ·simp only [Act.put,List.setIfInBounds_toArray,List.set_cons_zero,List.set_cons_succ,i64_w,i32_w]
         rfl
        refine pure_ (i:=5) (N:=some 22) (v:=?_) (a':=?_) #[true,true,true,false,true,true,false,false,false,false] rfl rfl (any_of HT_.out (by kernel_rfl)) (fun _ _ _ h=>h) (Or.inl ⟨by rfl,?_⟩) ?_ ?_
        rotate_left
        ·intro w'
         go_simp
         with_reducible rfl
        rotate_left
        ·simp only [Act.put,List.setIfInBounds_toArray,List.set_cons_zero,List.set_cons_succ,i64_w,i32_w]
         rfl
        refine pure_ (i:=6) (N:=some 23) (v:=?_) (a':=?_) #[true,true,true,false,true,true,true,false,false,false] rfl rfl (any_of HT_.out (by kernel_rfl)) (fun _ _ _ h=>h) (Or.inl ⟨by rfl,?_⟩) ?_ ?_
        rotate_left
        ·intro w'
         go_simp
         with_reducible rfl
        rotate_left
        ·simp only [Act.put,List.setIfInBounds_toArray,List.set_cons_zero,List.set_cons_succ,i64_w,i32_w]
         rfl
        refine take_ (i:=3) (N:=some 20) (v:=?_) (a':=?_) #[true,true,true,true,true,true,true,false,false,false] rfl rfl (take_ofW HT_.out HW_.out (by kernel_rfl)) (fun _ _ _ h=>h) (Or.inl ⟨by rfl,?_⟩) hHeld ?_ ?_
        rotate_left
        ·rintro w' ⟨s0,s1,s2,s3⟩
         go_simp
         with_reducible rfl
        rotate_left
        ·simp only [Act.put,List.setIfInBounds_toArray,List.set_cons_zero,List.set_cons_succ,i64_w,i32_w]
         rfl
        refine take_ (i:=7) (N:=some 24) (v:=?_) (a':=?_) #[true,true,true,true,true,true,true,true,false,false] rfl rfl (take_ofW HT_.out HW_.out (by kernel_rfl)) (fun _ _ _ h=>h) (Or.inl ⟨by rfl,?_⟩) hHeld ?_ ?_
        rotate_left
        ·rintro w' ⟨s0,s1,s2,s3⟩
         go_simp
         with_reducible rfl
        rotate_left
        ·simp only [Act.put,List.setIfInBounds_toArray,List.set_cons_zero,List.set_cons_succ,i64_w,i32_w]
         rfl
        refine one_ (i:=8) (N:=some 25) #[true,true,true,true,true,true,true,true,true,false] rfl rfl (one_of HT_.out (by kernel_rfl)) (by decide) (fun K hK=>?_)
        refine goes_ Try.func129 (by kernel_rfl) rfl #[.agg #[.int .i64 ((rd_T88 l0 x5_1).f0),.int .i64 ((rd_T88 l0 x5_1).f1)],.agg #[.int .i64 ((rd_T88 l1 x5_1).f0),.int .i64 ((rd_T88 l1 x5_1).f1)]] (by rfl) rfl rfl (by (try simp only [List.map_toArray,List.map_cons,List.map_nil]);first|done|rfl|(simp only [List.length_drop,List.length_take];rfl)) ?_
        with_reducible refine (laws_eqCounter.calls ((rd_T88 l0 x5_1).f0) ((rd_T88 l0 x5_1).f1) ((rd_T88 l1 x5_1).f0) ((rd_T88 l1 x5_1).f1) true _ A7.out).mono ?_
        rintro e w10 ⟨rfl,hb⟩
        refine ⟨_,rfl,?_⟩
        have n0_:=Aside0.mk (below_step (by exact HB.out) hb)
        clear HB
        have HB:=n0_
        clear n0_
        (try clear hb)
        (try clear hb2)
        (try clear hk)
        (try clear hi)
        refine hK.out _ _ ⟨((HB.out.cell (World.block_lt_of_cell? w _ hw128_0)).trans hw128_0),((HB.out.cell (World.block_lt_of_cell? w _ hw128_1)).trans hw128_1),((HB.out.cell (World.block_lt_of_cell? w _ hw129_0)).trans hw129_0),((HB.out.cell (World.block_lt_of_cell? w _ hw129_1)).trans hw129_1)⟩ (fun hHeld=>?_)
        clear hK K
        refine norm_ (a':=?_) ?_ ?_
        rotate_left
        ·show Act.put _ (some 25) _=_
         simp only [Act.put,List.setIfInBounds_toArray,List.set_cons_zero,List.set_cons_succ,i64_w,i32_w]
         rfl
        refine pure_ (i:=9) (N:=some 26) (v:=?_) (a':=?_) #[true,true,true,true,true,true,true,true,true,true] rfl rfl (any_of HT_.out (by kernel_rfl)) (fun _ _ _ h=>h) (Or.inl ⟨by rfl,?_⟩) ?_ ?_
        rotate_left
        ·intro w'
         go_simp
         with_reducible rfl
        rotate_left
        ·simp only [Act.put,List.setIfInBounds_toArray,List.set_cons_zero,List.set_cons_succ,i64_w,i32_w]
         rfl
        refine done_ (done_of HT_.out (by kernel_rfl)) ?_
        try go_wp2
        go_roundg k1
        case measure=>have:=HK1.out;omega
        case rel=>exact ⟨(wrap64 (x5_1+1)),(by first|rfl|(simp;done)|(simp [*];done)),H',⟨by have:=HK1.out;omega⟩,⟨by exact HB.out⟩⟩
       replace c8:=Bool.eq_false_iff.mpr c8
       subst c8
       have H1:(some false)=some r:=by rw [if_neg (show ¬ (false=true) by decide)] at H;exact H
       clear H
       have H:=H1
       clear H1
       obtain rfl:=Option.some.inj H
       try go_wp2
       have n0_:=Aside0.mk (below_drew1 HB.out)
       clear HB
       have HB:=n0_
       clear n0_
       have p128:0≤(x5_1:Int):=of_decide_eq_true (by first|(with_reducible assumption)|assumption)
       have q128:x5_1<(l0.length:Int):=of_decide_eq_true (by first|(with_reducible assumption)|assumption)
       obtain ⟨ad128,e128,hx128_0,hx128_1⟩:=at_T88 HR0.out x5_1 p128 q128
       have hw128_1:=hx128_1
       have hw128_0:=hx128_0
       cases e128
       replace hx128_0:=(HB.out.cell (World.block_lt_of_cell? w _ hx128_0)).trans hx128_0
       replace hx128_1:=(HB.out.cell (World.block_lt_of_cell? w _ hx128_1)).trans hx128_1
       replace p128:=eq_true p128
       replace q128:=eq_true q128
       have p129:0≤(x5_1:Int):=of_decide_eq_true (by first|(with_reducible assumption)|assumption)
       have q129:x5_1<(l1.length:Int):=of_decide_eq_true (by first|(with_reducible assumption)|assumption)
       obtain ⟨ad129,e129,hx129_0,hx129_1⟩:=at_T88 HR1.out x5_1 p129 q129
       have hw129_1:=hx129_1
       have hw129_0:=hx129_0
       cases e129
       replace hx129_0:=(HB.out.cell (World.block_lt_of_cell? w _ hx129_0)).trans hx129_0
       replace hx129_1:=(HB.out.cell (World.block_lt_of_cell? w _ hx129_1)).trans hx129_1
       replace p129:=eq_true p129
       replace q129:=eq_true q129
       refine start_ (n:=10) (S:=fun w'=>w'.cell? (ad128.add ((x5_1).toNat * 2))=some (.int .i64 ((rd_T88 l0 x5_1).f0))∧w'.cell? ⟨(ad128.add ((x5_1).toNat * 2)).block,(ad128.add ((x5_1).toNat * 2)).off+1,none⟩=some (.int .i64 ((rd_T88 l0 x5_1).f1))∧w'.cell? (ad129.add ((x5_1).toNat * 2))=some (.int .i64 ((rd_T88 l1 x5_1).f0))∧w'.cell? ⟨(ad129.add ((x5_1).toNat * 2)).block,(ad129.add ((x5_1).toNat * 2)).off+1,none⟩=some (.int .i64 ((rd_T88 l1 x5_1).f1))) (ds:=[]) #[false,false,false,false,false,false,false,false,false,false] (by kernel_rfl) rfl rfl ⟨((HB.out.cell (World.block_lt_of_cell? w _ hw128_0)).trans hw128_0),((HB.out.cell (World.block_lt_of_cell? w _ hw128_1)).trans hw128_1),((HB.out.cell (World.block_lt_of_cell? w _ hw129_0)).trans hw129_0),((HB.out.cell (World.block_lt_of_cell? w _ hw129_1)).trans hw129_1)⟩ (fun hHeld=>?_);refine with_tabW laws_eqCounterS.tab6 laws_eqCounterS.bits6 (fun HT_ HW_=>?_)
       generalize wr.drew=w11 at HB hx128_0 hx128_1 hx129_0 hx129_1 hHeld ⊢
       refine pure_ (i:=0) (N:=some 17) (v:=?_) (a':=?_) #[true,false,false,false,false,false,false,false,false,false] rfl rfl (any_of HT_.out (by kernel_rfl)) (fun _ _ _ h=>h) (Or.inl ⟨by rfl,?_⟩) ?_ ?_
       rotate_left
       ·intro w'
        go_simp
        with_reducible rfl
       rotate_left
       ·simp only [Act.put,List.setIfInBounds_toArray,List.set_cons_zero,List.set_cons_succ,i64_w,i32_w]
        rfl
       refine pure_ (i:=1) (N:=some 18) (v:=?_) (a':=?_) #[true,true,false,false,false,false,false,false,false,false] rfl rfl (any_of HT_.out (by kernel_rfl)) (fun _ _ _ h=>h) (Or.inl ⟨by rfl,?_⟩) ?_ ?_
       rotate_left
       ·intro w'
        go_simp
        with_reducible rfl
       rotate_left
       ·simp only [Act.put,List.setIfInBounds_toArray,List.set_cons_zero,List.set_cons_succ,i64_w,i32_w]
        rfl
       refine pure_ (i:=2) (N:=some 19) (v:=?_) (a':=?_) #[true,true,true,false,false,false,false,false,false,false] rfl rfl (any_of HT_.out (by kernel_rfl)) (fun _ _ _ h=>h) (Or.inl ⟨by rfl,?_⟩) ?_ ?_
       rotate_left
       ·intro w'
        go_simp
        with_reducible rfl
       rotate_left
       ·simp only [Act.put,List.setIfInBounds_toArray,List.set_cons_zero,List.set_cons_succ,i64_w,i32_w]
        rfl
       refine pure_ (i:=4) (N:=some 21) (v:=?_) (a':=?_) #[true,true,true,false,true,false,false,false,false,false] rfl rfl (any_of HT_.out (by kernel_rfl)) (fun _ _ _ h=>h) (Or.inl ⟨by rfl,?_⟩) ?_ ?_
       rotate_left
       ·intro w'
        go_simp
        with_reducible rfl
       rotate_left
       ·simp only [Act.put,List.setIfInBounds_toArray,List.set_cons_zero,List.set_cons_succ,i64_w,i32_w]
        rfl
       refine pure_ (i:=5) (N:=some 22) (v:=?_) (a':=?_) #[true,true,true,false,true,true,false,false,false,false] rfl rfl (any_of HT_.out (by kernel_rfl)) (fun _ _ _ h=>h) (Or.inl ⟨by rfl,?_⟩) ?_ ?_
       rotate_left
       ·intro w'
        go_simp
        with_reducible rfl
       rotate_left
       ·simp only [Act.put,List.setIfInBounds_toArray,List.set_cons_zero,List.set_cons_succ,i64_w,i32_w]
        rfl
       refine pure_ (i:=6) (N:=some 23) (v:=?_) (a':=?_) #[true,true,true,false,true,true,true,false,false,false] rfl rfl (any_of HT_.out (by kernel_rfl)) (fun _ _ _ h=>h) (Or.inl ⟨by rfl,?_⟩) ?_ ?_
       rotate_left
       ·intro w'
        go_simp
        with_reducible rfl
       rotate_left
       ·simp only [Act.put,List.setIfInBounds_toArray,List.set_cons_zero,List.set_cons_succ,i64_w,i32_w]
        rfl
       refine take_ (i:=3) (N:=some 20) (v:=?_) (a':=?_) #[true,true,true,true,true,true,true,false,false,false] rfl rfl (take_ofW HT_.out HW_.out (by kernel_rfl)) (fun _ _ _ h=>h) (Or.inl ⟨by rfl,?_⟩) hHeld ?_ ?_
       rotate_left
       ·rintro w' ⟨s0,s1,s2,s3⟩
        go_simp
        with_reducible rfl
       rotate_left
       ·simp only [Act.put,List.setIfInBounds_toArray,List.set_cons_zero,List.set_cons_succ,i64_w,i32_w]
        rfl
       refine take_ (i:=7) (N:=some 24) (v:=?_) (a':=?_) #[true,true,true,true,true,true,true,true,false,false] rfl rfl (take_ofW HT_.out HW_.out (by kernel_rfl)) (fun _ _ _ h=>h) (Or.inl ⟨by rfl,?_⟩) hHeld ?_ ?_
       rotate_left
       ·rintro w' ⟨s0,s1,s2,s3⟩
        go_simp
        with_reducible rfl
       rotate_left
       ·simp only [Act.put,List.setIfInBounds_toArray,List.set_cons_zero,List.set_cons_succ,i64_w,i32_w]
        rfl
       refine one_ (i:=8) (N:=some 25) #[true,true,true,true,true,true,true,true,true,false] rfl rfl (one_of HT_.out (by kernel_rfl)) (by decide) (fun K hK=>?_)
       refine goes_ Try.func129 (by kernel_rfl) rfl #[.agg #[.int .i64 ((rd_T88 l0 x5_1).f0),.int .i64 ((rd_T88 l0 x5_1).f1)],.agg #[.int .i64 ((rd_T88 l1 x5_1).f0),.int .i64 ((rd_T88 l1 x5_1).f1)]] (by rfl) rfl rfl (by (try simp only [List.map_toArray,List.map_cons,List.map_nil]);first|done|rfl|(simp only [List.length_drop,List.length_take];rfl)) ?_
       with_reducible refine (laws_eqCounter.calls ((rd_T88 l0 x5_1).f0) ((rd_T88 l0 x5_1).f1) ((rd_T88 l1 x5_1).f0) ((rd_T88 l1 x5_1).f1) false _ A7.out).mono ?_
       rintro e w12 ⟨rfl,hb⟩
       refine ⟨_,rfl,?_⟩
       have n0_:=Aside0.mk (below_step (by exact HB.out) hb)
       clear HB
       have HB:=n0_
       clear n0_
       (try clear hb)
       (try clear hb2)
       (try clear hk)
       (try clear hi)
       refine hK.out _ _ ⟨((HB.out.cell (World.block_lt_of_cell? w _ hw128_0)).trans hw128_0),((HB.out.cell (World.block_lt_of_cell? w _ hw128_1)).trans hw128_1),((HB.out.cell (World.block_lt_of_cell? w _ hw129_0)).trans hw129_0),((HB.out.cell (World.block_lt_of_cell? w _ hw129_1)).trans hw129_1)⟩ (fun hHeld=>?_)
       clear hK K
       refine norm_ (a':=?_) ?_ ?_
       rotate_left
       ·show Act.put _ (some 25) _=_
        simp only [Act.put,List.setIfInBounds_toArray,List.set_cons_zero,List.set_cons_succ,i64_w,i32_w]
        rfl
       refine pure_ (i:=9) (N:=some 26) (v:=?_) (a':=?_) #[true,true,true,true,true,true,true,true,true,true] rfl rfl (any_of HT_.out (by kernel_rfl)) (fun _ _ _ h=>h) (Or.inl ⟨by rfl,?_⟩) ?_ ?_
       rotate_left
       ·intro w'
        go_simp
        with_reducible rfl
       rotate_left
       ·simp only [Act.put,List.setIfInBounds_toArray,List.set_cons_zero,List.set_cons_succ,i64_w,i32_w]
        rfl
       refine done_ (done_of HT_.out (by kernel_rfl)) ?_
       try go_wp2
       go_ret
       exact ⟨by first|rfl|(simp [errW_none,errW_some] <;> rfl)|(simp [*,errW_none,errW_some] <;> rfl),by exact HB.out⟩
      rw [if_neg c6] at H
      exact absurd H (by simp)
     rw [if_neg c5] at H
     exact absurd H (by simp)
    rw [if_neg c4] at H
    have c4b0:decide (x5_1<(l0.length:Int))=false:=decide_eq_false c4
    clear c4
    obtain rfl:=Option.some.inj H
    go_wp2
    go_ret
    exact ⟨by first|rfl|(simp [errW_none,errW_some] <;> rfl)|(simp [*,errW_none,errW_some] <;> rfl),by exact HB.out⟩
 rw [if_neg c3] at H
 have c3b0:((l0.length:Int)==(l1.length:Int))=false:=beq_eq_false_iff_ne.mpr c3
 have c3b1:((l0.length:Int) != (l1.length:Int))=true:=bne_iff_ne.mpr c3
 have c3b2:(l0.length==l1.length)=false:=by first|simpa using c3|(simp at c3 ⊢;omega)
 obtain rfl:=Option.some.inj H
 go_enter Try.func90,Try.ntmps90
 go_wp2
 go_ret
 exact ⟨by first|rfl|(simp [errW_none,errW_some] <;> rfl)|(simp [*,errW_none,errW_some] <;> rfl),by exact HB.out⟩
end Go.Proofs.Ytpdnabhpkdchjaa.P
namespace Go.Proofs.Ytpdnabhpkdchjaa.P
open Go.RowKit Go.Proofs.YtpdnabhpkdchjaaW.PrintWords Go.Proofs.YtpdnabhpkdchjaaW.PrintLast Go.Proofs.YtpdnabhpkdchjaaW.PrintMore
attribute [local go_sem] max2_int min2_int max_two min_two max_three min_three max_four min_four
set_option linter.unusedVariables false
set_option linter.unusedSimpArgs false
def laws_eqLayout.f (k:Nat) (a0_0:Int) (l0_1:List (S88)) (a1_0:Int) (l1_1:List (S88)):Option (Bool):=if a0_0=a1_0 then ((laws_eqCounterS.f k l0_1 l1_1).bind fun t133=>(if t133=true then (some true) else (some false))) else (some false)
set_option maxHeartbeats 8000000 in
set_option maxRecDepth 100000 in
theorem laws_eqLayout.calls (k:Nat) (a0_0:Int) (A0_1:Option Addr) (c0_1:Nat) (l0_1:List (S88)) (a1_0:Int) (A1_1:Option Addr) (c1_1:Nat) (l1_1:List (S88)) (r:Bool) (w:World) (hr0_1:Kd.C k88 w A0_1 l0_1.length l0_1) (hc0_1:l0_1.length≤c0_1) (hr1_1:Kd.C k88 w A1_1 l1_1.length l1_1) (hc1_1:l1_1.length≤c1_1) (h:laws_eqLayout.f k a0_0 l0_1 a1_0 l1_1=some r) :
  Calls Try.prog 26 #[.agg #[.int .i64 a0_0,.slice A0_1 l0_1.length c0_1],.agg #[.int .i64 a1_0,.slice A1_1 l1_1.length c1_1]] w fun e w'=>e=.returned (.bool r)∧Below w.heap.size w w':=by
 have hu30:=Try.underlying30
 have HR0_1:=Aside0.mk hr0_1
 have HC0_1:=Aside0.mk hc0_1
 clear hr0_1 hc0_1
 have HR1_1:=Aside0.mk hr1_1
 have HC1_1:=Aside0.mk hc1_1
 clear hr1_1 hc1_1
 have HB:=Aside0.mk (Below.refl w.heap.size w)
 have H:(if a0_0=a1_0 then ((laws_eqCounterS.f k l0_1 l1_1).bind fun t133=>(if t133=true then (some true) else (some false))) else (some false))=some r:=h
 clear h
 by_cases c3:a0_0=a1_0
 ·rw [if_pos c3] at H
  have c3b0:(a0_0==a1_0)=true:=beq_iff_eq.mpr c3
  have c3b1:(a0_0 != a1_0)=false:=bne_eq_false_iff_eq.mpr c3
  clear c3
  replace H:=Option.bind_eq_some_iff.mp H
  obtain ⟨t133,A40,H⟩:=H
  replace H:(if t133=true then (some true) else (some false))=some r:=H
  have A4:=Aside0.mk A40
  clear A40
  by_cases c5:t133=true
  ·subst c5
   have H1:(some true)=some r:=by rw [if_pos rfl] at H;exact H
   clear H
   have H:=H1
   clear H1
   obtain rfl:=Option.some.inj H
   go_enter Try.func26,Try.ntmps26
   go_wp2_with (first|((with_reducible refine gate_dst (N:=2) rfl ?_);refine box_event ?hg (N:=2) ?hd (cs:=#[.int .i64 a0_0,.slice A0_1 l0_1.length c0_1]) (t:=30) ?hr ?_;(case hd=>rfl);(case hg=>rfl);(case hr=>first|(go_simp;done)|(go_simp;rfl));intro gb131 hg w6 hbox hb;have n0_:=Aside0.mk (below_step (by exact HB.out) hb);have n1_:=Aside0.mk (hbox);have n2_:=Aside0.mk ((by rw [hg];exact (below_size (by exact HB.out)):w.heap.size≤gb131));have n3_:=Aside0.mk ((by rw [hg];exact (below_size (by exact HB.out)):w.heap.size≤gb131));clear HB;have HB:=n0_;have BK131:=n1_;have GW131:=n2_;have GE131:=n3_;clear n0_ n1_ n2_ n3_;clear hb hbox hg)|((with_reducible refine gate_dst (N:=3) rfl ?_);refine box_event ?hg (N:=3) ?hd (cs:=#[.int .i64 a1_0,.slice A1_1 l1_1.length c1_1]) (t:=30) ?hr ?_;(case hd=>rfl);(case hg=>rfl);(case hr=>first|(go_simp;done)|(go_simp;rfl));intro gb132 hg w7 hbox hb;have n0_:=Aside0.mk (blk_below (g:=gb131) (o:=.cells #[.int .i64 a0_0,.slice A0_1 l0_1.length c0_1] 30 (0,0)) (by exact BK131.out) hb);have n1_:=Aside0.mk (below_step (by exact HB.out) hb);have n2_:=Aside0.mk (hbox);have n3_:=Aside0.mk ((by rw [hg];exact (below_size (by exact HB.out)):w.heap.size≤gb132));have n4_:=Aside0.mk ((by rw [hg];exact (below_size (by exact HB.out)):w.heap.size≤gb132));have n5_:=Aside0.mk ((by rw [hg];exact Nat.ne_of_lt (blk_lt (g:=gb131) (o:=.cells #[.int .i64 a0_0,.slice A0_1 l0_1.length c0_1] 30 (0,0)) (by exact BK131.out)):gb131 ≠ gb132));have n6_:=Aside0.mk ((by rw [hg];exact Nat.ne_of_gt (blk_lt (g:=gb131) (o:=.cells #[.int .i64 a0_0,.slice A0_1 l0_1.length c0_1] 30 (0,0)) (by exact BK131.out)):gb132 ≠ gb131));clear BK131;clear HB;have BK131:=n0_;have HB:=n1_;have BK132:=n2_;have GW132:=n3_;have GE132:=n4_;have NB131_132:=n5_;have NB132_131:=n6_;clear n0_ n1_ n2_ n3_ n4_ n5_ n6_;clear hb hbox hg;have hnb8:=NB131_132.out;have hnc8:=NB132_131.out;have hcz9_0:w7.cell? ⟨gb131,0,none⟩=some (.int .i64 a0_0):=(blk_cell BK131.out 0).trans rfl;have hcz9_1:w7.cell? ⟨gb131,1,none⟩=some (.slice A0_1 l0_1.length c0_1):=(blk_cell BK131.out 1).trans rfl;have hfz9_0:=blk_frozen BK131.out 0;have hfz9_1:=blk_frozen BK131.out 1;have hcz10_0:w7.cell? ⟨gb132,0,none⟩=some (.int .i64 a1_0):=(blk_cell BK132.out 0).trans rfl;have hcz10_1:w7.cell? ⟨gb132,1,none⟩=some (.slice A1_1 l1_1.length c1_1):=(blk_cell BK132.out 1).trans rfl;have hfz10_0:=blk_frozen BK132.out 0;have hfz10_1:=blk_frozen BK132.out 1)|((with_reducible refine gate_callee (f:=90) rfl ?_);refine goesL_ (some 14) rfl rfl Try.func90 (by kernel_rfl) rfl #[.slice A0_1 l0_1.length c0_1,.slice A1_1 l1_1.length c1_1] rfl (by (try simp only [List.map_toArray,List.map_cons,List.map_nil]);first|done|rfl|(simp only [List.length_drop,List.length_take];rfl)) ?_;(with_reducible refine (laws_eqCounterS.calls k _ _ l0_1 _ _ l1_1 true _ ?side1 ?side2 ?side3 ?side4 A4.out).mono ?_);(case side1=>repeat (first|exact (Kd.C_below HR0_1.out HB.out)|(with_reducible refine Kd.C_alloc ?_ _)|(with_reducible refine Kd.C_drewN ?_ _)|(with_reducible refine Kd.C_drew ?_)));(case side2=>exact HC0_1.out);(case side3=>repeat (first|exact (Kd.C_below HR1_1.out HB.out)|(with_reducible refine Kd.C_alloc ?_ _)|(with_reducible refine Kd.C_drewN ?_ _)|(with_reducible refine Kd.C_drew ?_)));(case side4=>exact HC1_1.out);rintro e w11 ⟨rfl,hb⟩;refine ⟨_,rfl,?_⟩;have n0_:=Aside0.mk (blk_below (g:=gb131) (o:=.cells #[.int .i64 a0_0,.slice A0_1 l0_1.length c0_1] 30 (0,0)) (by exact BK131.out) hb);have n1_:=Aside0.mk (blk_below (g:=gb132) (o:=.cells #[.int .i64 a1_0,.slice A1_1 l1_1.length c1_1] 30 (0,0)) (by exact BK132.out) hb);have n2_:=Aside0.mk (below_step (by exact HB.out) hb);clear BK131;clear BK132;clear HB;have BK131:=n0_;have BK132:=n1_;have HB:=n2_;clear n0_ n1_ n2_;(try clear hb);(try clear hb2);(try clear hk);(try clear hi)))
   go_ret
   exact ⟨by first|rfl|(simp [errW_none,errW_some] <;> rfl)|(simp [*,errW_none,errW_some] <;> rfl),by exact HB.out⟩
  replace c5:=Bool.eq_false_iff.mpr c5
  subst c5
  have H1:(some false)=some r:=by rw [if_neg (show ¬ (false=true) by decide)] at H;exact H
  clear H
  have H:=H1
  clear H1
  obtain rfl:=Option.some.inj H
  go_enter Try.func26,Try.ntmps26
  go_wp2_with (first|((with_reducible refine gate_dst (N:=2) rfl ?_);refine box_event ?hg (N:=2) ?hd (cs:=#[.int .i64 a0_0,.slice A0_1 l0_1.length c0_1]) (t:=30) ?hr ?_;(case hd=>rfl);(case hg=>rfl);(case hr=>first|(go_simp;done)|(go_simp;rfl));intro gb131 hg w12 hbox hb;have n0_:=Aside0.mk (below_step (by exact HB.out) hb);have n1_:=Aside0.mk (hbox);have n2_:=Aside0.mk ((by rw [hg];exact (below_size (by exact HB.out)):w.heap.size≤gb131));have n3_:=Aside0.mk ((by rw [hg];exact (below_size (by exact HB.out)):w.heap.size≤gb131));clear HB;have HB:=n0_;have BK131:=n1_;have GW131:=n2_;have GE131:=n3_;clear n0_ n1_ n2_ n3_;clear hb hbox hg)|((with_reducible refine gate_dst (N:=3) rfl ?_);refine box_event ?hg (N:=3) ?hd (cs:=#[.int .i64 a1_0,.slice A1_1 l1_1.length c1_1]) (t:=30) ?hr ?_;(case hd=>rfl);(case hg=>rfl);(case hr=>first|(go_simp;done)|(go_simp;rfl));intro gb132 hg w13 hbox hb;have n0_:=Aside0.mk (blk_below (g:=gb131) (o:=.cells #[.int .i64 a0_0,.slice A0_1 l0_1.length c0_1] 30 (0,0)) (by exact BK131.out) hb);have n1_:=Aside0.mk (below_step (by exact HB.out) hb);have n2_:=Aside0.mk (hbox);have n3_:=Aside0.mk ((by rw [hg];exact (below_size (by exact HB.out)):w.heap.size≤gb132));have n4_:=Aside0.mk ((by rw [hg];exact (below_size (by exact HB.out)):w.heap.size≤gb132));have n5_:=Aside0.mk ((by rw [hg];exact Nat.ne_of_lt (blk_lt (g:=gb131) (o:=.cells #[.int .i64 a0_0,.slice A0_1 l0_1.length c0_1] 30 (0,0)) (by exact BK131.out)):gb131 ≠ gb132));have n6_:=Aside0.mk ((by rw [hg];exact Nat.ne_of_gt (blk_lt (g:=gb131) (o:=.cells #[.int .i64 a0_0,.slice A0_1 l0_1.length c0_1] 30 (0,0)) (by exact BK131.out)):gb132 ≠ gb131));clear BK131;clear HB;have BK131:=n0_;have HB:=n1_;have BK132:=n2_;have GW132:=n3_;have GE132:=n4_;have NB131_132:=n5_;have NB132_131:=n6_;clear n0_ n1_ n2_ n3_ n4_ n5_ n6_;clear hb hbox hg;have hnb14:=NB131_132.out;have hnc14:=NB132_131.out;have hcz15_0:w13.cell? ⟨gb131,0,none⟩=some (.int .i64 a0_0):=(blk_cell BK131.out 0).trans rfl;have hcz15_1:w13.cell? ⟨gb131,1,none⟩=some (.slice A0_1 l0_1.length c0_1):=(blk_cell BK131.out 1).trans rfl;have hfz15_0:=blk_frozen BK131.out 0;have hfz15_1:=blk_frozen BK131.out 1;have hcz16_0:w13.cell? ⟨gb132,0,none⟩=some (.int .i64 a1_0):=(blk_cell BK132.out 0).trans rfl;have hcz16_1:w13.cell? ⟨gb132,1,none⟩=some (.slice A1_1 l1_1.length c1_1):=(blk_cell BK132.out 1).trans rfl;have hfz16_0:=blk_frozen BK132.out 0;have hfz16_1:=blk_frozen BK132.out 1)|((with_reducible refine gate_callee (f:=90) rfl ?_);refine goesL_ (some 14) rfl rfl Try.func90 (by kernel_rfl) rfl #[.slice A0_1 l0_1.length c0_1,.slice A1_1 l1_1.length c1_1] rfl (by (try simp only [List.map_toArray,List.map_cons,List.map_nil]);first|done|rfl|(simp only [List.length_drop,List.length_take];rfl)) ?_;(with_reducible refine (laws_eqCounterS.calls k _ _ l0_1 _ _ l1_1 false _ ?side1 ?side2 ?side3 ?side4 A4.out).mono ?_);(case side1=>repeat (first|exact (Kd.C_below HR0_1.out HB.out)|(with_reducible refine Kd.C_alloc ?_ _)|(with_reducible refine Kd.C_drewN ?_ _)|(with_reducible refine Kd.C_drew ?_)));(case side2=>exact HC0_1.out);(case side3=>repeat (first|exact (Kd.C_below HR1_1.out HB.out)|(with_reducible refine Kd.C_alloc ?_ _)|(with_reducible refine Kd.C_drewN ?_ _)|(with_reducible refine Kd.C_drew ?_)));(case side4=>exact HC1_1.out);rintro e w17 ⟨rfl,hb⟩;refine ⟨_,rfl,?_⟩;have n0_:=Aside0.mk (blk_below (g:=gb131) (o:=.cells #[.int .i64 a0_0,.slice A0_1 l0_1.length c0_1] 30 (0,0)) (by exact BK131.out) hb);have n1_:=Aside0.mk (blk_below (g:=gb132) (o:=.cells #[.int .i64 a1_0,.slice A1_1 l1_1.length c1_1] 30 (0,0)) (by exact BK132.out) hb);have n2_:=Aside0.mk (below_step (by exact HB.out) hb);clear BK131;clear BK132;clear HB;have BK131:=n0_;have BK132:=n1_;have HB:=n2_;clear n0_ n1_ n2_;(try clear hb);(try clear hb2);(try clear hk);(try clear hi)))
  go_ret
  exact ⟨by first|rfl|(simp [errW_none,errW_some] <;> rfl)|(simp [*,errW_none,errW_some] <;> rfl),by exact HB.out⟩
 rw [if_neg c3] at H
 have c3b0:(a0_0==a1_0)=false:=beq_eq_false_iff_ne.mpr c3
 have c3b1:(a0_0 != a1_0)=true:=bne_iff_ne.mpr c3
 obtain rfl:=Option.some.inj H
 go_enter Try.func26,Try.ntmps26
 go_wp2_with (first|((with_reducible refine gate_dst (N:=2) rfl ?_);refine box_event ?hg (N:=2) ?hd (cs:=#[.int .i64 a0_0,.slice A0_1 l0_1.length c0_1]) (t:=30) ?hr ?_;(case hd=>rfl);(case hg=>rfl);(case hr=>first|(go_simp;done)|(go_simp;rfl));intro gb131 hg w18 hbox hb;have n0_:=Aside0.mk (below_step (by exact HB.out) hb);have n1_:=Aside0.mk (hbox);have n2_:=Aside0.mk ((by rw [hg];exact (below_size (by exact HB.out)):w.heap.size≤gb131));have n3_:=Aside0.mk ((by rw [hg];exact (below_size (by exact HB.out)):w.heap.size≤gb131));clear HB;have HB:=n0_;have BK131:=n1_;have GW131:=n2_;have GE131:=n3_;clear n0_ n1_ n2_ n3_;clear hb hbox hg)|((with_reducible refine gate_dst (N:=3) rfl ?_);refine box_event ?hg (N:=3) ?hd (cs:=#[.int .i64 a1_0,.slice A1_1 l1_1.length c1_1]) (t:=30) ?hr ?_;(case hd=>rfl);(case hg=>rfl);(case hr=>first|(go_simp;done)|(go_simp;rfl));intro gb132 hg w19 hbox hb;have n0_:=Aside0.mk (blk_below (g:=gb131) (o:=.cells #[.int .i64 a0_0,.slice A0_1 l0_1.length c0_1] 30 (0,0)) (by exact BK131.out) hb);have n1_:=Aside0.mk (below_step (by exact HB.out) hb);have n2_:=Aside0.mk (hbox);have n3_:=Aside0.mk ((by rw [hg];exact (below_size (by exact HB.out)):w.heap.size≤gb132));have n4_:=Aside0.mk ((by rw [hg];exact (below_size (by exact HB.out)):w.heap.size≤gb132));have n5_:=Aside0.mk ((by rw [hg];exact Nat.ne_of_lt (blk_lt (g:=gb131) (o:=.cells #[.int .i64 a0_0,.slice A0_1 l0_1.length c0_1] 30 (0,0)) (by exact BK131.out)):gb131 ≠ gb132));have n6_:=Aside0.mk ((by rw [hg];exact Nat.ne_of_gt (blk_lt (g:=gb131) (o:=.cells #[.int .i64 a0_0,.slice A0_1 l0_1.length c0_1] 30 (0,0)) (by exact BK131.out)):gb132 ≠ gb131));clear BK131;clear HB;have BK131:=n0_;have HB:=n1_;have BK132:=n2_;have GW132:=n3_;have GE132:=n4_;have NB131_132:=n5_;have NB132_131:=n6_;clear n0_ n1_ n2_ n3_ n4_ n5_ n6_;clear hb hbox hg;have hnb20:=NB131_132.out;have hnc20:=NB132_131.out;have hcz21_0:w19.cell? ⟨gb131,0,none⟩=some (.int .i64 a0_0):=(blk_cell BK131.out 0).trans rfl;have hcz21_1:w19.cell? ⟨gb131,1,none⟩=some (.slice A0_1 l0_1.length c0_1):=(blk_cell BK131.out 1).trans rfl;have hfz21_0:=blk_frozen BK131.out 0;have hfz21_1:=blk_frozen BK131.out 1;have hcz22_0:w19.cell? ⟨gb132,0,none⟩=some (.int .i64 a1_0):=(blk_cell BK132.out 0).trans rfl;have hcz22_1:w19.cell? ⟨gb132,1,none⟩=some (.slice A1_1 l1_1.length c1_1):=(blk_cell BK132.out 1).trans rfl;have hfz22_0:=blk_frozen BK132.out 0;have hfz22_1:=blk_frozen BK132.out 1))
 go_ret
 exact ⟨by first|rfl|(simp [errW_none,errW_some] <;> rfl)|(simp [*,errW_none,errW_some] <;> rfl),by exact HB.out⟩
end Go.Proofs.Ytpdnabhpkdchjaa.P
namespace Go.Proofs.Ytpdnabhpkdchjaa.P
open Go.RowKit Go.Proofs.YtpdnabhpkdchjaaW.PrintWords Go.Proofs.YtpdnabhpkdchjaaW.PrintLast
set_option linter.unusedVariables false
set_option linter.unusedSimpArgs false
theorem wrap_id {x : Int} (h0 : -9223372036854775808 ≤ x) (h1 : x ≤ 9223372036854775807) : wrap64 x = x := by unfold wrap64; omega
theorem wrap_succ {i : Nat} (h : i < 9223372036854775807) : wrap64 ((i : Int) + 1) = ((i + 1 : Nat) : Int) := by rw [wrap_id (by omega) (by omega)]; omega
theorem Ev.step1 {α : Type} {g : Nat → Option α} {r : α} (h : ∀ k, g (k + 1) = some r) : Ev g r := Ev.step (f := fun _ => some r) h (Ev.now _)
theorem Ev.call {α β : Type} {x : Option α} {a : α} {f : Nat → α → Option β} {r : β} (h : x = some a) (k : Ev (fun n => f n a) r) : Ev (fun n => x.bind (f n)) r := by
  subst h
  exact k
theorem Ev.ite_pos {β : Type} {c : Prop} [Decidable c] {f g : Nat → Option β} {r : β} (h : c) (k : Ev f r) : Ev (fun n => if c then f n else g n) r := by
  simp only [if_pos h]; exact k
theorem Ev.ite_neg {β : Type} {c : Prop} [Decidable c] {f g : Nat → Option β} {r : β} (h : ¬ c) (k : Ev g r) : Ev (fun n => if c then f n else g n) r := by
  simp only [if_neg h]; exact k
theorem szCounterS_eq (l : List S160) (left : Int) (h0 : 0 ≤ left) (h1 : left ≤ 1048576) (hl : l.length ≤ 9223372036854775807) : laws_szCounterS.f l left = some (if left < l.length then -1 else left - l.length) := by
  unfold laws_szCounterS.f
  rw [wrap_id (by omega) (by omega)]
  by_cases h : left < l.length
  · rw [if_pos (by omega), if_pos h]
  · rw [if_neg (by omega), if_neg h]
theorem szLayout_eq (n : Int) (l : List S160) (left : Int) (h0 : 0 ≤ left) (h1 : left ≤ 1048576) (hl : l.length ≤ 9223372036854775807) : laws_szLayout.f n l left = some (if left < l.length then -1 else left - l.length) := by
  unfold laws_szLayout.f
  rw [szCounterS_eq l left h0 h1 hl]
  by_cases h : left < l.length
  · simp [if_pos h]
  · simp only [if_neg h, Option.bind_some]
    rw [if_neg (by omega)]
def cvC (x : S160) : S88 := ⟨x.f0, x.f1⟩
theorem rd160 (l : List S160) (i : Nat) (h : i < l.length) : rd_T160 l (i : Int) = l[i] := by simp [rd_T160, h]
theorem toCounterS_l0 (l : List S160) (hl : l.length ≤ 1048576) (d : Nat) : ∀ (i : Nat), i + d = l.length → Ev (fun k => laws_toCounterS.l0 k l ((l.take i).map cvC ++ List.replicate d z88) i) (l.map cvC) := by
  induction d with
  | zero =>
    intro i hi
    refine Ev.step (f := fun _ => some (l.map cvC)) (fun k => ?_) (Ev.now _)
    simp only [laws_toCounterS.l0]
    rw [if_neg (by omega)]
    rw [List.take_of_length_le (by omega)]
    simp
  | succ d ih =>
    intro i hi
    have hlt : i < l.length := by omega
    refine Ev.step (fun k => ?_) (ih (i + 1) (by omega))
    simp only [laws_toCounterS.l0, laws_toCounter.f]
    rw [if_pos (by omega), if_pos (by omega)]
    simp only [Option.bind_some]
    rw [if_pos (by simp; omega), wrap_succ (by omega), rd160 l i hlt]
    congr 1
    rw [Int.toNat_natCast, List.set_append_right _ _ (by simp; omega)]
    simp only [List.map_take, List.length_take, List.length_map, Nat.min_eq_left (Nat.le_of_lt hlt), Nat.sub_self, List.replicate_succ, List.set_cons_zero]
    rw [List.take_succ_eq_append_getElem (by simpa using hlt)]
    simp [cvC]
theorem toCounterS_ev (l : List S160) (hl : l.length ≤ 1048576) : Ev (fun k => laws_toCounterS.f k l) (l.map cvC) := by
  unfold laws_toCounterS.f
  refine Ev.ite_pos (by omega) (Ev.ite_pos (by omega) ?_)
  simpa using toCounterS_l0 l hl l.length 0 (by omega)
theorem toLayout_ev (n : Int) (l : List S160) (hl : l.length ≤ 1048576) : Ev (fun k => laws_toLayout.f k n l) (n, l.map cvC) := by
  unfold laws_toLayout.f
  exact Ev.bind (toCounterS_ev l hl) (Ev.now _)
theorem eqCounterS_l0 (l : List S88) (hl : l.length ≤ 1048576) (d : Nat) : ∀ (i : Nat), i + d = l.length → Ev (fun k => laws_eqCounterS.l0 k l l i) true := by
  induction d with
  | zero =>
    intro i hi
    refine Ev.step (f := fun _ => some true) (fun k => ?_) (Ev.now _)
    simp only [laws_eqCounterS.l0]
    rw [if_neg (by omega)]
  | succ d ih =>
    intro i hi
    refine Ev.step (fun k => ?_) (ih (i + 1) (by omega))
    simp only [laws_eqCounterS.l0, laws_eqCounter.f, if_true, Option.bind_some]
    rw [if_pos (by omega), if_pos (by omega), if_pos (by omega), wrap_succ (by omega)]
theorem eqCounterS_ev (l : List S88) (hl : l.length ≤ 1048576) : Ev (fun k => laws_eqCounterS.f k l l) true := by
  unfold laws_eqCounterS.f
  exact Ev.ite_pos rfl (eqCounterS_l0 l hl l.length 0 (by omega))
theorem eqLayout_ev (n : Int) (l : List S88) (hl : l.length ≤ 1048576) : Ev (fun k => laws_eqLayout.f k n l n l) true := by
  unfold laws_eqLayout.f
  exact Ev.ite_pos rfl (Ev.bind (eqCounterS_ev l hl) (Ev.ite_pos rfl (Ev.now _)))
theorem l1in_eq (x a b : Int) : spec_l1in.f x a b = some (decide (a ≤ x) && decide (x ≤ b)) := by
  unfold spec_l1in.f
  by_cases h : x ≥ a
  · rw [if_pos h]; simp [h]
  · rw [if_neg h]; simp [show ¬ a ≤ x from h]
theorem layoutOk_l0 (n : Int) (l : List S88) (hn : ¬ (n < 1) ∧ ¬ (60 < n) ∧ ¬ (120 < l.length)) (d : Nat) : ∀ (i : Nat), i + d = l.length → (l.take i).all (ctrOk n) = true → Ev (fun k => spec_LayoutOk.l0 k l (l.length : Int) i n l) (layoutOk n l) := by
  obtain ⟨h1, h2, h3⟩ := hn
  induction d with
  | zero =>
    intro i hi ht
    refine Ev.step (f := fun _ => some (layoutOk n l)) (fun k => ?_) (Ev.now _)
    simp only [spec_LayoutOk.l0]
    rw [if_neg (by omega), layoutOk_good ⟨h1, h2, h3⟩ (i := i) (by omega) ht]
  | succ d ih =>
    intro i hi ht
    have hlt : i < l.length := by omega
    have hw : wrap64 (n - 1) = n - 1 := wrap_id (by omega) (by omega)
    by_cases hc : ctrOk n (rd_T88 l i) = true
    · refine Ev.step (fun k => ?_) (ih (i + 1) (by omega) (take_all hlt ht hc))
      simp only [spec_LayoutOk.l0, l1in_eq, Option.bind_some]
      simp only [ctrOk, inB, Bool.and_eq_true, decide_eq_true_eq, Bool.not_eq_true', beq_eq_false_iff_ne] at hc
      rw [if_pos (by omega), if_pos (by omega), if_pos (by omega), hw, if_pos (by simp; omega), if_pos (by simp; omega), if_neg hc.2, wrap_succ (by omega)]
    · have hb : ctrOk n (rd_T88 l i) = false := by simpa using hc
      rw [layoutOk_bad ⟨h1, h2, h3⟩ hlt hb]
      refine Ev.step (f := fun _ => some 2) (fun k => ?_) (Ev.now _)
      simp only [spec_LayoutOk.l0, l1in_eq, Option.bind_some]
      rw [if_pos (by omega), if_pos (by omega), if_pos (by omega), hw]
      by_cases c1 : (decide (-1 ≤ (rd_T88 l i).f0) && decide ((rd_T88 l i).f0 ≤ n - 1)) = true
      · rw [if_pos c1]
        by_cases c2 : (decide (-1 ≤ (rd_T88 l i).f1) && decide ((rd_T88 l i).f1 ≤ n - 1)) = true
        · rw [if_pos c2]
          by_cases c3 : (rd_T88 l i).f0 = (rd_T88 l i).f1
          · rw [if_pos c3]
          · exfalso
            apply hc
            simp only [Bool.and_eq_true, decide_eq_true_eq] at c1 c2
            simp only [ctrOk, inB, Bool.and_eq_true, decide_eq_true_eq, Bool.not_eq_true', beq_eq_false_iff_ne]
            exact ⟨⟨⟨by omega, by omega⟩, by omega, by omega⟩, c3⟩
        · rw [if_neg c2]
      · rw [if_neg c1]
theorem specLayoutOk_ev (n : Int) (l : List S88) : Ev (fun k => spec_LayoutOk.f k n l) (layoutOk n l) := by
  unfold spec_LayoutOk.f
  refine Ev.call (l1in_eq _ _ _) ?_
  by_cases h1 : n < 1
  · refine Ev.ite_neg (by simp; omega) (Ev.step (f := fun _ => some (layoutOk n l)) (fun k => ?_) (Ev.now _))
    simp only [spec_LayoutOk.j0, if_true]
    rw [layoutOk, if_pos h1]
  · by_cases h2 : 60 < n
    · refine Ev.ite_neg (by simp; omega) (Ev.step (f := fun _ => some (layoutOk n l)) (fun k => ?_) (Ev.now _))
      simp only [spec_LayoutOk.j0, if_true]
      rw [layoutOk, if_neg h1, if_pos h2]
    · refine Ev.ite_pos (by simp; omega) ?_
      by_cases h3 : 120 < l.length
      · refine Ev.step (f := fun _ => some (layoutOk n l)) (fun k => ?_) (Ev.now _)
        simp only [spec_LayoutOk.j0]
        rw [if_pos (by simp; omega), layoutOk, if_neg h1, if_neg h2, if_pos h3]
      · refine Ev.step (fun k => ?_) (layoutOk_l0 n l ⟨h1, h2, h3⟩ l.length 0 (by omega) (by simp))
        simp only [spec_LayoutOk.j0]
        rw [if_neg (by simp; omega)]
        rfl
end Go.Proofs.Ytpdnabhpkdchjaa.P
namespace Go.Proofs.Ytpdnabhpkdchjaa.P
open Go.RowKit Go.Proofs.YtpdnabhpkdchjaaW.PrintWords Go.Proofs.YtpdnabhpkdchjaaW.PrintLast
set_option linter.unusedVariables false
set_option linter.unusedSimpArgs false
theorem lay_n {n : Int} {l : List S88} (h : layoutOk n l = 0) : 1 ≤ n ∧ n ≤ 60 ∧ l.length ≤ 120 := by
  unfold layoutOk at h
  split at h
  · cases h
  · split at h
    · cases h
    · split at h
      · cases h
      · omega
theorem dec_le_pred (a b : Int) : decide (a ≤ b - 1) = decide (a < b) := by
  by_cases h : a < b
  · rw [decide_eq_true h, decide_eq_true (by omega)]
  · rw [decide_eq_false h, decide_eq_false (by omega)]
end Go.Proofs.Ytpdnabhpkdchjaa.P
namespace Go.Proofs.Ytpdnabhpkdchjaa.P
open Go.RowKit Go.Proofs.YtpdnabhpkdchjaaW.PrintWords Go.Proofs.YtpdnabhpkdchjaaW.PrintLast Go.Proofs.YtpdnabhpkdchjaaW.PrintMore
attribute [local go_sem] max2_int min2_int max_two min_two max_three min_three max_four min_four
set_option linter.unusedVariables false
set_option linter.unusedSimpArgs false
def laws_eqIntS.l0:Nat→List Int→List Int→Int→Option (Bool)
 | 0,_,_,_=>none
 | k+1,x0,x1,x5=>if x5<(x0.length:Int) then (if 0≤x5 then (if x5<(x1.length:Int) then (if (rd x0 x5)=(rd x1 x5) then (laws_eqIntS.l0 k x0 x1 (wrap64 (x5+1))) else (some false)) else (none)) else (none)) else (some true)
def laws_eqIntS.f (k:Nat) (l0:List Int) (l1:List Int):Option (Bool):=if (l0.length:Int)=(l1.length:Int) then (laws_eqIntS.l0 k l0 l1 0) else (some false)
set_option maxHeartbeats 8000000 in
set_option maxRecDepth 100000 in
theorem laws_eqIntS.calls (k:Nat) (A0:Option Addr) (c0:Nat) (l0:List Int) (A1:Option Addr) (c1:Nat) (l1:List Int) (r:Bool) (w:World) (hr0:Kd.C (Kd.int .i64) w A0 l0.length l0) (hc0:l0.length≤c0) (hr1:Kd.C (Kd.int .i64) w A1 l1.length l1) (hc1:l1.length≤c1) (h:laws_eqIntS.f k l0 l1=some r) :
  Calls Try.prog 39 #[.slice A0 l0.length c0,.slice A1 l1.length c1] w fun e w'=>e=.returned (.bool r)∧Drawn0 w w':=by
 have HR0:=Aside0.mk hr0
 have HC0:=Aside0.mk hc0
 clear hr0 hc0
 have HR1:=Aside0.mk hr1
 have HC1:=Aside0.mk hc1
 clear hr1 hc1
 have H:(if (l0.length:Int)=(l1.length:Int) then (laws_eqIntS.l0 k l0 l1 0) else (some false))=some r:=h
 clear h
 by_cases c3:(l0.length:Int)=(l1.length:Int)
 ·rw [if_pos c3] at H
  have c3b0:((l0.length:Int)==(l1.length:Int))=true:=beq_iff_eq.mpr c3
  have c3b1:((l0.length:Int) != (l1.length:Int))=false:=bne_eq_false_iff_eq.mpr c3
  have c3b2:(l0.length==l1.length)=true:=by first|simpa using c3|(simp at c3 ⊢;omega)
  clear c3
  have H':=Aside0.mk H
  clear H
  go_enter Try.func39,Try.ntmps39
  go_wp2
  repeat (go_quiet (fail);try go_wp2)
  go_loopg [5] k (fun kq v5 w'=>∃ (x5_1:Int),v5=.int .i64 x5_1∧Aside0 (laws_eqIntS.l0 kq l0 l1 x5_1=some r)∧Aside0 (kq≤k)∧Drawn0 w w')
  case atStart=>exact ⟨(0),(by first|rfl|(simp;done)|(simp [*];done)),H',⟨Nat.le_refl _⟩,by repeat (first|exact Drawn0.refl _|apply Drawn0.step)⟩
  case round =>
   clear H'
   try clear c1
   try clear p2
   try clear c3
   try clear c3b0
   try clear c3b1
   try clear c3b2
   obtain ⟨x5_1,rfl,HA,HK1,⟨m1,rfl⟩⟩:=hrel
   cases gk with
   | zero=>exact absurd HA.out (by simp [laws_eqIntS.l0])
   | succ k1 =>
    have H:=HA.out
    clear HA
    simp only [laws_eqIntS.l0] at H
    by_cases c4:x5_1<(l0.length:Int)
    ·rw [if_pos c4] at H
     have c4b0:decide (x5_1<(l0.length:Int))=true:=decide_eq_true c4
     clear c4
     by_cases c5:0≤x5_1
     ·rw [if_pos c5] at H
      have c5b0:decide (0≤x5_1)=true:=decide_eq_true c5
      clear c5
      by_cases c6:x5_1<(l1.length:Int)
      ·rw [if_pos c6] at H
       have c6b0:decide (x5_1<(l1.length:Int))=true:=decide_eq_true c6
       clear c6
       by_cases c7:(rd l0 x5_1)=(rd l1 x5_1)
       ·rw [if_pos c7] at H
        have c7b0:((rd l0 x5_1)==(rd l1 x5_1))=true:=beq_iff_eq.mpr c7
        have c7b1:((rd l0 x5_1) != (rd l1 x5_1))=false:=bne_eq_false_iff_eq.mpr c7
        clear c7
        have H':=Aside0.mk H
        clear H
        have p436:0≤(x5_1:Int):=of_decide_eq_true (by first|(with_reducible assumption)|assumption)
        have q436:x5_1<(l0.length:Int):=of_decide_eq_true (by first|(with_reducible assumption)|assumption)
        obtain ⟨ad436,e436,hx436_0⟩:=Kd.at_int HR0.out x5_1 p436 q436
        cases e436
        replace p436:=eq_true p436
        replace q436:=eq_true q436
        have p437:0≤(x5_1:Int):=of_decide_eq_true (by first|(with_reducible assumption)|assumption)
        have q437:x5_1<(l1.length:Int):=of_decide_eq_true (by first|(with_reducible assumption)|assumption)
        obtain ⟨ad437,e437,hx437_0⟩:=Kd.at_int HR1.out x5_1 p437 q437
        cases e437
        replace p437:=eq_true p437
        replace q437:=eq_true q437
        go_wp2
        repeat (go_quiet (fail);try go_wp2)
        go_roundg k1
        case measure=>have:=HK1.out;omega
        case rel=>exact ⟨(wrap64 (x5_1+1)),(by first|rfl|(simp;done)|(simp [*];done)),H',⟨by have:=HK1.out;omega⟩,by repeat (first|exact Drawn0.refl _|apply Drawn0.step)⟩
       rw [if_neg c7] at H
       have c7b0:((rd l0 x5_1)==(rd l1 x5_1))=false:=beq_eq_false_iff_ne.mpr c7
       have c7b1:((rd l0 x5_1) != (rd l1 x5_1))=true:=bne_iff_ne.mpr c7
       obtain rfl:=Option.some.inj H
       have p436:0≤(x5_1:Int):=of_decide_eq_true (by first|(with_reducible assumption)|assumption)
       have q436:x5_1<(l0.length:Int):=of_decide_eq_true (by first|(with_reducible assumption)|assumption)
       obtain ⟨ad436,e436,hx436_0⟩:=Kd.at_int HR0.out x5_1 p436 q436
       cases e436
       replace p436:=eq_true p436
       replace q436:=eq_true q436
       have p437:0≤(x5_1:Int):=of_decide_eq_true (by first|(with_reducible assumption)|assumption)
       have q437:x5_1<(l1.length:Int):=of_decide_eq_true (by first|(with_reducible assumption)|assumption)
       obtain ⟨ad437,e437,hx437_0⟩:=Kd.at_int HR1.out x5_1 p437 q437
       cases e437
       replace p437:=eq_true p437
       replace q437:=eq_true q437
       go_wp2
       repeat (go_quiet (fail);try go_wp2)
       go_ret
       exact ⟨by first|rfl|(simp;done)|(simp [*];done),by repeat (first|exact Drawn0.refl _|apply Drawn0.step)⟩
      rw [if_neg c6] at H
      exact absurd H (by simp)
     rw [if_neg c5] at H
     exact absurd H (by simp)
    rw [if_neg c4] at H
    have c4b0:decide (x5_1<(l0.length:Int))=false:=decide_eq_false c4
    clear c4
    obtain rfl:=Option.some.inj H
    go_wp2
    repeat (go_quiet (fail);try go_wp2)
    go_ret
    exact ⟨by first|rfl|(simp;done)|(simp [*];done),by repeat (first|exact Drawn0.refl _|apply Drawn0.step)⟩
 rw [if_neg c3] at H
 have c3b0:((l0.length:Int)==(l1.length:Int))=false:=beq_eq_false_iff_ne.mpr c3
 have c3b1:((l0.length:Int) != (l1.length:Int))=true:=bne_iff_ne.mpr c3
 have c3b2:(l0.length==l1.length)=false:=by first|simpa using c3|(simp at c3 ⊢;omega)
 obtain rfl:=Option.some.inj H
 go_enter Try.func39,Try.ntmps39
 go_wp2
 repeat (go_quiet (fail);try go_wp2)
 go_ret
 exact ⟨by first|rfl|(simp;done)|(simp [*];done),by repeat (first|exact Drawn0.refl _|apply Drawn0.step)⟩
end Go.Proofs.Ytpdnabhpkdchjaa.P
namespace Go.Proofs.Ytpdnabhpkdchjaa.P
open Go.RowKit Go.Proofs.YtpdnabhpkdchjaaW.PrintWords Go.Proofs.YtpdnabhpkdchjaaW.PrintLast Go.Proofs.YtpdnabhpkdchjaaW.PrintMore
attribute [local go_sem] max2_int min2_int max_two min_two max_three min_three max_four min_four
set_option linter.unusedVariables false
set_option linter.unusedSimpArgs false
def laws_markCounterS.l0:Nat→List (S88)→Int→Int→Option (Int × (List (S88)))
 | 0,_,_,_=>none
 | k+1,x0,x1,x5=>if x5<(x0.length:Int) then (if 0≤x5 then ((some (x0.set (x5:Int).toNat (⟨x1,(rd_T88 x0 x5).f1⟩:S88):List (S88))).bind fun y438=>(laws_markCounterS.l0 k (y438.set (x5:Int).toNat (⟨(rd_T88 y438 x5).f0,wrap64 (x1+1)⟩:S88)) (wrap64 ((wrap64 (x1+1))+1)) (wrap64 (x5+1)))) else (none)) else (some (x1,x0))
def laws_markCounterS.f (k:Nat) (l0:List (S88)) (a1:Int):Option (Int × (List (S88))):=laws_markCounterS.l0 k l0 a1 0
set_option maxHeartbeats 8000000 in
set_option maxRecDepth 100000 in
theorem laws_markCounterS.calls (k:Nat) (P0_:Nat→Prop) (u9000_:Value) (l0:List (S88)) (a1:Int) (r1:Int) (r2:List (S88)) (w0 w:World) (hB:Below w0.heap.size w0 w) (ho0:Kd.R k88 88 w w0.heap.size P0_ u9000_ l0) (h:laws_markCounterS.f k l0 a1=some (r1,r2)) :
  Calls Try.prog 99 #[u9000_,.int .i64 a1] w fun e w'=>e=.returned (.int .i64 r1)∧Kd.R k88 88 w' w0.heap.size (fun k_=>(P0_ k_ ∨ w.heap.size≤k_)) u9000_ r2∧Below w0.heap.size w0 w'∧Kept w w' (fun k_=>P0_ k_):=by
 have HO0:=Aside0.mk (show Kd.R k88 88 w w0.heap.size (fun k_=>(P0_ k_ ∨ w.heap.size≤k_)) u9000_ l0 from Kd.R_mono ho0 (fun k_ hk=>(.inl hk)))
 have HK:=Aside0.mk (Kept.refl w (fun k_=>P0_ k_))
 have HW0:=Aside0.mk hB.size
 have HB:=Aside0.mk hB
 clear hB
 have H:(laws_markCounterS.l0 k l0 a1 0)=some (r1,r2):=h
 clear h
 have H':=Aside0.mk H
 clear H
 go_enter Try.func99,Try.ntmps99
 go_wp2
 go_loopg [1,5] k (fun kq v1 v5 w'=>∃ (x0_1:List (S88)) (x1_1:Int) (x5_1:Int),v1=.int .i64 x1_1∧v5=.int .i64 x5_1∧Aside0 (laws_markCounterS.l0 kq x0_1 x1_1 x5_1=some (r1,r2))∧Aside0 (kq≤k)∧Aside0 (Kd.R k88 88 w' w0.heap.size (fun k_=>(P0_ k_ ∨ w.heap.size≤k_)) u9000_ x0_1)∧Aside0 (Kept w w' (fun k_=>P0_ k_))∧Aside0 (Below w0.heap.size w0 w'))
 case atStart=>exact ⟨(l0),(a1),(0),(by first|rfl|(simp;done)|(simp [*];done)),(by first|rfl|(simp;done)|(simp [*];done)),H',⟨Nat.le_refl _⟩,⟨by (with_reducible repeat (first|apply Kd.R_alloc|apply Kd.R_drewN|apply Kd.R_drew));exact HO0.out⟩,⟨by repeat (first|(with_reducible first|exact HK.out|apply Kept.alloc|apply Kept.drewN|apply Kept.drew)|exact HK.out)⟩,⟨by repeat (first|(with_reducible first|exact HB.out|apply below_alloc|apply pw_below_drewN|apply below_drew1)|exact HB.out)⟩⟩
 case round =>
  clear H'
  try clear p2
  obtain ⟨x0_1,x1_1,x5_1,rfl,rfl,HA,HK1,HO_0,HK,HB⟩:=hrel
  cases gk with
  | zero=>exact absurd HA.out (by simp [laws_markCounterS.l0])
  | succ k1 =>
   have H:=HA.out
   clear HA
   simp only [laws_markCounterS.l0] at H
   by_cases c3:x5_1<(x0_1.length:Int)
   ·rw [if_pos c3] at H
    have c3b0:decide (x5_1<(x0_1.length:Int))=true:=decide_eq_true c3
    clear c3
    by_cases c4:0≤x5_1
    ·rw [if_pos c4] at H
     have c4b0:decide (0≤x5_1)=true:=decide_eq_true c4
     clear c4
     obtain ⟨y438,hy438⟩:∃ y_:List (S88),y_=(x0_1.set (x5_1:Int).toNat (⟨x1_1,(rd_T88 x0_1 x5_1).f1⟩:S88)):=⟨_,rfl⟩
     replace H:(laws_markCounterS.l0 k1 (y438.set (x5_1:Int).toNat (⟨(rd_T88 y438 x5_1).f0,wrap64 (x1_1+1)⟩:S88)) (wrap64 ((wrap64 (x1_1+1))+1)) (wrap64 (x5_1+1)))=some (r1,r2):=by first|(rw [hy438];with_reducible exact H)|(have H2_:=(Option.bind_some _ _).symm.trans H;rw [hy438];with_reducible exact H2_)|(have H2_:=(Option.bind_some _ _).symm.trans H;with_reducible exact H2_)|with_reducible exact H|(rw [hy438];exact H)|exact H
     have Ny438:=Aside0.mk hy438
     clear hy438
     obtain ⟨y439,hy439⟩:∃ y_:List (S88),y_=(y438.set (x5_1:Int).toNat (⟨(rd_T88 y438 x5_1).f0,wrap64 (x1_1+1)⟩:S88)):=⟨_,rfl⟩
     replace H:(laws_markCounterS.l0 k1 y439 (wrap64 ((wrap64 (x1_1+1))+1)) (wrap64 (x5_1+1)))=some (r1,r2):=by first|(rw [hy439];with_reducible exact H)|(have H2_:=(Option.bind_some _ _).symm.trans H;rw [hy439];with_reducible exact H2_)|(have H2_:=(Option.bind_some _ _).symm.trans H;with_reducible exact H2_)|with_reducible exact H|(rw [hy439];exact H)|exact H
     have Ny439:=Aside0.mk hy439
     clear hy439
     have H':=Aside0.mk H
     clear H
     obtain ⟨Ao7,co7,eo7⟩:=Kd.R_slice HO_0.out
     subst eo7
     have p5:0≤(x5_1:Int):=of_decide_eq_true (by first|(with_reducible assumption)|assumption)
     have q5:(x5_1:Int)<((x0_1.length:Int):Int):=of_decide_eq_true (by first|(with_reducible assumption)|assumption)
     obtain ⟨go5,co5,eo5,gb5,gl5,cl5,HG5⟩:=Kd.R_form HO_0.out (by omega)
     (first|cases eo5|(injection eo5 with ea_ en_ ec_;(first|subst ea_|(injection ea_ with ea_;subst ea_));subst ec_;clear en_))
     have GB5:=Aside0.mk gb5
     have GG5:=Aside0.mk HG5
     clear gb5 gl5 HG5
     have HMgo5:=Aside0.mk (show (P0_ go5 ∨ w.heap.size≤go5) from (HO_0.out.1 _ rfl))
     obtain ⟨ce5,hcl5,hM5,hcc5,hfr5⟩:=Kd.R_elem HO_0.out z88 (x5_1:Int) p5 q5
     obtain rfl:=k88_openM hM5
     have hx5_0:wr.cell? ⟨go5,(x5_1:Int).toNat * 2,none⟩=some (.int .i64 ((rd_T88 x0_1 x5_1).f0)):=hcc5 0 _ rfl
     have hx5_1:wr.cell? ⟨go5,(x5_1:Int).toNat * 2+1,none⟩=some (.int .i64 ((rd_T88 x0_1 x5_1).f1)):=hcc5 1 _ rfl
     have hf5_0:wr.frozen? ⟨go5,(x5_1:Int).toNat * 2,none⟩=false:=hfr5 0
     have hf5_1:wr.frozen? ⟨go5,(x5_1:Int).toNat * 2+1,none⟩=false:=hfr5 1
     clear hcl5 hcc5 hfr5 hM5
     replace p5:=eq_true p5
     replace q5:=eq_true q5
     have HX8:=Aside0.mk (show Kd.R k88 88 wr w0.heap.size (fun k_=>(P0_ k_ ∨ w.heap.size≤k_)) (.slice (some ⟨go5,0,none⟩) x0_1.length co7) x0_1 from (by (with_reducible repeat (first|apply Kd.R_alloc|apply Kd.R_drewN|apply Kd.R_drew));exact HO_0.out))
     obtain ⟨ce8,hcl8,hM8,hcc8,hfr8⟩:=Kd.R_elem HX8.out z88 (x5_1:Int) (of_decide_eq_true (by first|(with_reducible assumption)|assumption)) (by have h_:(x5_1:Int)<((x0_1.length:Int):Int):=of_decide_eq_true (by first|(with_reducible assumption)|assumption);first|exact h_|(have e_:=(Kd.R_reads' HO_0.out).1;omega)|simpa using h_)
     obtain rfl:=k88_openM hM8
     have HP8:=Kd.R_seg HX8.out (x5_1:Int) (of_decide_eq_true (by first|(with_reducible assumption)|assumption)) (by have h_:(x5_1:Int)<((x0_1.length:Int):Int):=of_decide_eq_true (by first|(with_reducible assumption)|assumption);first|exact h_|(have e_:=(Kd.R_reads' HO_0.out).1;omega)|simpa using h_) (seg:=[.int .i64 x1_1]) (j:=0) hcl8 hcc8 (show 1≤2 from by decide) (x':=(⟨x1_1,(rd_T88 x0_1 x5_1).f1⟩:S88)) (k88_mkM _ _ _ (⟨x1_1,(rd_T88 x0_1 x5_1).f1⟩:S88) ) (fun _ hk=>hk)
     have hx8_0:=hcc8 0 _ rfl
     (try simp only [show (k88).sz=2 from rfl,Nat.mul_one,Nat.add_zero] at hx8_0)
     have hf8_0:=hfr8 0
     (try simp only [show (k88).sz=2 from rfl,Nat.mul_one,Nat.add_zero] at hf8_0)
     clear hcl8 hcc8 hfr8 hM8
     go_wp2_with (first|((with_reducible refine gate_store (t:=3) (p:=16) rfl ?_);refine store_event (t:=3) (p:=16) (v:=?vo_w9) (w1:=(wr.setCell ⟨go5,(x5_1:Int).toNat * 2,none⟩ (.int .i64 x1_1))) ?hg ?ho ?hn ?hr ?_;(case ho=>rfl);(case hg=>rfl);(case hn=>rfl);(case hr=>first|(go_simp;done)|(go_simp;rfl));intro w9 hw;have hg:wr.grownBy w9 (some go5):=(by rw [hw];exact HP8.2);have hp_:Kd.R k88 88 w9 w0.heap.size (fun k_=>(P0_ k_ ∨ w.heap.size≤k_)) (.slice (some ⟨go5,0,none⟩) x0_1.length co7) y438:=(by rw [hw,Ny438.out];exact HP8.1);clear HP8;have n0_:=Aside0.mk (hp_);have n1_:=Aside0.mk ((by rw [hw];exact below_set (HB.out) GB5.out:Below w0.heap.size w0 w9));have n2_:=Aside0.mk (Kept.of_grown (S:=(fun k_=>P0_ k_)) hg (by repeat (first|(with_reducible first|exact HK.out|apply Kept.alloc|apply Kept.drewN|apply Kept.drew)|exact HK.out)) (fun k_ e_=>(HO_0.out.1 k_ e_)));clear HO_0;clear HB;clear HK;have HO_0:=n0_;have HB:=n1_;have HK:=n2_;clear n0_ n1_ n2_;clear hg hw hp_;have p6:0≤(x5_1:Int):=of_decide_eq_true (by first|(with_reducible assumption)|assumption);have q6:(x5_1:Int)<((x0_1.length:Int):Int):=of_decide_eq_true (by first|(with_reducible assumption)|assumption);obtain ⟨ce6,hcl6,hM6,hcc6,hfr6⟩:=Kd.R_elem HO_0.out z88 (x5_1:Int) p6 q6;obtain rfl:=k88_openM hM6;have hx6_0:w9.cell? ⟨go5,(x5_1:Int).toNat * 2,none⟩=some (.int .i64 ((rd_T88 y438 x5_1).f0)):=hcc6 0 _ rfl;have hx6_1:w9.cell? ⟨go5,(x5_1:Int).toNat * 2+1,none⟩=some (.int .i64 ((rd_T88 y438 x5_1).f1)):=hcc6 1 _ rfl;have hf6_0:w9.frozen? ⟨go5,(x5_1:Int).toNat * 2,none⟩=false:=hfr6 0;have hf6_1:w9.frozen? ⟨go5,(x5_1:Int).toNat * 2+1,none⟩=false:=hfr6 1;clear hcl6 hcc6 hfr6 hM6;replace p6:=eq_true p6;replace q6:=eq_true q6;have HX10:=Aside0.mk (show Kd.R k88 88 w9 w0.heap.size (fun k_=>(P0_ k_ ∨ w.heap.size≤k_)) (.slice (some ⟨go5,0,none⟩) x0_1.length co7) y438 from (by (with_reducible repeat (first|apply Kd.R_alloc|apply Kd.R_drewN|apply Kd.R_drew));exact HO_0.out));obtain ⟨ce10,hcl10,hM10,hcc10,hfr10⟩:=Kd.R_elem HX10.out z88 (x5_1:Int) (of_decide_eq_true (by first|(with_reducible assumption)|assumption)) (by have h_:(x5_1:Int)<((x0_1.length:Int):Int):=of_decide_eq_true (by first|(with_reducible assumption)|assumption);first|exact h_|(have e_:=(Kd.R_reads' HO_0.out).1;omega)|simpa using h_);obtain rfl:=k88_openM hM10;have HP10:=Kd.R_seg HX10.out (x5_1:Int) (of_decide_eq_true (by first|(with_reducible assumption)|assumption)) (by have h_:(x5_1:Int)<((x0_1.length:Int):Int):=of_decide_eq_true (by first|(with_reducible assumption)|assumption);first|exact h_|(have e_:=(Kd.R_reads' HO_0.out).1;omega)|simpa using h_) (seg:=[.int .i64 (wrap64 (x1_1+1))]) (j:=1) hcl10 hcc10 (show 2≤2 from by decide) (x':=(⟨(rd_T88 y438 x5_1).f0,wrap64 (x1_1+1)⟩:S88)) (k88_mkM _ _ _ (⟨(rd_T88 y438 x5_1).f0,wrap64 (x1_1+1)⟩:S88) ) (fun _ hk=>hk);have hx10_1:=hcc10 1 _ rfl;(try simp only [show (k88).sz=2 from rfl,Nat.mul_one,Nat.add_zero] at hx10_1);have hf10_1:=hfr10 1;(try simp only [show (k88).sz=2 from rfl,Nat.mul_one,Nat.add_zero] at hf10_1);clear hcl10 hcc10 hfr10 hM10)|((with_reducible refine gate_store (t:=3) (p:=23) rfl ?_);refine store_event (t:=3) (p:=23) (v:=?vo_w11) (w1:=(w9.setCell ⟨go5,(x5_1:Int).toNat * 2+1,none⟩ (.int .i64 (wrap64 (x1_1+1))))) ?hg ?ho ?hn ?hr ?_;(case ho=>rfl);(case hg=>rfl);(case hn=>rfl);(case hr=>first|(go_simp;done)|(go_simp;rfl));intro w11 hw;have hg:w9.grownBy w11 (some go5):=(by rw [hw];exact HP10.2);have hp_:Kd.R k88 88 w11 w0.heap.size (fun k_=>(P0_ k_ ∨ w.heap.size≤k_)) (.slice (some ⟨go5,0,none⟩) x0_1.length co7) y439:=(by rw [hw,Ny439.out];exact HP10.1);clear HP10;have n0_:=Aside0.mk (hp_);have n1_:=Aside0.mk ((by rw [hw];exact below_set (HB.out) GB5.out:Below w0.heap.size w0 w11));have n2_:=Aside0.mk (Kept.of_grown (S:=(fun k_=>P0_ k_)) hg (by repeat (first|(with_reducible first|exact HK.out|apply Kept.alloc|apply Kept.drewN|apply Kept.drew)|exact HK.out)) (fun k_ e_=>(HO_0.out.1 k_ e_)));clear HO_0;clear HB;clear HK;have HO_0:=n0_;have HB:=n1_;have HK:=n2_;clear n0_ n1_ n2_;clear hg hw hp_))
     go_roundg k1
     case measure=>have:=HK1.out;omega
     case rel=>exact ⟨(y439),(wrap64 ((wrap64 (x1_1+1))+1)),(wrap64 (x5_1+1)),(by first|rfl|(simp;done)|(simp [*];done)),(by first|rfl|(simp;done)|(simp [*];done)),H',⟨by have:=HK1.out;omega⟩,⟨by (with_reducible repeat (first|apply Kd.R_alloc|apply Kd.R_drewN|apply Kd.R_drew));exact HO_0.out⟩,⟨by repeat (first|(with_reducible first|exact HK.out|apply Kept.alloc|apply Kept.drewN|apply Kept.drew)|exact HK.out)⟩,⟨by repeat (first|(with_reducible first|exact HB.out|apply below_alloc|apply pw_below_drewN|apply below_drew1)|exact HB.out)⟩⟩
    rw [if_neg c4] at H
    exact absurd H (by simp)
   rw [if_neg c3] at H
   have c3b0:decide (x5_1<(x0_1.length:Int))=false:=decide_eq_false c3
   clear c3
   simp only [Option.some.injEq,Prod.mk.injEq] at H
   obtain ⟨rfl,rfl⟩:=H
   obtain ⟨Ao12,co12,eo12⟩:=Kd.R_slice HO_0.out
   subst eo12
   go_wp2
   go_ret
   exact ⟨by first|rfl|(simp [errW_none,errW_some] <;> rfl)|(simp [*,errW_none,errW_some] <;> rfl),by (with_reducible repeat (first|apply Kd.R_alloc|apply Kd.R_drewN|apply Kd.R_drew));exact HO_0.out,by repeat (first|(with_reducible first|exact HB.out|apply below_alloc|apply pw_below_drewN|apply below_drew1)|exact HB.out),by repeat (first|(with_reducible first|exact HK.out|apply Kept.alloc|apply Kept.drewN|apply Kept.drew)|exact HK.out)⟩
end Go.Proofs.Ytpdnabhpkdchjaa.P
namespace Go.Proofs.Ytpdnabhpkdchjaa.P
open Go.RowKit Go.Proofs.YtpdnabhpkdchjaaW.PrintWords Go.Proofs.YtpdnabhpkdchjaaW.PrintLast Go.Proofs.YtpdnabhpkdchjaaW.PrintMore
attribute [local go_sem] max2_int min2_int max_two min_two max_three min_three max_four min_four
set_option linter.unusedVariables false
set_option linter.unusedSimpArgs false
def laws_markLayout.f (k:Nat) (a0_0:Int) (l0_1:List (S88)) (a1:Int):Option (Int × (List (S88))):=(laws_markCounterS.f k l0_1 a1).bind fun bt441=>(some (bt441.1,bt441.2))
set_option maxHeartbeats 8000000 in
set_option maxRecDepth 100000 in
theorem laws_markLayout.calls (k:Nat) (a0_0:Int) (P0_1_:Nat→Prop) (u9000_:Value) (l0_1:List (S88)) (a1:Int) (r1:Int) (r2:List (S88)) (w0 w:World) (hB:Below w0.heap.size w0 w) (ho0_1:Kd.R k88 88 w w0.heap.size P0_1_ u9000_ l0_1) (h:laws_markLayout.f k a0_0 l0_1 a1=some (r1,r2)) :
  Calls Try.prog 40 #[.agg #[.int .i64 a0_0,u9000_],.int .i64 a1] w fun e w'=>e=.returned (.int .i64 r1)∧Kd.R k88 88 w' w0.heap.size (fun k_=>(P0_1_ k_ ∨ w.heap.size≤k_)) u9000_ r2∧Below w0.heap.size w0 w'∧Kept w w' (fun k_=>P0_1_ k_):=by
 have hu30:=Try.underlying30
 have HO0_1:=Aside0.mk (show Kd.R k88 88 w w0.heap.size (fun k_=>(P0_1_ k_ ∨ w.heap.size≤k_)) u9000_ l0_1 from Kd.R_mono ho0_1 (fun k_ hk=>(.inl hk)))
 have HK:=Aside0.mk (Kept.refl w (fun k_=>P0_1_ k_))
 have HW0:=Aside0.mk hB.size
 have HB:=Aside0.mk hB
 clear hB
 have H:((laws_markCounterS.f k l0_1 a1).bind fun bt441=>(some (bt441.1,bt441.2)))=some (r1,r2):=h
 clear h
 replace H:=Option.bind_eq_some_iff.mp H
 obtain ⟨⟨t441,t442⟩,A30,H⟩:=H
 replace H:(some (t441,t442))=some (r1,r2):=H
 have A3:=Aside0.mk A30
 clear A30
 simp only [Option.some.injEq,Prod.mk.injEq] at H
 obtain ⟨rfl,rfl⟩:=H
 obtain ⟨Ao4,co4,eo4⟩:=Kd.R_slice HO0_1.out
 subst eo4
 go_enter Try.func40,Try.ntmps40
 go_wp2_with (first|((with_reducible refine gate_dst (N:=2) rfl ?_);refine box_event ?hg (N:=2) ?hd (cs:=#[.int .i64 a0_0,.slice Ao4 l0_1.length co4]) (t:=30) ?hr ?_;(case hd=>rfl);(case hg=>rfl);(case hr=>first|(go_simp;done)|(go_simp;rfl));intro gb440 hg w5 hbox hb;have n0_:=Aside0.mk (Kd.R_below (by (with_reducible repeat (first|apply Kd.R_alloc|apply Kd.R_drewN|apply Kd.R_drew));exact HO0_1.out) hb);have n1_:=Aside0.mk (Kept.below (S:=(fun k_=>P0_1_ k_)) (by repeat (first|(with_reducible first|exact HK.out|apply Kept.alloc|apply Kept.drewN|apply Kept.drew)|exact HK.out)) hb);have n2_:=Aside0.mk (below_step (by repeat (first|(with_reducible first|exact HB.out|apply below_alloc|apply pw_below_drewN|apply below_drew1)|exact HB.out)) hb);have n3_:=Aside0.mk (hbox);have n4_:=Aside0.mk ((by rw [hg];exact (by first|exact HK.out.1|exact (show Kept w _ (fun k_=>P0_1_ k_) from by repeat (first|(with_reducible first|exact HK.out|apply Kept.alloc|apply Kept.drewN|apply Kept.drew)|exact HK.out)).1):w.heap.size≤gb440));have n5_:=Aside0.mk ((by rw [hg];exact (below_size (by repeat (first|(with_reducible first|exact HB.out|apply below_alloc|apply pw_below_drewN|apply below_drew1)|exact HB.out))):w0.heap.size≤gb440));clear HO0_1;clear HK;clear HB;have HO0_1:=n0_;have HK:=n1_;have HB:=n2_;have BK440:=n3_;have GW440:=n4_;have GE440:=n5_;clear n0_ n1_ n2_ n3_ n4_ n5_;clear hb hbox hg;have hcz6_0:w5.cell? ⟨gb440,0,none⟩=some (.int .i64 a0_0):=(blk_cell BK440.out 0).trans rfl;have hcz6_1:w5.cell? ⟨gb440,1,none⟩=some (.slice Ao4 l0_1.length co4):=(blk_cell BK440.out 1).trans rfl;have hfz6_0:=blk_frozen BK440.out 0;have hfz6_1:=blk_frozen BK440.out 1)|((with_reducible refine gate_callee (f:=99) rfl ?_);refine goesL_ (some 8) rfl rfl Try.func99 (by kernel_rfl) rfl #[.slice Ao4 l0_1.length co4,.int .i64 a1] rfl (by (try simp only [List.map_toArray,List.map_cons,List.map_nil]);first|done|rfl|(simp only [List.length_drop,List.length_take];rfl)) ?_;(with_reducible refine (laws_markCounterS.calls k (fun k_=>some k_=(.slice Ao4 l0_1.length co4:Value).ownBlock) (.slice Ao4 l0_1.length co4) l0_1 a1 t441 t442 w0 _ ?side1 ?side2 A3.out).mono ?_);(case side1=>repeat (first|(with_reducible first|exact HB.out|apply below_alloc|apply pw_below_drewN|apply below_drew1|refine below_set ?_ GE440.out)|exact HB.out));(case side2=>exact Kd.R_tight rfl HO0_1.out);rintro e w7 ⟨rfl,hy0,hb,hkp⟩;refine ⟨_,rfl,?_⟩;have n0_:=Aside0.mk (Kd.R_reok rfl hy0 (fun k_ e_=>HO0_1.out.1 k_ e_));have n1_:=Aside0.mk (blk_kept (by (with_reducible repeat (first|refine blk_drewN ?_ _|refine blk_drew ?_|refine blk_alloc ?_ _));exact BK440.out) hkp (fun hs_=>(fun e_=>(Kd.R_ne HO0_1.out BK440.out (by decide)) e_) hs_));have n2_:=Aside0.mk (Kept.then_ (S:=(fun k_=>P0_1_ k_)) (by repeat (first|(with_reducible first|exact HK.out|apply Kept.alloc|apply Kept.drewN|apply Kept.drew|refine Kept.setCell ?_ (.inr GW440.out) _)|exact HK.out)) hkp (fun k_ hs_=>(fun e_=>(HO0_1.out.1 k_ e_.symm)) hs_));have n3_:=Aside0.mk (hb);clear HO0_1;clear BK440;clear HK;clear HB;have HO0_1:=n0_;have BK440:=n1_;have HK:=n2_;have HB:=n3_;clear n0_ n1_ n2_ n3_;(try clear hb);(try clear hkp);(try clear hy0)))
 go_ret
 exact ⟨by first|rfl|(simp [errW_none,errW_some] <;> rfl)|(simp [*,errW_none,errW_some] <;> rfl),by (with_reducible repeat (first|apply Kd.R_alloc|apply Kd.R_drewN|apply Kd.R_drew));exact HO0_1.out,by repeat (first|(with_reducible first|exact HB.out|apply below_alloc|apply pw_below_drewN|apply below_drew1|refine below_set ?_ GE440.out)|exact HB.out),by repeat (first|(with_reducible first|exact HK.out|apply Kept.alloc|apply Kept.drewN|apply Kept.drew|refine Kept.setCell ?_ (.inr GW440.out) _)|exact HK.out)⟩
end Go.Proofs.Ytpdnabhpkdchjaa.P
namespace Go.Proofs.Ytpdnabhpkdchjaa.P
open Go.RowKit Go.Proofs.YtpdnabhpkdchjaaW.PrintWords Go.Proofs.YtpdnabhpkdchjaaW.PrintLast Go.Proofs.YtpdnabhpkdchjaaW.PrintMore
attribute [local go_sem] max2_int min2_int max_two min_two max_three min_three max_four min_four
set_option linter.unusedVariables false
set_option linter.unusedSimpArgs false
def laws_markIntS.l0:Nat→List Int→Int→Int→Option (Int × List Int)
 | 0,_,_,_=>none
 | k+1,x0,x1,x5=>if x5<(x0.length:Int) then (if 0≤x5 then (laws_markIntS.l0 k (x0.set (x5:Int).toNat x1) (wrap64 (x1+1)) (wrap64 (x5+1))) else (none)) else (some (x1,x0))
def laws_markIntS.f (k:Nat) (l0:List Int) (a1:Int):Option (Int × List Int):=laws_markIntS.l0 k l0 a1 0
set_option maxHeartbeats 8000000 in
set_option maxRecDepth 100000 in
theorem laws_markIntS.calls (k:Nat) (P0_:Nat→Prop) (u9000_:Value) (l0:List Int) (a1:Int) (r1:Int) (r2:List Int) (w0 w:World) (hB:Below w0.heap.size w0 w) (ho0:Kd.R (Kd.int .i64) 3 w w0.heap.size P0_ u9000_ l0) (h:laws_markIntS.f k l0 a1=some (r1,r2)) :
  Calls Try.prog 41 #[u9000_,.int .i64 a1] w fun e w'=>e=.returned (.int .i64 r1)∧Kd.R (Kd.int .i64) 3 w' w0.heap.size (fun k_=>(P0_ k_ ∨ w.heap.size≤k_)) u9000_ r2∧Below w0.heap.size w0 w'∧Kept w w' (fun k_=>P0_ k_):=by
 have HO0:=Aside0.mk (show Kd.R (Kd.int .i64) 3 w w0.heap.size (fun k_=>(P0_ k_ ∨ w.heap.size≤k_)) u9000_ l0 from Kd.R_mono ho0 (fun k_ hk=>(.inl hk)))
 have HK:=Aside0.mk (Kept.refl w (fun k_=>P0_ k_))
 have HW0:=Aside0.mk hB.size
 have HB:=Aside0.mk hB
 clear hB
 have H:(laws_markIntS.l0 k l0 a1 0)=some (r1,r2):=h
 clear h
 have H':=Aside0.mk H
 clear H
 go_enter Try.func41,Try.ntmps41
 go_wp2
 go_loopg [1,5] k (fun kq v1 v5 w'=>∃ (x0_1:List Int) (x1_1:Int) (x5_1:Int),v1=.int .i64 x1_1∧v5=.int .i64 x5_1∧Aside0 (laws_markIntS.l0 kq x0_1 x1_1 x5_1=some (r1,r2))∧Aside0 (kq≤k)∧Aside0 (Kd.R (Kd.int .i64) 3 w' w0.heap.size (fun k_=>(P0_ k_ ∨ w.heap.size≤k_)) u9000_ x0_1)∧Aside0 (Kept w w' (fun k_=>P0_ k_))∧Aside0 (Below w0.heap.size w0 w'))
 case atStart=>exact ⟨(l0),(a1),(0),(by first|rfl|(simp;done)|(simp [*];done)),(by first|rfl|(simp;done)|(simp [*];done)),H',⟨Nat.le_refl _⟩,⟨by (with_reducible repeat (first|apply Kd.R_alloc|apply Kd.R_drewN|apply Kd.R_drew));exact HO0.out⟩,⟨by repeat (first|(with_reducible first|exact HK.out|apply Kept.alloc|apply Kept.drewN|apply Kept.drew)|exact HK.out)⟩,⟨by repeat (first|(with_reducible first|exact HB.out|apply below_alloc|apply pw_below_drewN|apply below_drew1)|exact HB.out)⟩⟩
 case round =>
  clear H'
  try clear p2
  obtain ⟨x0_1,x1_1,x5_1,rfl,rfl,HA,HK1,HO_0,HK,HB⟩:=hrel
  cases gk with
  | zero=>exact absurd HA.out (by simp [laws_markIntS.l0])
  | succ k1 =>
   have H:=HA.out
   clear HA
   simp only [laws_markIntS.l0] at H
   by_cases c3:x5_1<(x0_1.length:Int)
   ·rw [if_pos c3] at H
    have c3b0:decide (x5_1<(x0_1.length:Int))=true:=decide_eq_true c3
    clear c3
    by_cases c4:0≤x5_1
    ·rw [if_pos c4] at H
     have c4b0:decide (0≤x5_1)=true:=decide_eq_true c4
     clear c4
     obtain ⟨y443,hy443⟩:∃ y_:List Int,y_=(x0_1.set (x5_1:Int).toNat x1_1):=⟨_,rfl⟩
     replace H:(laws_markIntS.l0 k1 y443 (wrap64 (x1_1+1)) (wrap64 (x5_1+1)))=some (r1,r2):=by first|(rw [hy443];with_reducible exact H)|(have H2_:=(Option.bind_some _ _).symm.trans H;rw [hy443];with_reducible exact H2_)|(have H2_:=(Option.bind_some _ _).symm.trans H;with_reducible exact H2_)|with_reducible exact H|(rw [hy443];exact H)|exact H
     have Ny443:=Aside0.mk hy443
     clear hy443
     have H':=Aside0.mk H
     clear H
     obtain ⟨Ao6,co6,eo6⟩:=Kd.R_slice HO_0.out
     subst eo6
     have p5:0≤(x5_1:Int):=of_decide_eq_true (by first|(with_reducible assumption)|assumption)
     have q5:(x5_1:Int)<((x0_1.length:Int):Int):=of_decide_eq_true (by first|(with_reducible assumption)|assumption)
     obtain ⟨go5,co5,eo5,gb5,gl5,cl5,HG5⟩:=Kd.R_form HO_0.out (by omega)
     (first|cases eo5|(injection eo5 with ea_ en_ ec_;(first|subst ea_|(injection ea_ with ea_;subst ea_));subst ec_;clear en_))
     have GB5:=Aside0.mk gb5
     have GG5:=Aside0.mk HG5
     clear gb5 gl5 HG5
     have HMgo5:=Aside0.mk (show (P0_ go5 ∨ w.heap.size≤go5) from (HO_0.out.1 _ rfl))
     obtain ⟨hx5_0,hf5_0⟩:=Kd.R_celln 0 HO_0.out (x5_1:Int) p5 q5
     replace p5:=eq_true p5
     replace q5:=eq_true q5
     have HP7:=Kd.R_putg HO_0.out (x5_1:Int) x1_1
     go_wp2_with (first|((with_reducible refine gate_store (t:=3) (p:=15) rfl ?_);refine store_event (t:=3) (p:=15) (v:=?vo_w8) (w1:=(wr.setCell ⟨go5,(x5_1:Int).toNat,none⟩ (.int .i64 x1_1))) ?hg ?ho ?hn ?hr ?_;(case ho=>rfl);(case hg=>rfl);(case hn=>rfl);(case hr=>first|(go_simp;done)|(go_simp;rfl));intro w8 hw;have hg:wr.grownBy w8 (some go5):=(by rw [hw];exact HP7.2);have hp_:Kd.R (Kd.int .i64) 3 w8 w0.heap.size (fun k_=>(P0_ k_ ∨ w.heap.size≤k_)) (.slice (some ⟨go5,0,none⟩) x0_1.length co6) y443:=(by rw [hw,Ny443.out];exact HP7.1);clear HP7;have n0_:=Aside0.mk (hp_);have n1_:=Aside0.mk ((by rw [hw];exact below_set (HB.out) GB5.out:Below w0.heap.size w0 w8));have n2_:=Aside0.mk (Kept.of_grown (S:=(fun k_=>P0_ k_)) hg (by repeat (first|(with_reducible first|exact HK.out|apply Kept.alloc|apply Kept.drewN|apply Kept.drew)|exact HK.out)) (fun k_ e_=>(HO_0.out.1 k_ e_)));clear HO_0;clear HB;clear HK;have HO_0:=n0_;have HB:=n1_;have HK:=n2_;clear n0_ n1_ n2_;clear hg hw hp_))
     go_roundg k1
     case measure=>have:=HK1.out;omega
     case rel=>exact ⟨(y443),(wrap64 (x1_1+1)),(wrap64 (x5_1+1)),(by first|rfl|(simp;done)|(simp [*];done)),(by first|rfl|(simp;done)|(simp [*];done)),H',⟨by have:=HK1.out;omega⟩,⟨by (with_reducible repeat (first|apply Kd.R_alloc|apply Kd.R_drewN|apply Kd.R_drew));exact HO_0.out⟩,⟨by repeat (first|(with_reducible first|exact HK.out|apply Kept.alloc|apply Kept.drewN|apply Kept.drew)|exact HK.out)⟩,⟨by repeat (first|(with_reducible first|exact HB.out|apply below_alloc|apply pw_below_drewN|apply below_drew1)|exact HB.out)⟩⟩
    rw [if_neg c4] at H
    exact absurd H (by simp)
   rw [if_neg c3] at H
   have c3b0:decide (x5_1<(x0_1.length:Int))=false:=decide_eq_false c3
   clear c3
   simp only [Option.some.injEq,Prod.mk.injEq] at H
   obtain ⟨rfl,rfl⟩:=H
   obtain ⟨Ao9,co9,eo9⟩:=Kd.R_slice HO_0.out
   subst eo9
   go_wp2
   go_ret
   exact ⟨by first|rfl|(simp [errW_none,errW_some] <;> rfl)|(simp [*,errW_none,errW_some] <;> rfl),by (with_reducible repeat (first|apply Kd.R_alloc|apply Kd.R_drewN|apply Kd.R_drew));exact HO_0.out,by repeat (first|(with_reducible first|exact HB.out|apply below_alloc|apply pw_below_drewN|apply below_drew1)|exact HB.out),by repeat (first|(with_reducible first|exact HK.out|apply Kept.alloc|apply Kept.drewN|apply Kept.drew)|exact HK.out)⟩
end Go.Proofs.Ytpdnabhpkdchjaa.P
namespace Go.Proofs.Ytpdnabhpkdchjaa.P
open Go.RowKit Go.Proofs.YtpdnabhpkdchjaaW.PrintWords Go.Proofs.YtpdnabhpkdchjaaW.PrintLast
set_option linter.unusedVariables false
set_option linter.unusedSimpArgs false
def marks {α : Type} (f : Int → α) (c : Int) (a : Int) (n : Nat) : List α := (List.range n).map fun j => f (a + c * (j : Nat))
theorem marks_length {α : Type} (f : Int → α) (c a : Int) (n : Nat) : (marks f c a n).length = n := by simp [marks]
theorem marks_get {α : Type} (f : Int → α) (c a : Int) (n : Nat) (i : Nat) (h : i < n) : (marks f c a n)[i]'(by rw [marks_length]; exact h) = f (a + c * (i : Nat)) := by simp [marks]
theorem set_mid {α : Type} {m l : List α} {i : Nat} (h : i < l.length) (hm : m.length = l.length) {v : α} (hv : m[i]'(by omega) = v) : (m.take i ++ l.drop i).set i v = m.take (i + 1) ++ l.drop (i + 1) := by
  subst hv
  rw [List.set_append_right _ _ (by simp; omega)]
  simp only [List.length_take, hm, Nat.min_eq_left (Nat.le_of_lt h), Nat.sub_self]
  rw [List.drop_eq_getElem_cons h, List.set_cons_zero, List.take_succ_eq_append_getElem (by omega), List.append_assoc]
  rfl
theorem mid_length {α : Type} {m l : List α} {i : Nat} (h : i ≤ l.length) (hm : m.length = l.length) : (m.take i ++ l.drop i).length = l.length := by simp; omega
theorem eqIntS_l0 (l : List Int) (hl : l.length ≤ 4611686018427387904) (d : Nat) : ∀ (i : Nat), i + d = l.length → Ev (fun k => laws_eqIntS.l0 k l l i) true := by
  induction d with
  | zero => intro i hi; refine Ev.step1 fun k => ?_; simp only [laws_eqIntS.l0]; rw [if_neg (by omega)]
  | succ d ih =>
    intro i hi
    refine Ev.step (fun k => ?_) (ih (i + 1) (by omega))
    simp only [laws_eqIntS.l0, if_true]
    rw [if_pos (by omega), if_pos (by omega), if_pos (by omega), wrap_succ (by omega)]
theorem eqIntS_ev (l : List Int) (hl : l.length ≤ 4611686018427387904) : Ev (fun k => laws_eqIntS.f k l l) true := by
  unfold laws_eqIntS.f
  exact Ev.ite_pos rfl (eqIntS_l0 l hl l.length 0 (by omega))
theorem markIntS_l0 (l : List Int) (a : Int) (ha : 0 ≤ a) (hl : a + l.length ≤ 4611686018427387903) (d : Nat) : ∀ (i : Nat), i + d = l.length →
    Ev (fun k => laws_markIntS.l0 k ((marks id 1 a l.length).take i ++ l.drop i) (a + i) i) (a + l.length, marks id 1 a l.length) := by
  have hm : (marks id 1 a l.length).length = l.length := marks_length _ _ _ _
  induction d with
  | zero =>
    intro i hi
    refine Ev.step1 fun k => ?_
    simp only [laws_markIntS.l0]
    rw [mid_length (by omega) hm, if_neg (by omega), List.take_of_length_le (by omega), List.drop_eq_nil_of_le (by omega), List.append_nil, show i = l.length by omega]
  | succ d ih =>
    intro i hi
    refine Ev.step (fun k => ?_) (ih (i + 1) (by omega))
    simp only [laws_markIntS.l0]
    rw [mid_length (by omega) hm, if_pos (by omega), if_pos (by omega), wrap_succ (by omega), wrap_id (by omega) (by omega), Int.toNat_natCast,
      set_mid (by omega) hm (v := a + i) (by rw [marks_get _ _ _ _ _ (by omega)]; simp), show a + (i : Int) + 1 = a + ((i + 1 : Nat) : Int) by omega]
theorem markIntS_ev (l : List Int) (a : Int) (ha : 0 ≤ a) (hl : a + l.length ≤ 4611686018427387903) : Ev (fun k => laws_markIntS.f k l a) (a + l.length, marks id 1 a l.length) := by
  unfold laws_markIntS.f
  simpa using markIntS_l0 l a ha hl l.length 0 (by omega)
def mkC (k : Int) : S88 := ⟨k, k + 1⟩
theorem markCounterS_l0 (l : List S88) (a : Int) (ha : 0 ≤ a) (hl : a + 2 * l.length ≤ 4611686018427387903) (d : Nat) : ∀ (i : Nat), i + d = l.length →
    Ev (fun k => laws_markCounterS.l0 k ((marks mkC 2 a l.length).take i ++ l.drop i) (a + 2 * i) i) (a + 2 * l.length, marks mkC 2 a l.length) := by
  have hm : (marks mkC 2 a l.length).length = l.length := marks_length _ _ _ _
  induction d with
  | zero =>
    intro i hi
    refine Ev.step1 fun k => ?_
    simp only [laws_markCounterS.l0]
    rw [mid_length (by omega) hm, if_neg (by omega), List.take_of_length_le (by omega), List.drop_eq_nil_of_le (by omega), List.append_nil, show i = l.length by omega]
  | succ d ih =>
    intro i hi
    refine Ev.step (fun k => ?_) (ih (i + 1) (by omega))
    have hlen := mid_length (m := marks mkC 2 a l.length) (l := l) (i := i) (by omega) hm
    simp only [laws_markCounterS.l0, Option.bind_some]
    rw [hlen, if_pos (by omega), if_pos (by omega), wrap_succ (by omega), wrap_id (x := a + 2 * (i : Int) + 1) (by omega) (by omega), wrap_id (by omega) (by omega)]
    simp only [Int.toNat_natCast, rd_T88, List.set_set]
    rw [List.getD_eq_getElem?_getD, List.getElem?_set_self (by omega), Option.getD_some,
      set_mid (by omega) hm (v := ⟨a + 2 * i, a + 2 * i + 1⟩) (by rw [marks_get _ _ _ _ _ (by omega)]; rfl), show a + 2 * (i : Int) + 1 + 1 = a + 2 * ((i + 1 : Nat) : Int) by omega]
theorem markLayout_ev (n : Int) (l : List S88) (a : Int) (ha : 0 ≤ a) (hl : a + 2 * l.length ≤ 4611686018427387903) : Ev (fun k => laws_markLayout.f k n l a) (a + 2 * l.length, marks mkC 2 a l.length) := by
  unfold laws_markLayout.f
  refine Ev.bind (a := (a + 2 * (l.length : Int), marks mkC 2 a l.length)) ?_ (Ev.now _)
  unfold laws_markCounterS.f
  simpa using markCounterS_l0 l a ha hl l.length 0 (by omega)
end Go.Proofs.Ytpdnabhpkdchjaa.P
namespace Go.Proofs.Ytpdnabhpkdchjaa.P
open Go.RowKit Go.Proofs.YtpdnabhpkdchjaaW.PrintWords Go.Proofs.YtpdnabhpkdchjaaW.PrintLast Go.Proofs.YtpdnabhpkdchjaaW.PrintMore
attribute [local go_sem] max2_int min2_int max_two min_two max_three min_three max_four min_four
set_option linter.unusedVariables false
set_option linter.unusedSimpArgs false
def spec_l1posts.l0:Nat→List (S143)→Int→List (S143)→Int→Int→Int→List (S88)→Option (Bool)
 | 0,_,_,_,_,_,_,_=>none
 | k+1,x1,x5,x8,x9,x10,x1074000,x1074001=>if x10<x9 then (if 0≤x10 then (if x10<(x8.length:Int) then ((spec_l1in.f ((rd_T143 x8 x10).f0) x5 1000000).bind fun t1076=>(if t1076=true then ((spec_l1in.f ((rd_T143 x8 x10).f1) 0 (wrap64 ((x1074001.length:Int) - 1))).bind fun t1077=>(if t1077=true then (if ((rd_T143 x8 x10).f2)=1 then (spec_l1posts.l0 k x1 ((rd_T143 x8 x10).f0) x8 x9 (wrap64 (x10+1)) x1074000 x1074001) else (if ((rd_T143 x8 x10).f2)=(-1) then (spec_l1posts.l0 k x1 ((rd_T143 x8 x10).f0) x8 x9 (wrap64 (x10+1)) x1074000 x1074001) else (some false))) else (some false))) else (some false))) else (none)) else (none)) else (some (decide ((x1.length:Int)≤120)))
def spec_l1posts.f (k:Nat) (a0_0:Int) (l0_1:List (S88)) (l1:List (S143)):Option (Bool):=spec_l1posts.l0 k l1 0 l1 (l1.length:Int) 0 a0_0 l0_1
set_option maxHeartbeats 8000000 in
set_option maxRecDepth 100000 in
theorem spec_l1posts.calls (k:Nat) (a0_0:Int) (A0_1:Option Addr) (c0_1:Nat) (l0_1:List (S88)) (A1:Option Addr) (c1:Nat) (l1:List (S143)) (r:Bool) (w:World) (hr0_1:Kd.C k88 w A0_1 l0_1.length l0_1) (hc0_1:l0_1.length≤c0_1) (hr1:Kd.C k143 w A1 l1.length l1) (hc1:l1.length≤c1) (h:spec_l1posts.f k a0_0 l0_1 l1=some r) :
  Calls Try.prog 123 #[.agg #[.int .i64 a0_0,.slice A0_1 l0_1.length c0_1],.slice A1 l1.length c1] w fun e w'=>e=.returned (.bool r)∧Below w.heap.size w w':=by
 have hu30:=Try.underlying30
 have hu143:=Try.underlying143
 have HR0_1:=Aside0.mk hr0_1
 have HC0_1:=Aside0.mk hc0_1
 clear hr0_1 hc0_1
 have HR1:=Aside0.mk hr1
 have HC1:=Aside0.mk hc1
 clear hr1 hc1
 have HB:=Aside0.mk (Below.refl w.heap.size w)
 have H:(spec_l1posts.l0 k l1 0 l1 (l1.length:Int) 0 a0_0 l0_1)=some r:=h
 clear h
 have H':=Aside0.mk H
 clear H
 go_enter Try.func123,Try.ntmps123
 go_wp2_with (first|((with_reducible refine gate_dst (N:=2) rfl ?_);(try (refine gate_guard (by rfl) ?_;dsimp only));refine box_event ?hg (N:=2) ?hd (cs:=#[.int .i64 a0_0,.slice A0_1 l0_1.length c0_1]) (t:=30) ?hr ?_;(case hd=>rfl);(case hg=>rfl);(case hr=>first|(go_simp;done)|(go_simp;rfl));intro gb1073 hg w3 hbox hb;have n0_:=Aside0.mk (below_step (by repeat (first|(with_reducible first|exact HB.out|apply below_alloc|apply pw_below_drewN|apply below_drew1)|exact HB.out)) hb);have n1_:=Aside0.mk (hbox);have n2_:=Aside0.mk ((by rw [hg];exact (below_size (by repeat (first|(with_reducible first|exact HB.out|apply below_alloc|apply pw_below_drewN|apply below_drew1)|exact HB.out))):w.heap.size≤gb1073));have n3_:=Aside0.mk ((by rw [hg];exact (below_size (by repeat (first|(with_reducible first|exact HB.out|apply below_alloc|apply pw_below_drewN|apply below_drew1)|exact HB.out))):w.heap.size≤gb1073));clear HB;have HB:=n0_;have BK1073:=n1_;have GW1073:=n2_;have GE1073:=n3_;clear n0_ n1_ n2_ n3_;clear hb hbox hg))
 go_loopg [5,10] k (fun kq v5 v10 w'=>∃ (x5_1:Int) (x10_1:Int),v5=.int .i64 x5_1∧v10=.int .i64 x10_1∧Aside0 (spec_l1posts.l0 kq l1 x5_1 l1 (l1.length:Int) x10_1 a0_0 l0_1=some r)∧Aside0 (kq≤k)∧Aside0 (w'.heap[gb1073]?=some (.cells #[.int .i64 a0_0,(.slice A0_1 l0_1.length c0_1)] 30 (0,0)))∧Aside0 (Below w.heap.size w w'))
 case atStart=>exact ⟨(0),(0),(by first|rfl|(simp;done)|(simp [*];done)),(by first|rfl|(simp;done)|(simp [*];done)),H',⟨Nat.le_refl _⟩,⟨by (with_reducible repeat (first|refine blk_drewN ?_ _|refine blk_drew ?_|refine blk_alloc ?_ _));exact BK1073.out⟩,⟨by repeat (first|(with_reducible first|exact HB.out|apply below_alloc|apply pw_below_drewN|apply below_drew1|refine below_set ?_ GE1073.out)|exact HB.out)⟩⟩
 case round =>
  clear H'
  try clear c1
  try clear p2
  obtain ⟨x5_1,x10_1,rfl,rfl,HA,HK1,BK1073,HB⟩:=hrel
  cases gk with
  | zero=>exact absurd HA.out (by simp [spec_l1posts.l0])
  | succ k1 =>
   have H:=HA.out
   clear HA
   simp only [spec_l1posts.l0] at H
   by_cases c4:x10_1<(l1.length:Int)
   ·rw [if_pos c4] at H
    have c4b0:decide (x10_1<(l1.length:Int))=true:=decide_eq_true c4
    clear c4
    by_cases c5:0≤x10_1
    ·rw [if_pos c5] at H
     have c5b0:decide (0≤x10_1)=true:=decide_eq_true c5
     clear c5
     by_cases c6:x10_1<(l1.length:Int)
     ·rw [if_pos c6] at H
      have c6b0:decide (x10_1<(l1.length:Int))=true:=decide_eq_true c6
      clear c6
      replace H:=Option.bind_eq_some_iff.mp H
      obtain ⟨t1076,A70,H⟩:=H
      replace H:(if t1076=true then ((spec_l1in.f ((rd_T143 l1 x10_1).f1) 0 (wrap64 ((l0_1.length:Int) - 1))).bind fun t1077=>(if t1077=true then (if ((rd_T143 l1 x10_1).f2)=1 then (spec_l1posts.l0 k1 l1 ((rd_T143 l1 x10_1).f0) l1 (l1.length:Int) (wrap64 (x10_1+1)) a0_0 l0_1) else (if ((rd_T143 l1 x10_1).f2)=(-1) then (spec_l1posts.l0 k1 l1 ((rd_T143 l1 x10_1).f0) l1 (l1.length:Int) (wrap64 (x10_1+1)) a0_0 l0_1) else (some false))) else (some false))) else (some false))=some r:=H
      have A7:=Aside0.mk A70
      clear A70
      by_cases c8:t1076=true
      ·subst c8
       have H1:((spec_l1in.f ((rd_T143 l1 x10_1).f1) 0 (wrap64 ((l0_1.length:Int) - 1))).bind fun t1077=>(if t1077=true then (if ((rd_T143 l1 x10_1).f2)=1 then (spec_l1posts.l0 k1 l1 ((rd_T143 l1 x10_1).f0) l1 (l1.length:Int) (wrap64 (x10_1+1)) a0_0 l0_1) else (if ((rd_T143 l1 x10_1).f2)=(-1) then (spec_l1posts.l0 k1 l1 ((rd_T143 l1 x10_1).f0) l1 (l1.length:Int) (wrap64 (x10_1+1)) a0_0 l0_1) else (some false))) else (some false)))=some r:=by rw [if_pos rfl] at H;exact H
       clear H
       have H:=H1
       clear H1
       replace H:=Option.bind_eq_some_iff.mp H
       obtain ⟨t1077,A90,H⟩:=H
       replace H:(if t1077=true then (if ((rd_T143 l1 x10_1).f2)=1 then (spec_l1posts.l0 k1 l1 ((rd_T143 l1 x10_1).f0) l1 (l1.length:Int) (wrap64 (x10_1+1)) a0_0 l0_1) else (if ((rd_T143 l1 x10_1).f2)=(-1) then (spec_l1posts.l0 k1 l1 ((rd_T143 l1 x10_1).f0) l1 (l1.length:Int) (wrap64 (x10_1+1)) a0_0 l0_1) else (some false))) else (some false))=some r:=H
       have A9:=Aside0.mk A90
       clear A90
       by_cases c10:t1077=true
       ·subst c10
        have H1:(if ((rd_T143 l1 x10_1).f2)=1 then (spec_l1posts.l0 k1 l1 ((rd_T143 l1 x10_1).f0) l1 (l1.length:Int) (wrap64 (x10_1+1)) a0_0 l0_1) else (if ((rd_T143 l1 x10_1).f2)=(-1) then (spec_l1posts.l0 k1 l1 ((rd_T143 l1 x10_1).f0) l1 (l1.length:Int) (wrap64 (x10_1+1)) a0_0 l0_1) else (some false)))=some r:=by rw [if_pos rfl] at H;exact H
        clear H
        have H:=H1
        clear H1
        by_cases c11:((rd_T143 l1 x10_1).f2)=1
        ·rw [if_pos c11] at H
         have c11b0:(((rd_T143 l1 x10_1).f2)==1)=true:=beq_iff_eq.mpr c11
         have c11b1:(((rd_T143 l1 x10_1).f2) != 1)=false:=bne_eq_false_iff_eq.mpr c11
         clear c11
         have H':=Aside0.mk H
         clear H
         have p1074:0≤(x10_1:Int):=of_decide_eq_true (by first|(with_reducible assumption)|assumption)
         have q1074:x10_1<(l1.length:Int):=of_decide_eq_true (by first|(with_reducible assumption)|assumption)
         obtain ⟨ad1074,e1074,hx1074_0,hx1074_1,hx1074_2⟩:=at_T143 HR1.out x10_1 p1074 q1074
         cases e1074
         replace hx1074_0:=(HB.out.cell (World.block_lt_of_cell? w _ hx1074_0)).trans hx1074_0
         replace hx1074_1:=(HB.out.cell (World.block_lt_of_cell? w _ hx1074_1)).trans hx1074_1
         replace hx1074_2:=(HB.out.cell (World.block_lt_of_cell? w _ hx1074_2)).trans hx1074_2
         replace p1074:=eq_true p1074
         replace q1074:=eq_true q1074
         go_wp2_with (first|((with_reducible refine gate_dst (N:=7) rfl ?_);(try (refine gate_guard (by rfl) ?_;dsimp only));refine box_event ?hg (N:=7) ?hd (cs:=#[.int .i64 0,.int .i64 0,.int .i64 0]) (t:=143) ?hr ?_;(case hd=>rfl);(case hg=>rfl);(case hr=>first|(go_simp;done)|(go_simp;rfl));intro gb1075 hg w12 hbox hb;have n0_:=Aside0.mk (blk_below (g:=gb1073) (o:=.cells #[.int .i64 a0_0,.slice A0_1 l0_1.length c0_1] 30 (0,0)) (by (with_reducible repeat (first|refine blk_drewN ?_ _|refine blk_drew ?_|refine blk_alloc ?_ _));exact BK1073.out) hb);have n1_:=Aside0.mk (below_step (by repeat (first|(with_reducible first|exact HB.out|apply below_alloc|apply pw_below_drewN|apply below_drew1|refine below_set ?_ GE1073.out)|exact HB.out)) hb);have n2_:=Aside0.mk (hbox);have n3_:=Aside0.mk ((by rw [hg];exact (below_size (by repeat (first|(with_reducible first|exact HB.out|apply below_alloc|apply pw_below_drewN|apply below_drew1|refine below_set ?_ GE1073.out)|exact HB.out))):w.heap.size≤gb1075));have n4_:=Aside0.mk ((by rw [hg];exact (below_size (by repeat (first|(with_reducible first|exact HB.out|apply below_alloc|apply pw_below_drewN|apply below_drew1|refine below_set ?_ GE1073.out)|exact HB.out))):w.heap.size≤gb1075));have n5_:=Aside0.mk ((by rw [hg];exact Nat.ne_of_lt (blk_lt (g:=gb1073) (o:=.cells #[.int .i64 a0_0,.slice A0_1 l0_1.length c0_1] 30 (0,0)) (by (with_reducible repeat (first|refine blk_drewN ?_ _|refine blk_drew ?_|refine blk_alloc ?_ _));exact BK1073.out)):gb1073 ≠ gb1075));have n6_:=Aside0.mk ((by rw [hg];exact Nat.ne_of_gt (blk_lt (g:=gb1073) (o:=.cells #[.int .i64 a0_0,.slice A0_1 l0_1.length c0_1] 30 (0,0)) (by (with_reducible repeat (first|refine blk_drewN ?_ _|refine blk_drew ?_|refine blk_alloc ?_ _));exact BK1073.out)):gb1075 ≠ gb1073));clear BK1073;clear HB;have BK1073:=n0_;have HB:=n1_;have BK1075:=n2_;have GW1075:=n3_;have GE1075:=n4_;have NB1073_1075:=n5_;have NB1075_1073:=n6_;clear n0_ n1_ n2_ n3_ n4_ n5_ n6_;clear hb hbox hg;have hnb13:=NB1075_1073.out;have hnc13:=NB1073_1075.out;have hcz14_0:w12.cell? ⟨gb1075,0,none⟩=some (.int .i64 0):=(blk_cell BK1075.out 0).trans rfl;have hcz14_1:w12.cell? ⟨gb1075,1,none⟩=some (.int .i64 0):=(blk_cell BK1075.out 1).trans rfl;have hcz14_2:w12.cell? ⟨gb1075,2,none⟩=some (.int .i64 0):=(blk_cell BK1075.out 2).trans rfl;have hfz14_0:=blk_frozen BK1075.out 0;have hfz14_1:=blk_frozen BK1075.out 1;have hfz14_2:=blk_frozen BK1075.out 2)|((with_reducible refine gate_callee (f:=87) rfl ?_);refine goesL_ (some 17) rfl rfl Try.func87 (by kernel_rfl) rfl #[.int .i64 ((rd_T143 l1 x10_1).f0),.int .i64 x5_1,.int .i64 1000000] rfl (by (try simp only [List.map_toArray,List.map_cons,List.map_nil]);first|done|rfl|(simp only [List.length_drop,List.length_take];rfl)) ?_;(with_reducible refine (spec_l1in.calls ((rd_T143 l1 x10_1).f0) x5_1 1000000 true _ A7.out).mono ?_);rintro e w' ⟨rfl,⟨nd,rfl⟩⟩;refine ⟨_,rfl,?_⟩;have hcz15_0:w12.cell? ⟨gb1073,0,none⟩=some (.int .i64 a0_0):=(blk_cell BK1073.out 0).trans rfl;have hcz15_1:w12.cell? ⟨gb1073,1,none⟩=some (.slice A0_1 l0_1.length c0_1):=(blk_cell BK1073.out 1).trans rfl;have hfz15_0:=blk_frozen BK1073.out 0;have hfz15_1:=blk_frozen BK1073.out 1)|(go_at_call 87;(with_reducible refine (spec_l1in.calls ((rd_T143 l1 x10_1).f1) 0 (wrap64 ((l0_1.length:Int) - 1)) true _ A9.out).mono ?_);rintro e w' ⟨rfl,⟨nd,rfl⟩⟩))
         go_roundg k1
         case measure=>have:=HK1.out;omega
         case rel=>exact ⟨((rd_T143 l1 x10_1).f0),(wrap64 (x10_1+1)),(by first|rfl|(simp;done)|(simp [*];done)),(by first|rfl|(simp;done)|(simp [*];done)),H',⟨by have:=HK1.out;omega⟩,⟨by (with_reducible repeat (first|refine blk_drewN ?_ _|refine blk_drew ?_|refine blk_alloc ?_ _));refine blk_far ?_ NB1073_1075.out _;(with_reducible repeat (first|refine blk_drewN ?_ _|refine blk_drew ?_|refine blk_alloc ?_ _));refine blk_far ?_ NB1073_1075.out _;(with_reducible repeat (first|refine blk_drewN ?_ _|refine blk_drew ?_|refine blk_alloc ?_ _));refine blk_far ?_ NB1073_1075.out _;(with_reducible repeat (first|refine blk_drewN ?_ _|refine blk_drew ?_|refine blk_alloc ?_ _));exact BK1073.out⟩,⟨by repeat (first|(with_reducible first|exact HB.out|apply below_alloc|apply pw_below_drewN|apply below_drew1|refine below_set ?_ GE1073.out|refine below_set ?_ GE1075.out)|exact HB.out)⟩⟩
        rw [if_neg c11] at H
        have c11b0:(((rd_T143 l1 x10_1).f2)==1)=false:=beq_eq_false_iff_ne.mpr c11
        have c11b1:(((rd_T143 l1 x10_1).f2) != 1)=true:=bne_iff_ne.mpr c11
        by_cases c16:((rd_T143 l1 x10_1).f2)=(-1)
        ·rw [if_pos c16] at H
         have c16b0:(((rd_T143 l1 x10_1).f2)==(-1))=true:=beq_iff_eq.mpr c16
         have c16b1:(((rd_T143 l1 x10_1).f2) != (-1))=false:=bne_eq_false_iff_eq.mpr c16
         clear c16
         have H':=Aside0.mk H
         clear H
         have p1074:0≤(x10_1:Int):=of_decide_eq_true (by first|(with_reducible assumption)|assumption)
         have q1074:x10_1<(l1.length:Int):=of_decide_eq_true (by first|(with_reducible assumption)|assumption)
         obtain ⟨ad1074,e1074,hx1074_0,hx1074_1,hx1074_2⟩:=at_T143 HR1.out x10_1 p1074 q1074
         cases e1074
         replace hx1074_0:=(HB.out.cell (World.block_lt_of_cell? w _ hx1074_0)).trans hx1074_0
         replace hx1074_1:=(HB.out.cell (World.block_lt_of_cell? w _ hx1074_1)).trans hx1074_1
         replace hx1074_2:=(HB.out.cell (World.block_lt_of_cell? w _ hx1074_2)).trans hx1074_2
         replace p1074:=eq_true p1074
         replace q1074:=eq_true q1074
         go_wp2_with (first|((with_reducible refine gate_dst (N:=7) rfl ?_);(try (refine gate_guard (by rfl) ?_;dsimp only));refine box_event ?hg (N:=7) ?hd (cs:=#[.int .i64 0,.int .i64 0,.int .i64 0]) (t:=143) ?hr ?_;(case hd=>rfl);(case hg=>rfl);(case hr=>first|(go_simp;done)|(go_simp;rfl));intro gb1075 hg w17 hbox hb;have n0_:=Aside0.mk (blk_below (g:=gb1073) (o:=.cells #[.int .i64 a0_0,.slice A0_1 l0_1.length c0_1] 30 (0,0)) (by (with_reducible repeat (first|refine blk_drewN ?_ _|refine blk_drew ?_|refine blk_alloc ?_ _));exact BK1073.out) hb);have n1_:=Aside0.mk (below_step (by repeat (first|(with_reducible first|exact HB.out|apply below_alloc|apply pw_below_drewN|apply below_drew1|refine below_set ?_ GE1073.out)|exact HB.out)) hb);have n2_:=Aside0.mk (hbox);have n3_:=Aside0.mk ((by rw [hg];exact (below_size (by repeat (first|(with_reducible first|exact HB.out|apply below_alloc|apply pw_below_drewN|apply below_drew1|refine below_set ?_ GE1073.out)|exact HB.out))):w.heap.size≤gb1075));have n4_:=Aside0.mk ((by rw [hg];exact (below_size (by repeat (first|(with_reducible first|exact HB.out|apply below_alloc|apply pw_below_drewN|apply below_drew1|refine below_set ?_ GE1073.out)|exact HB.out))):w.heap.size≤gb1075));have n5_:=Aside0.mk ((by rw [hg];exact Nat.ne_of_lt (blk_lt (g:=gb1073) (o:=.cells #[.int .i64 a0_0,.slice A0_1 l0_1.length c0_1] 30 (0,0)) (by (with_reducible repeat (first|refine blk_drewN ?_ _|refine blk_drew ?_|refine blk_alloc ?_ _));exact BK1073.out)):gb1073 ≠ gb1075));have n6_:=Aside0.mk ((by rw [hg];exact Nat.ne_of_gt (blk_lt (g:=gb1073) (o:=.cells #[.int .i64 a0_0,.slice A0_1 l0_1.length c0_1] 30 (0,0)) (by (with_reducible repeat (first|refine blk_drewN ?_ _|refine blk_drew ?_|refine blk_alloc ?_ _));exact BK1073.out)):gb1075 ≠ gb1073));clear BK1073;clear HB;have BK1073:=n0_;have HB:=n1_;have BK1075:=n2_;have GW1075:=n3_;have GE1075:=n4_;have NB1073_1075:=n5_;have NB1075_1073:=n6_;clear n0_ n1_ n2_ n3_ n4_ n5_ n6_;clear hb hbox hg;have hnb18:=NB1075_1073.out;have hnc18:=NB1073_1075.out;have hcz19_0:w17.cell? ⟨gb1075,0,none⟩=some (.int .i64 0):=(blk_cell BK1075.out 0).trans rfl;have hcz19_1:w17.cell? ⟨gb1075,1,none⟩=some (.int .i64 0):=(blk_cell BK1075.out 1).trans rfl;have hcz19_2:w17.cell? ⟨gb1075,2,none⟩=some (.int .i64 0):=(blk_cell BK1075.out 2).trans rfl;have hfz19_0:=blk_frozen BK1075.out 0;have hfz19_1:=blk_frozen BK1075.out 1;have hfz19_2:=blk_frozen BK1075.out 2)|((with_reducible refine gate_callee (f:=87) rfl ?_);refine goesL_ (some 17) rfl rfl Try.func87 (by kernel_rfl) rfl #[.int .i64 ((rd_T143 l1 x10_1).f0),.int .i64 x5_1,.int .i64 1000000] rfl (by (try simp only [List.map_toArray,List.map_cons,List.map_nil]);first|done|rfl|(simp only [List.length_drop,List.length_take];rfl)) ?_;(with_reducible refine (spec_l1in.calls ((rd_T143 l1 x10_1).f0) x5_1 1000000 true _ A7.out).mono ?_);rintro e w' ⟨rfl,⟨nd,rfl⟩⟩;refine ⟨_,rfl,?_⟩;have hcz20_0:w17.cell? ⟨gb1073,0,none⟩=some (.int .i64 a0_0):=(blk_cell BK1073.out 0).trans rfl;have hcz20_1:w17.cell? ⟨gb1073,1,none⟩=some (.slice A0_1 l0_1.length c0_1):=(blk_cell BK1073.out 1).trans rfl;have hfz20_0:=blk_frozen BK1073.out 0;have hfz20_1:=blk_frozen BK1073.out 1)|(go_at_call 87;(with_reducible refine (spec_l1in.calls ((rd_T143 l1 x10_1).f1) 0 (wrap64 ((l0_1.length:Int) - 1)) true _ A9.out).mono ?_);rintro e w' ⟨rfl,⟨nd,rfl⟩⟩))
         go_roundg k1
         case measure=>have:=HK1.out;omega
         case rel=>exact ⟨((rd_T143 l1 x10_1).f0),(wrap64 (x10_1+1)),(by first|rfl|(simp;done)|(simp [*];done)),(by first|rfl|(simp;done)|(simp [*];done)),H',⟨by have:=HK1.out;omega⟩,⟨by (with_reducible repeat (first|refine blk_drewN ?_ _|refine blk_drew ?_|refine blk_alloc ?_ _));refine blk_far ?_ NB1073_1075.out _;(with_reducible repeat (first|refine blk_drewN ?_ _|refine blk_drew ?_|refine blk_alloc ?_ _));refine blk_far ?_ NB1073_1075.out _;(with_reducible repeat (first|refine blk_drewN ?_ _|refine blk_drew ?_|refine blk_alloc ?_ _));refine blk_far ?_ NB1073_1075.out _;(with_reducible repeat (first|refine blk_drewN ?_ _|refine blk_drew ?_|refine blk_alloc ?_ _));exact BK1073.out⟩,⟨by repeat (first|(with_reducible first|exact HB.out|apply below_alloc|apply pw_below_drewN|apply below_drew1|refine below_set ?_ GE1073.out|refine below_set ?_ GE1075.out)|exact HB.out)⟩⟩
        rw [if_neg c16] at H
        have c16b0:(((rd_T143 l1 x10_1).f2)==(-1))=false:=beq_eq_false_iff_ne.mpr c16
        have c16b1:(((rd_T143 l1 x10_1).f2) != (-1))=true:=bne_iff_ne.mpr c16
        obtain rfl:=Option.some.inj H
        have p1074:0≤(x10_1:Int):=of_decide_eq_true (by first|(with_reducible assumption)|assumption)
        have q1074:x10_1<(l1.length:Int):=of_decide_eq_true (by first|(with_reducible assumption)|assumption)
        obtain ⟨ad1074,e1074,hx1074_0,hx1074_1,hx1074_2⟩:=at_T143 HR1.out x10_1 p1074 q1074
        cases e1074
        replace hx1074_0:=(HB.out.cell (World.block_lt_of_cell? w _ hx1074_0)).trans hx1074_0
        replace hx1074_1:=(HB.out.cell (World.block_lt_of_cell? w _ hx1074_1)).trans hx1074_1
        replace hx1074_2:=(HB.out.cell (World.block_lt_of_cell? w _ hx1074_2)).trans hx1074_2
        replace p1074:=eq_true p1074
        replace q1074:=eq_true q1074
        go_wp2_with (first|((with_reducible refine gate_dst (N:=7) rfl ?_);(try (refine gate_guard (by rfl) ?_;dsimp only));refine box_event ?hg (N:=7) ?hd (cs:=#[.int .i64 0,.int .i64 0,.int .i64 0]) (t:=143) ?hr ?_;(case hd=>rfl);(case hg=>rfl);(case hr=>first|(go_simp;done)|(go_simp;rfl));intro gb1075 hg w21 hbox hb;have n0_:=Aside0.mk (blk_below (g:=gb1073) (o:=.cells #[.int .i64 a0_0,.slice A0_1 l0_1.length c0_1] 30 (0,0)) (by (with_reducible repeat (first|refine blk_drewN ?_ _|refine blk_drew ?_|refine blk_alloc ?_ _));exact BK1073.out) hb);have n1_:=Aside0.mk (below_step (by repeat (first|(with_reducible first|exact HB.out|apply below_alloc|apply pw_below_drewN|apply below_drew1|refine below_set ?_ GE1073.out)|exact HB.out)) hb);have n2_:=Aside0.mk (hbox);have n3_:=Aside0.mk ((by rw [hg];exact (below_size (by repeat (first|(with_reducible first|exact HB.out|apply below_alloc|apply pw_below_drewN|apply below_drew1|refine below_set ?_ GE1073.out)|exact HB.out))):w.heap.size≤gb1075));have n4_:=Aside0.mk ((by rw [hg];exact (below_size (by repeat (first|(with_reducible first|exact HB.out|apply below_alloc|apply pw_below_drewN|apply below_drew1|refine below_set ?_ GE1073.out)|exact HB.out))):w.heap.size≤gb1075));have n5_:=Aside0.mk ((by rw [hg];exact Nat.ne_of_lt (blk_lt (g:=gb1073) (o:=.cells #[.int .i64 a0_0,.slice A0_1 l0_1.length c0_1] 30 (0,0)) (by (with_reducible repeat (first|refine blk_drewN ?_ _|refine blk_drew ?_|refine blk_alloc ?_ _));exact BK1073.out)):gb1073 ≠ gb1075));have n6_:=Aside0.mk ((by rw [hg];exact Nat.ne_of_gt (blk_lt (g:=gb1073) (o:=.cells #[.int .i64 a0_0,.slice A0_1 l0_1.length c0_1] 30 (0,0)) (by (with_reducible repeat (first|refine blk_drewN ?_ _|refine blk_drew ?_|refine blk_alloc ?_ _));exact BK1073.out)):gb1075 ≠ gb1073));clear BK1073;clear HB;have BK1073:=n0_;have HB:=n1_;have BK1075:=n2_;have GW1075:=n3_;have GE1075:=n4_;have NB1073_1075:=n5_;have NB1075_1073:=n6_;clear n0_ n1_ n2_ n3_ n4_ n5_ n6_;clear hb hbox hg;have hnb22:=NB1075_1073.out;have hnc22:=NB1073_1075.out;have hcz23_0:w21.cell? ⟨gb1075,0,none⟩=some (.int .i64 0):=(blk_cell BK1075.out 0).trans rfl;have hcz23_1:w21.cell? ⟨gb1075,1,none⟩=some (.int .i64 0):=(blk_cell BK1075.out 1).trans rfl;have hcz23_2:w21.cell? ⟨gb1075,2,none⟩=some (.int .i64 0):=(blk_cell BK1075.out 2).trans rfl;have hfz23_0:=blk_frozen BK1075.out 0;have hfz23_1:=blk_frozen BK1075.out 1;have hfz23_2:=blk_frozen BK1075.out 2)|((with_reducible refine gate_callee (f:=87) rfl ?_);refine goesL_ (some 17) rfl rfl Try.func87 (by kernel_rfl) rfl #[.int .i64 ((rd_T143 l1 x10_1).f0),.int .i64 x5_1,.int .i64 1000000] rfl (by (try simp only [List.map_toArray,List.map_cons,List.map_nil]);first|done|rfl|(simp only [List.length_drop,List.length_take];rfl)) ?_;(with_reducible refine (spec_l1in.calls ((rd_T143 l1 x10_1).f0) x5_1 1000000 true _ A7.out).mono ?_);rintro e w' ⟨rfl,⟨nd,rfl⟩⟩;refine ⟨_,rfl,?_⟩;have hcz24_0:w21.cell? ⟨gb1073,0,none⟩=some (.int .i64 a0_0):=(blk_cell BK1073.out 0).trans rfl;have hcz24_1:w21.cell? ⟨gb1073,1,none⟩=some (.slice A0_1 l0_1.length c0_1):=(blk_cell BK1073.out 1).trans rfl;have hfz24_0:=blk_frozen BK1073.out 0;have hfz24_1:=blk_frozen BK1073.out 1)|(go_at_call 87;(with_reducible refine (spec_l1in.calls ((rd_T143 l1 x10_1).f1) 0 (wrap64 ((l0_1.length:Int) - 1)) true _ A9.out).mono ?_);rintro e w' ⟨rfl,⟨nd,rfl⟩⟩))
        go_ret
        exact ⟨by first|rfl|(simp [errW_none,errW_some] <;> rfl)|(simp [*,errW_none,errW_some] <;> rfl),by repeat (first|(with_reducible first|exact HB.out|apply below_alloc|apply pw_below_drewN|apply below_drew1|refine below_set ?_ GE1073.out|refine below_set ?_ GE1075.out)|exact HB.out)⟩
       replace c10:=Bool.eq_false_iff.mpr c10
       subst c10
       have H1:(some false)=some r:=by rw [if_neg (show ¬ (false=true) by decide)] at H;exact H
       clear H
       have H:=H1
       clear H1
       obtain rfl:=Option.some.inj H
       have p1074:0≤(x10_1:Int):=of_decide_eq_true (by first|(with_reducible assumption)|assumption)
       have q1074:x10_1<(l1.length:Int):=of_decide_eq_true (by first|(with_reducible assumption)|assumption)
       obtain ⟨ad1074,e1074,hx1074_0,hx1074_1,hx1074_2⟩:=at_T143 HR1.out x10_1 p1074 q1074
       cases e1074
       replace hx1074_0:=(HB.out.cell (World.block_lt_of_cell? w _ hx1074_0)).trans hx1074_0
       replace hx1074_1:=(HB.out.cell (World.block_lt_of_cell? w _ hx1074_1)).trans hx1074_1
       replace hx1074_2:=(HB.out.cell (World.block_lt_of_cell? w _ hx1074_2)).trans hx1074_2
       replace p1074:=eq_true p1074
       replace q1074:=eq_true q1074
       go_wp2_with (first|((with_reducible refine gate_dst (N:=7) rfl ?_);(try (refine gate_guard (by rfl) ?_;dsimp only));refine box_event ?hg (N:=7) ?hd (cs:=#[.int .i64 0,.int .i64 0,.int .i64 0]) (t:=143) ?hr ?_;(case hd=>rfl);(case hg=>rfl);(case hr=>first|(go_simp;done)|(go_simp;rfl));intro gb1075 hg w25 hbox hb;have n0_:=Aside0.mk (blk_below (g:=gb1073) (o:=.cells #[.int .i64 a0_0,.slice A0_1 l0_1.length c0_1] 30 (0,0)) (by (with_reducible repeat (first|refine blk_drewN ?_ _|refine blk_drew ?_|refine blk_alloc ?_ _));exact BK1073.out) hb);have n1_:=Aside0.mk (below_step (by repeat (first|(with_reducible first|exact HB.out|apply below_alloc|apply pw_below_drewN|apply below_drew1|refine below_set ?_ GE1073.out)|exact HB.out)) hb);have n2_:=Aside0.mk (hbox);have n3_:=Aside0.mk ((by rw [hg];exact (below_size (by repeat (first|(with_reducible first|exact HB.out|apply below_alloc|apply pw_below_drewN|apply below_drew1|refine below_set ?_ GE1073.out)|exact HB.out))):w.heap.size≤gb1075));have n4_:=Aside0.mk ((by rw [hg];exact (below_size (by repeat (first|(with_reducible first|exact HB.out|apply below_alloc|apply pw_below_drewN|apply below_drew1|refine below_set ?_ GE1073.out)|exact HB.out))):w.heap.size≤gb1075));have n5_:=Aside0.mk ((by rw [hg];exact Nat.ne_of_lt (blk_lt (g:=gb1073) (o:=.cells #[.int .i64 a0_0,.slice A0_1 l0_1.length c0_1] 30 (0,0)) (by (with_reducible repeat (first|refine blk_drewN ?_ _|refine blk_drew ?_|refine blk_alloc ?_ _));exact BK1073.out)):gb1073 ≠ gb1075));have n6_:=Aside0.mk ((by rw [hg];exact Nat.ne_of_gt (blk_lt (g:=gb1073) (o:=.cells #[.int .i64 a0_0,.slice A0_1 l0_1.length c0_1] 30 (0,0)) (by (with_reducible repeat (first|refine blk_drewN ?_ _|refine blk_drew ?_|refine blk_alloc ?_ _));exact BK1073.out)):gb1075 ≠ gb1073));clear BK1073;clear HB;have BK1073:=n0_;have HB:=n1_;have BK1075:=n2_;have GW1075:=n3_;have GE1075:=n4_;have NB1073_1075:=n5_;have NB1075_1073:=n6_;clear n0_ n1_ n2_ n3_ n4_ n5_ n6_;clear hb hbox hg;have hnb26:=NB1075_1073.out;have hnc26:=NB1073_1075.out;have hcz27_0:w25.cell? ⟨gb1075,0,none⟩=some (.int .i64 0):=(blk_cell BK1075.out 0).trans rfl;have hcz27_1:w25.cell? ⟨gb1075,1,none⟩=some (.int .i64 0):=(blk_cell BK1075.out 1).trans rfl;have hcz27_2:w25.cell? ⟨gb1075,2,none⟩=some (.int .i64 0):=(blk_cell BK1075.out 2).trans rfl;have hfz27_0:=blk_frozen BK1075.out 0;have hfz27_1:=blk_frozen BK1075.out 1;have hfz27_2:=blk_frozen BK1075.out 2)|((with_reducible refine gate_callee (f:=87) rfl ?_);refine goesL_ (some 17) rfl rfl Try.func87 (by kernel_rfl) rfl #[.int .i64 ((rd_T143 l1 x10_1).f0),.int .i64 x5_1,.int .i64 1000000] rfl (by (try simp only [List.map_toArray,List.map_cons,List.map_nil]);first|done|rfl|(simp only [List.length_drop,List.length_take];rfl)) ?_;(with_reducible refine (spec_l1in.calls ((rd_T143 l1 x10_1).f0) x5_1 1000000 true _ A7.out).mono ?_);rintro e w' ⟨rfl,⟨nd,rfl⟩⟩;refine ⟨_,rfl,?_⟩;have hcz28_0:w25.cell? ⟨gb1073,0,none⟩=some (.int .i64 a0_0):=(blk_cell BK1073.out 0).trans rfl;have hcz28_1:w25.cell? ⟨gb1073,1,none⟩=some (.slice A0_1 l0_1.length c0_1):=(blk_cell BK1073.out 1).trans rfl;have hfz28_0:=blk_frozen BK1073.out 0;have hfz28_1:=blk_frozen BK1073.out 1)|(go_at_call 87;(with_reducible refine (spec_l1in.calls ((rd_T143 l1 x10_1).f1) 0 (wrap64 ((l0_1.length:Int) - 1)) false _ A9.out).mono ?_);rintro e w' ⟨rfl,⟨nd,rfl⟩⟩))
       go_ret
       exact ⟨by first|rfl|(simp [errW_none,errW_some] <;> rfl)|(simp [*,errW_none,errW_some] <;> rfl),by repeat (first|(with_reducible first|exact HB.out|apply below_alloc|apply pw_below_drewN|apply below_drew1|refine below_set ?_ GE1073.out|refine below_set ?_ GE1075.out)|exact HB.out)⟩
      replace c8:=Bool.eq_false_iff.mpr c8
      subst c8
      have H1:(some false)=some r:=by rw [if_neg (show ¬ (false=true) by decide)] at H;exact H
      clear H
      have H:=H1
      clear H1
      obtain rfl:=Option.some.inj H
      have p1074:0≤(x10_1:Int):=of_decide_eq_true (by first|(with_reducible assumption)|assumption)
      have q1074:x10_1<(l1.length:Int):=of_decide_eq_true (by first|(with_reducible assumption)|assumption)
      obtain ⟨ad1074,e1074,hx1074_0,hx1074_1,hx1074_2⟩:=at_T143 HR1.out x10_1 p1074 q1074
      cases e1074
      replace hx1074_0:=(HB.out.cell (World.block_lt_of_cell? w _ hx1074_0)).trans hx1074_0
      replace hx1074_1:=(HB.out.cell (World.block_lt_of_cell? w _ hx1074_1)).trans hx1074_1
      replace hx1074_2:=(HB.out.cell (World.block_lt_of_cell? w _ hx1074_2)).trans hx1074_2
      replace p1074:=eq_true p1074
      replace q1074:=eq_true q1074
      go_wp2_with (first|((with_reducible refine gate_dst (N:=7) rfl ?_);(try (refine gate_guard (by rfl) ?_;dsimp only));refine box_event ?hg (N:=7) ?hd (cs:=#[.int .i64 0,.int .i64 0,.int .i64 0]) (t:=143) ?hr ?_;(case hd=>rfl);(case hg=>rfl);(case hr=>first|(go_simp;done)|(go_simp;rfl));intro gb1075 hg w29 hbox hb;have n0_:=Aside0.mk (blk_below (g:=gb1073) (o:=.cells #[.int .i64 a0_0,.slice A0_1 l0_1.length c0_1] 30 (0,0)) (by (with_reducible repeat (first|refine blk_drewN ?_ _|refine blk_drew ?_|refine blk_alloc ?_ _));exact BK1073.out) hb);have n1_:=Aside0.mk (below_step (by repeat (first|(with_reducible first|exact HB.out|apply below_alloc|apply pw_below_drewN|apply below_drew1|refine below_set ?_ GE1073.out)|exact HB.out)) hb);have n2_:=Aside0.mk (hbox);have n3_:=Aside0.mk ((by rw [hg];exact (below_size (by repeat (first|(with_reducible first|exact HB.out|apply below_alloc|apply pw_below_drewN|apply below_drew1|refine below_set ?_ GE1073.out)|exact HB.out))):w.heap.size≤gb1075));have n4_:=Aside0.mk ((by rw [hg];exact (below_size (by repeat (first|(with_reducible first|exact HB.out|apply below_alloc|apply pw_below_drewN|apply below_drew1|refine below_set ?_ GE1073.out)|exact HB.out))):w.heap.size≤gb1075));have n5_:=Aside0.mk ((by rw [hg];exact Nat.ne_of_lt (blk_lt (g:=gb1073) (o:=.cells #[.int .i64 a0_0,.slice A0_1 l0_1.length c0_1] 30 (0,0)) (by (with_reducible repeat (first|refine blk_drewN ?_ _|refine blk_drew ?_|refine blk_alloc ?_ _));exact BK1073.out)):gb1073 ≠ gb1075));have n6_:=Aside0.mk ((by rw [hg];exact Nat.ne_of_gt (blk_lt (g:=gb1073) (o:=.cells #[.int .i64 a0_0,.slice A0_1 l0_1.length c0_1] 30 (0,0)) (by (with_reducible repeat (first|refine blk_drewN ?_ _|refine blk_drew ?_|refine blk_alloc ?_ _));exact BK1073.out)):gb1075 ≠ gb1073));clear BK1073;clear HB;have BK1073:=n0_;have HB:=n1_;have BK1075:=n2_;have GW1075:=n3_;have GE1075:=n4_;have NB1073_1075:=n5_;have NB1075_1073:=n6_;clear n0_ n1_ n2_ n3_ n4_ n5_ n6_;clear hb hbox hg;have hnb30:=NB1075_1073.out;have hnc30:=NB1073_1075.out;have hcz31_0:w29.cell? ⟨gb1075,0,none⟩=some (.int .i64 0):=(blk_cell BK1075.out 0).trans rfl;have hcz31_1:w29.cell? ⟨gb1075,1,none⟩=some (.int .i64 0):=(blk_cell BK1075.out 1).trans rfl;have hcz31_2:w29.cell? ⟨gb1075,2,none⟩=some (.int .i64 0):=(blk_cell BK1075.out 2).trans rfl;have hfz31_0:=blk_frozen BK1075.out 0;have hfz31_1:=blk_frozen BK1075.out 1;have hfz31_2:=blk_frozen BK1075.out 2)|((with_reducible refine gate_callee (f:=87) rfl ?_);refine goesL_ (some 17) rfl rfl Try.func87 (by kernel_rfl) rfl #[.int .i64 ((rd_T143 l1 x10_1).f0),.int .i64 x5_1,.int .i64 1000000] rfl (by (try simp only [List.map_toArray,List.map_cons,List.map_nil]);first|done|rfl|(simp only [List.length_drop,List.length_take];rfl)) ?_;(with_reducible refine (spec_l1in.calls ((rd_T143 l1 x10_1).f0) x5_1 1000000 false _ A7.out).mono ?_);rintro e w' ⟨rfl,⟨nd,rfl⟩⟩;refine ⟨_,rfl,?_⟩))
      go_ret
      exact ⟨by first|rfl|(simp [errW_none,errW_some] <;> rfl)|(simp [*,errW_none,errW_some] <;> rfl),by repeat (first|(with_reducible first|exact HB.out|apply below_alloc|apply pw_below_drewN|apply below_drew1|refine below_set ?_ GE1073.out|refine below_set ?_ GE1075.out)|exact HB.out)⟩
     rw [if_neg c6] at H
     exact absurd H (by simp)
    rw [if_neg c5] at H
    exact absurd H (by simp)
   rw [if_neg c4] at H
   have c4b0:decide (x10_1<(l1.length:Int))=false:=decide_eq_false c4
   clear c4
   obtain rfl:=Option.some.inj H
   go_wp2
   go_ret
   exact ⟨by first|rfl|(simp [errW_none,errW_some] <;> rfl)|(simp [*,errW_none,errW_some] <;> rfl),by repeat (first|(with_reducible first|exact HB.out|apply below_alloc|apply pw_below_drewN|apply below_drew1|refine below_set ?_ GE1073.out)|exact HB.out)⟩
end Go.Proofs.Ytpdnabhpkdchjaa.P
namespace Go.Proofs.Ytpdnabhpkdchjaa.P
open Go.RowKit Go.Proofs.YtpdnabhpkdchjaaW.PrintWords Go.Proofs.YtpdnabhpkdchjaaW.PrintLast Go.Proofs.YtpdnabhpkdchjaaW.PrintMore
attribute [local go_sem] max2_int min2_int max_two min_two max_three min_three max_four min_four
set_option linter.unusedVariables false
set_option linter.unusedSimpArgs false
def spec_l1axles.l0:Nat→List Int→Int→List Int→Int→Int→Option (Bool)
 | 0,_,_,_,_,_=>none
 | k+1,x0,x3,x6,x7,x8=>if x8<x7 then (if 0≤x8 then (if x8<(x6.length:Int) then ((spec_l1in.f (rd x6 x8) x3 1000000).bind fun t1079=>(if t1079=true then (spec_l1axles.l0 k x0 (rd x6 x8) x6 x7 (wrap64 (x8+1))) else (some false))) else (none)) else (none)) else (some (decide ((x0.length:Int)≤200)))
def spec_l1axles.f (k:Nat) (l0:List Int):Option (Bool):=spec_l1axles.l0 k l0 0 l0 (l0.length:Int) 0
set_option maxHeartbeats 8000000 in
set_option maxRecDepth 100000 in
theorem spec_l1axles.calls (k:Nat) (A0:Option Addr) (c0:Nat) (l0:List Int) (r:Bool) (w:World) (hr0:Kd.C (Kd.int .i64) w A0 l0.length l0) (hc0:l0.length≤c0) (h:spec_l1axles.f k l0=some r) :
  Calls Try.prog 124 #[.slice A0 l0.length c0] w fun e w'=>e=.returned (.bool r)∧Drawn0 w w':=by
 have HR0:=Aside0.mk hr0
 have HC0:=Aside0.mk hc0
 clear hr0 hc0
 have H:(spec_l1axles.l0 k l0 0 l0 (l0.length:Int) 0)=some r:=h
 clear h
 have H':=Aside0.mk H
 clear H
 go_enter Try.func124,Try.ntmps124
 go_wp2
 go_loopg [3,8] k (fun kq v3 v8 w'=>∃ (x3_1:Int) (x8_1:Int),v3=.int .i64 x3_1∧v8=.int .i64 x8_1∧Aside0 (spec_l1axles.l0 kq l0 x3_1 l0 (l0.length:Int) x8_1=some r)∧Aside0 (kq≤k)∧Drawn0 w w')
 case atStart=>exact ⟨(0),(0),(by first|rfl|(simp;done)|(simp [*];done)),(by first|rfl|(simp;done)|(simp [*];done)),H',⟨Nat.le_refl _⟩,by repeat (first|exact Drawn0.refl _|apply Drawn0.step)⟩
 case round =>
  clear H'
  try clear c1
  obtain ⟨x3_1,x8_1,rfl,rfl,HA,HK1,⟨m1,rfl⟩⟩:=hrel
  cases gk with
  | zero=>exact absurd HA.out (by simp [spec_l1axles.l0])
  | succ k1 =>
   have H:=HA.out
   clear HA
   simp only [spec_l1axles.l0] at H
   by_cases c2:x8_1<(l0.length:Int)
   ·rw [if_pos c2] at H
    have c2b0:decide (x8_1<(l0.length:Int))=true:=decide_eq_true c2
    clear c2
    by_cases c3:0≤x8_1
    ·rw [if_pos c3] at H
     have c3b0:decide (0≤x8_1)=true:=decide_eq_true c3
     clear c3
     by_cases c4:x8_1<(l0.length:Int)
     ·rw [if_pos c4] at H
      have c4b0:decide (x8_1<(l0.length:Int))=true:=decide_eq_true c4
      clear c4
      replace H:=Option.bind_eq_some_iff.mp H
      obtain ⟨t1079,A50,H⟩:=H
      replace H:(if t1079=true then (spec_l1axles.l0 k1 l0 (rd l0 x8_1) l0 (l0.length:Int) (wrap64 (x8_1+1))) else (some false))=some r:=H
      have A5:=Aside0.mk A50
      clear A50
      by_cases c6:t1079=true
      ·subst c6
       have H1:(spec_l1axles.l0 k1 l0 (rd l0 x8_1) l0 (l0.length:Int) (wrap64 (x8_1+1)))=some r:=by rw [if_pos rfl] at H;exact H
       clear H
       have H:=H1
       clear H1
       have H':=Aside0.mk H
       clear H
       have p1078:0≤(x8_1:Int):=of_decide_eq_true (by first|(with_reducible assumption)|assumption)
       have q1078:x8_1<(l0.length:Int):=of_decide_eq_true (by first|(with_reducible assumption)|assumption)
       obtain ⟨ad1078,e1078,hx1078_0⟩:=Kd.at_int HR0.out x8_1 p1078 q1078
       cases e1078
       replace p1078:=eq_true p1078
       replace q1078:=eq_true q1078
       go_wp2_with (first|((with_reducible refine gate_callee (f:=87) rfl ?_);refine goesL_ (some 14) rfl rfl Try.func87 (by kernel_rfl) rfl #[.int .i64 (rd l0 x8_1),.int .i64 x3_1,.int .i64 1000000] rfl (by (try simp only [List.map_toArray,List.map_cons,List.map_nil]);first|done|rfl|(simp only [List.length_drop,List.length_take];rfl)) ?_;(with_reducible refine (spec_l1in.calls (rd l0 x8_1) x3_1 1000000 true _ A5.out).mono ?_);rintro e w' ⟨rfl,⟨nd,rfl⟩⟩;refine ⟨_,rfl,?_⟩))
       go_roundg k1
       case measure=>have:=HK1.out;omega
       case rel=>exact ⟨(rd l0 x8_1),(wrap64 (x8_1+1)),(by first|rfl|(simp;done)|(simp [*];done)),(by first|rfl|(simp;done)|(simp [*];done)),H',⟨by have:=HK1.out;omega⟩,by repeat (first|exact Drawn0.refl _|apply Drawn0.step)⟩
      replace c6:=Bool.eq_false_iff.mpr c6
      subst c6
      have H1:(some false)=some r:=by rw [if_neg (show ¬ (false=true) by decide)] at H;exact H
      clear H
      have H:=H1
      clear H1
      obtain rfl:=Option.some.inj H
      have p1078:0≤(x8_1:Int):=of_decide_eq_true (by first|(with_reducible assumption)|assumption)
      have q1078:x8_1<(l0.length:Int):=of_decide_eq_true (by first|(with_reducible assumption)|assumption)
      obtain ⟨ad1078,e1078,hx1078_0⟩:=Kd.at_int HR0.out x8_1 p1078 q1078
      cases e1078
      replace p1078:=eq_true p1078
      replace q1078:=eq_true q1078
      go_wp2_with (first|((with_reducible refine gate_callee (f:=87) rfl ?_);refine goesL_ (some 14) rfl rfl Try.func87 (by kernel_rfl) rfl #[.int .i64 (rd l0 x8_1),.int .i64 x3_1,.int .i64 1000000] rfl (by (try simp only [List.map_toArray,List.map_cons,List.map_nil]);first|done|rfl|(simp only [List.length_drop,List.length_take];rfl)) ?_;(with_reducible refine (spec_l1in.calls (rd l0 x8_1) x3_1 1000000 false _ A5.out).mono ?_);rintro e w' ⟨rfl,⟨nd,rfl⟩⟩;refine ⟨_,rfl,?_⟩))
      go_ret
      exact ⟨by first|rfl|(simp;done)|(simp [*];done),by repeat (first|exact Drawn0.refl _|apply Drawn0.step)⟩
     rw [if_neg c4] at H
     exact absurd H (by simp)
    rw [if_neg c3] at H
    exact absurd H (by simp)
   rw [if_neg c2] at H
   have c2b0:decide (x8_1<(l0.length:Int))=false:=decide_eq_false c2
   clear c2
   obtain rfl:=Option.some.inj H
   go_wp2
   go_ret
   exact ⟨by first|rfl|(simp;done)|(simp [*];done),by repeat (first|exact Drawn0.refl _|apply Drawn0.step)⟩
end Go.Proofs.Ytpdnabhpkdchjaa.P
namespace Go.Proofs.Ytpdnabhpkdchjaa.P
open Go.RowKit Go.Proofs.YtpdnabhpkdchjaaW.PrintWords Go.Proofs.YtpdnabhpkdchjaaW.PrintLast Go.Proofs.YtpdnabhpkdchjaaW.PrintMore
attribute [local go_sem] max2_int min2_int max_two min_two max_three min_three max_four min_four
set_option linter.unusedVariables false
set_option linter.unusedSimpArgs false
def spec_l1before.f (a0_0:Int) (a0_1:Int) (a0_2:Int) (a1_0:Int) (a1_1:Int) (a1_2:Int):Option (Bool):=if a0_0=a1_0 then (some (decide (a0_1<a1_1))) else (some (decide (a0_0<a1_0)))
set_option maxHeartbeats 8000000 in
set_option maxRecDepth 100000 in
theorem spec_l1before.calls (a0_0:Int) (a0_1:Int) (a0_2:Int) (a1_0:Int) (a1_1:Int) (a1_2:Int) (r:Bool) (w:World) (h:spec_l1before.f a0_0 a0_1 a0_2 a1_0 a1_1 a1_2=some r) :
  Calls Try.prog 125 #[.agg #[.int .i64 a0_0,.int .i64 a0_1,.int .i64 a0_2],.agg #[.int .i64 a1_0,.int .i64 a1_1,.int .i64 a1_2]] w fun e w'=>e=.returned (.bool r)∧Below w.heap.size w w':=by
 have hu154:=Try.underlying154
 have HB:=Aside0.mk (Below.refl w.heap.size w)
 have H:(if a0_0=a1_0 then (some (decide (a0_1<a1_1))) else (some (decide (a0_0<a1_0))))=some r:=h
 clear h
 by_cases c3:a0_0=a1_0
 ·rw [if_pos c3] at H
  have c3b0:(a0_0==a1_0)=true:=beq_iff_eq.mpr c3
  have c3b1:(a0_0 != a1_0)=false:=bne_eq_false_iff_eq.mpr c3
  clear c3
  obtain rfl:=Option.some.inj H
  go_enter Try.func125,Try.ntmps125
  go_wp2_with (first|((with_reducible refine gate_dst (N:=2) rfl ?_);refine box_event ?hg (N:=2) ?hd (cs:=#[.int .i64 a0_0,.int .i64 a0_1,.int .i64 a0_2]) (t:=154) ?hr ?_;(case hd=>rfl);(case hg=>rfl);(case hr=>first|(go_simp;done)|(go_simp;rfl));intro gb1080 hg w4 hbox hb;have n0_:=Aside0.mk (below_step (by repeat (first|(with_reducible first|exact HB.out|apply below_alloc|apply pw_below_drewN|apply below_drew1)|exact HB.out)) hb);have n1_:=Aside0.mk (hbox);have n2_:=Aside0.mk ((by rw [hg];exact (below_size (by repeat (first|(with_reducible first|exact HB.out|apply below_alloc|apply pw_below_drewN|apply below_drew1)|exact HB.out))):w.heap.size≤gb1080));have n3_:=Aside0.mk ((by rw [hg];exact (below_size (by repeat (first|(with_reducible first|exact HB.out|apply below_alloc|apply pw_below_drewN|apply below_drew1)|exact HB.out))):w.heap.size≤gb1080));clear HB;have HB:=n0_;have BK1080:=n1_;have GW1080:=n2_;have GE1080:=n3_;clear n0_ n1_ n2_ n3_;clear hb hbox hg)|((with_reducible refine gate_dst (N:=3) rfl ?_);refine box_event ?hg (N:=3) ?hd (cs:=#[.int .i64 a1_0,.int .i64 a1_1,.int .i64 a1_2]) (t:=154) ?hr ?_;(case hd=>rfl);(case hg=>rfl);(case hr=>first|(go_simp;done)|(go_simp;rfl));intro gb1081 hg w5 hbox hb;have n0_:=Aside0.mk (blk_below (g:=gb1080) (o:=.cells #[.int .i64 a0_0,.int .i64 a0_1,.int .i64 a0_2] 154 (0,0)) (by (with_reducible repeat (first|refine blk_drewN ?_ _|refine blk_drew ?_|refine blk_alloc ?_ _));exact BK1080.out) hb);have n1_:=Aside0.mk (below_step (by repeat (first|(with_reducible first|exact HB.out|apply below_alloc|apply pw_below_drewN|apply below_drew1|refine below_set ?_ GE1080.out)|exact HB.out)) hb);have n2_:=Aside0.mk (hbox);have n3_:=Aside0.mk ((by rw [hg];exact (below_size (by repeat (first|(with_reducible first|exact HB.out|apply below_alloc|apply pw_below_drewN|apply below_drew1|refine below_set ?_ GE1080.out)|exact HB.out))):w.heap.size≤gb1081));have n4_:=Aside0.mk ((by rw [hg];exact (below_size (by repeat (first|(with_reducible first|exact HB.out|apply below_alloc|apply pw_below_drewN|apply below_drew1|refine below_set ?_ GE1080.out)|exact HB.out))):w.heap.size≤gb1081));have n5_:=Aside0.mk ((by rw [hg];exact Nat.ne_of_lt (blk_lt (g:=gb1080) (o:=.cells #[.int .i64 a0_0,.int .i64 a0_1,.int .i64 a0_2] 154 (0,0)) (by (with_reducible repeat (first|refine blk_drewN ?_ _|refine blk_drew ?_|refine blk_alloc ?_ _));exact BK1080.out)):gb1080 ≠ gb1081));have n6_:=Aside0.mk ((by rw [hg];exact Nat.ne_of_gt (blk_lt (g:=gb1080) (o:=.cells #[.int .i64 a0_0,.int .i64 a0_1,.int .i64 a0_2] 154 (0,0)) (by (with_reducible repeat (first|refine blk_drewN ?_ _|refine blk_drew ?_|refine blk_alloc ?_ _));exact BK1080.out)):gb1081 ≠ gb1080));clear BK1080;clear HB;have BK1080:=n0_;have HB:=n1_;have BK1081:=n2_;have GW1081:=n3_;have GE1081:=n4_;have NB1080_1081:=n5_;have NB1081_1080:=n6_;clear n0_ n1_ n2_ n3_ n4_ n5_ n6_;clear hb hbox hg;have hnb6:=NB1080_1081.out;have hnc6:=NB1081_1080.out;have hcz7_0:w5.cell? ⟨gb1080,0,none⟩=some (.int .i64 a0_0):=(blk_cell BK1080.out 0).trans rfl;have hcz7_1:w5.cell? ⟨gb1080,1,none⟩=some (.int .i64 a0_1):=(blk_cell BK1080.out 1).trans rfl;have hcz7_2:w5.cell? ⟨gb1080,2,none⟩=some (.int .i64 a0_2):=(blk_cell BK1080.out 2).trans rfl;have hfz7_0:=blk_frozen BK1080.out 0;have hfz7_1:=blk_frozen BK1080.out 1;have hfz7_2:=blk_frozen BK1080.out 2;have hcz8_0:w5.cell? ⟨gb1081,0,none⟩=some (.int .i64 a1_0):=(blk_cell BK1081.out 0).trans rfl;have hcz8_1:w5.cell? ⟨gb1081,1,none⟩=some (.int .i64 a1_1):=(blk_cell BK1081.out 1).trans rfl;have hcz8_2:w5.cell? ⟨gb1081,2,none⟩=some (.int .i64 a1_2):=(blk_cell BK1081.out 2).trans rfl;have hfz8_0:=blk_frozen BK1081.out 0;have hfz8_1:=blk_frozen BK1081.out 1;have hfz8_2:=blk_frozen BK1081.out 2))
  go_ret
  exact ⟨by first|rfl|(simp [errW_none,errW_some] <;> rfl)|(simp [*,errW_none,errW_some] <;> rfl),by repeat (first|(with_reducible first|exact HB.out|apply below_alloc|apply pw_below_drewN|apply below_drew1|refine below_set ?_ GE1080.out|refine below_set ?_ GE1081.out)|exact HB.out)⟩
 rw [if_neg c3] at H
 have c3b0:(a0_0==a1_0)=false:=beq_eq_false_iff_ne.mpr c3
 have c3b1:(a0_0 != a1_0)=true:=bne_iff_ne.mpr c3
 obtain rfl:=Option.some.inj H
 go_enter Try.func125,Try.ntmps125
 go_wp2_with (first|((with_reducible refine gate_dst (N:=2) rfl ?_);refine box_event ?hg (N:=2) ?hd (cs:=#[.int .i64 a0_0,.int .i64 a0_1,.int .i64 a0_2]) (t:=154) ?hr ?_;(case hd=>rfl);(case hg=>rfl);(case hr=>first|(go_simp;done)|(go_simp;rfl));intro gb1080 hg w9 hbox hb;have n0_:=Aside0.mk (below_step (by repeat (first|(with_reducible first|exact HB.out|apply below_alloc|apply pw_below_drewN|apply below_drew1)|exact HB.out)) hb);have n1_:=Aside0.mk (hbox);have n2_:=Aside0.mk ((by rw [hg];exact (below_size (by repeat (first|(with_reducible first|exact HB.out|apply below_alloc|apply pw_below_drewN|apply below_drew1)|exact HB.out))):w.heap.size≤gb1080));have n3_:=Aside0.mk ((by rw [hg];exact (below_size (by repeat (first|(with_reducible first|exact HB.out|apply below_alloc|apply pw_below_drewN|apply below_drew1)|exact HB.out))):w.heap.size≤gb1080));clear HB;have HB:=n0_;have BK1080:=n1_;have GW1080:=n2_;have GE1080:=n3_;clear n0_ n1_ n2_ n3_;clear hb hbox hg)|((with_reducible refine gate_dst (N:=3) rfl ?_);refine box_event ?hg (N:=3) ?hd (cs:=#[.int .i64 a1_0,.int .i64 a1_1,.int .i64 a1_2]) (t:=154) ?hr ?_;(case hd=>rfl);(case hg=>rfl);(case hr=>first|(go_simp;done)|(go_simp;rfl));intro gb1081 hg w10 hbox hb;have n0_:=Aside0.mk (blk_below (g:=gb1080) (o:=.cells #[.int .i64 a0_0,.int .i64 a0_1,.int .i64 a0_2] 154 (0,0)) (by (with_reducible repeat (first|refine blk_drewN ?_ _|refine blk_drew ?_|refine blk_alloc ?_ _));exact BK1080.out) hb);have n1_:=Aside0.mk (below_step (by repeat (first|(with_reducible first|exact HB.out|apply below_alloc|apply pw_below_drewN|apply below_drew1|refine below_set ?_ GE1080.out)|exact HB.out)) hb);have n2_:=Aside0.mk (hbox);have n3_:=Aside0.mk ((by rw [hg];exact (below_size (by repeat (first|(with_reducible first|exact HB.out|apply below_alloc|apply pw_below_drewN|apply below_drew1|refine below_set ?_ GE1080.out)|exact HB.out))):w.heap.size≤gb1081));have n4_:=Aside0.mk ((by rw [hg];exact (below_size (by repeat (first|(with_reducible first|exact HB.out|apply below_alloc|apply pw_below_drewN|apply below_drew1|refine below_set ?_ GE1080.out)|exact HB.out))):w.heap.size≤gb1081));have n5_:=Aside0.mk ((by rw [hg];exact Nat.ne_of_lt (blk_lt (g:=gb1080) (o:=.cells #[.int .i64 a0_0,.int .i64 a0_1,.int .i64 a0_2] 154 (0,0)) (by (with_reducible repeat (first|refine blk_drewN ?_ _|refine blk_drew ?_|refine blk_alloc ?_ _));exact BK1080.out)):gb1080 ≠ gb1081));have n6_:=Aside0.mk ((by rw [hg];exact Nat.ne_of_gt (blk_lt (g:=gb1080) (o:=.cells #[.int .i64 a0_0,.int .i64 a0_1,.int .i64 a0_2] 154 (0,0)) (by (with_reducible repeat (first|refine blk_drewN ?_ _|refine blk_drew ?_|refine blk_alloc ?_ _));exact BK1080.out)):gb1081 ≠ gb1080));clear BK1080;clear HB;have BK1080:=n0_;have HB:=n1_;have BK1081:=n2_;have GW1081:=n3_;have GE1081:=n4_;have NB1080_1081:=n5_;have NB1081_1080:=n6_;clear n0_ n1_ n2_ n3_ n4_ n5_ n6_;clear hb hbox hg;have hnb11:=NB1080_1081.out;have hnc11:=NB1081_1080.out;have hcz12_0:w10.cell? ⟨gb1080,0,none⟩=some (.int .i64 a0_0):=(blk_cell BK1080.out 0).trans rfl;have hcz12_1:w10.cell? ⟨gb1080,1,none⟩=some (.int .i64 a0_1):=(blk_cell BK1080.out 1).trans rfl;have hcz12_2:w10.cell? ⟨gb1080,2,none⟩=some (.int .i64 a0_2):=(blk_cell BK1080.out 2).trans rfl;have hfz12_0:=blk_frozen BK1080.out 0;have hfz12_1:=blk_frozen BK1080.out 1;have hfz12_2:=blk_frozen BK1080.out 2;have hcz13_0:w10.cell? ⟨gb1081,0,none⟩=some (.int .i64 a1_0):=(blk_cell BK1081.out 0).trans rfl;have hcz13_1:w10.cell? ⟨gb1081,1,none⟩=some (.int .i64 a1_1):=(blk_cell BK1081.out 1).trans rfl;have hcz13_2:w10.cell? ⟨gb1081,2,none⟩=some (.int .i64 a1_2):=(blk_cell BK1081.out 2).trans rfl;have hfz13_0:=blk_frozen BK1081.out 0;have hfz13_1:=blk_frozen BK1081.out 1;have hfz13_2:=blk_frozen BK1081.out 2))
 go_ret
 exact ⟨by first|rfl|(simp [errW_none,errW_some] <;> rfl)|(simp [*,errW_none,errW_some] <;> rfl),by repeat (first|(with_reducible first|exact HB.out|apply below_alloc|apply pw_below_drewN|apply below_drew1|refine below_set ?_ GE1080.out|refine below_set ?_ GE1081.out)|exact HB.out)⟩
end Go.Proofs.Ytpdnabhpkdchjaa.P
namespace Go.Proofs.Ytpdnabhpkdchjaa.P
open Go.RowKit Go.Proofs.YtpdnabhpkdchjaaW.PrintWords Go.Proofs.YtpdnabhpkdchjaaW.PrintLast
set_option linter.unusedVariables false
set_option linter.unusedSimpArgs false
def prevP (ps : List S143) : Nat → Int
  | 0 => 0
  | k + 1 => (rd_T143 ps (k : Int)).f0
def prevA (ax : List Int) : Nat → Int
  | 0 => 0
  | k + 1 => rd ax (k : Int)
def postAt (l : List S88) (ps : List S143) (k : Nat) : Bool :=
  (decide (prevP ps k ≤ (rd_T143 ps (k : Int)).f0) && decide ((rd_T143 ps (k : Int)).f0 ≤ 1000000)) && (decide (0 ≤ (rd_T143 ps (k : Int)).f1) && decide ((rd_T143 ps (k : Int)).f1 < (l.length : Int))) && (decide ((rd_T143 ps (k : Int)).f2 = 1) || decide ((rd_T143 ps (k : Int)).f2 = -1))
def postsTo (l : List S88) (ps : List S143) : Nat → Bool
  | 0 => true
  | k + 1 => postsTo l ps k && postAt l ps k
def axleAt (ax : List Int) (k : Nat) : Bool := decide (prevA ax k ≤ rd ax (k : Int)) && decide (rd ax (k : Int) ≤ 1000000)
def axlesTo (ax : List Int) : Nat → Bool
  | 0 => true
  | k + 1 => axlesTo ax k && axleAt ax k
def passOk (n : Int) (l : List S88) (ps : List S143) (ax : List Int) (fr tt : Int) : Bool :=
  decide (layoutOk n l = 0) && (postsTo l ps ps.length && decide (ps.length ≤ 120)) && (axlesTo ax ax.length && decide (ax.length ≤ 200)) && (decide (0 ≤ fr) && decide (fr ≤ 1000000)) && (decide (fr ≤ tt) && decide (tt ≤ 1000000))
def passing (n : Int) (l : List S88) (ps : List S143) (ax : List Int) (fr tt : Int) : List S56 := if passOk n l ps ax fr tt = true then trainEvs ps ax fr tt else []
theorem postsTo_false {l : List S88} {ps : List S143} {i : Nat} (h : postsTo l ps i = false) : ∀ d, postsTo l ps (i + d) = false
  | 0 => h
  | d + 1 => by show (postsTo l ps (i + d) && _) = false; rw [postsTo_false h d]; rfl
theorem postsTo_at {l : List S88} {ps : List S143} : ∀ {n : Nat}, postsTo l ps n = true → ∀ k, k < n → postAt l ps k = true
  | n + 1, h, k, hk => by
    rw [postsTo, Bool.and_eq_true] at h
    by_cases e : k = n
    · rw [e]; exact h.2
    · exact postsTo_at h.1 k (by omega)
theorem axlesTo_false {ax : List Int} {i : Nat} (h : axlesTo ax i = false) : ∀ d, axlesTo ax (i + d) = false
  | 0 => h
  | d + 1 => by show (axlesTo ax (i + d) && _) = false; rw [axlesTo_false h d]; rfl
theorem axlesTo_at {ax : List Int} : ∀ {n : Nat}, axlesTo ax n = true → ∀ k, k < n → axleAt ax k = true
  | n + 1, h, k, hk => by
    rw [axlesTo, Bool.and_eq_true] at h
    by_cases e : k = n
    · rw [e]; exact h.2
    · exact axlesTo_at h.1 k (by omega)
theorem post_parts {l : List S88} {ps : List S143} {k : Nat} (h : postAt l ps k = true) : (prevP ps k ≤ (rd_T143 ps (k : Int)).f0 ∧ (rd_T143 ps (k : Int)).f0 ≤ 1000000) ∧ (0 ≤ (rd_T143 ps (k : Int)).f1 ∧ (rd_T143 ps (k : Int)).f1 < (l.length : Int)) ∧ ((rd_T143 ps (k : Int)).f2 = 1 ∨ (rd_T143 ps (k : Int)).f2 = -1) := by
  unfold postAt at h
  simp only [Bool.and_eq_true, Bool.or_eq_true, decide_eq_true_eq] at h
  exact ⟨h.1.1, h.1.2, h.2⟩
theorem axle_parts {ax : List Int} {k : Nat} (h : axleAt ax k = true) : prevA ax k ≤ rd ax (k : Int) ∧ rd ax (k : Int) ≤ 1000000 := by
  unfold axleAt at h
  simpa only [Bool.and_eq_true, decide_eq_true_eq] using h
theorem post_in {l : List S88} {ps : List S143} {n : Nat} (h : postsTo l ps n = true) : ∀ k, k < n → 0 ≤ (rd_T143 ps (k : Int)).f0 ∧ (rd_T143 ps (k : Int)).f0 ≤ 1000000
  | 0, hk => (post_parts (postsTo_at h 0 hk)).1
  | k + 1, hk => by
    have h1 := (post_parts (postsTo_at h (k + 1) hk)).1
    have h2 := post_in h k (by omega)
    have h3 : (rd_T143 ps (k : Int)).f0 ≤ (rd_T143 ps ((k + 1 : Nat) : Int)).f0 := h1.1
    exact ⟨by omega, h1.2⟩
theorem axle_in {ax : List Int} {n : Nat} (h : axlesTo ax n = true) : ∀ k : Nat, k < n → 0 ≤ rd ax (k : Int) ∧ rd ax (k : Int) ≤ 1000000
  | 0, hk => axle_parts (axlesTo_at h 0 hk)
  | k + 1, hk => by
    have h1 := axle_parts (axlesTo_at h (k + 1) hk)
    have h2 := axle_in h k (by omega)
    have h3 : rd ax (k : Int) ≤ rd ax ((k + 1 : Nat) : Int) := h1.1
    exact ⟨by omega, h1.2⟩
section
variable {n : Int} {l : List S88} {ps : List S143} {ax : List Int} {fr tt : Int}
theorem specPosts_l0 (hl : layoutOk n l = 0) (hp : ps.length ≤ 1048576) (d : Nat) : ∀ i : Nat, i + d = ps.length → postsTo l ps i = true →
    Ev (fun k => spec_l1posts.l0 k ps (prevP ps i) ps (ps.length : Int) (i : Int) n l) (postsTo l ps ps.length && decide (ps.length ≤ 120)) := by
  have hn := lay_n hl
  have w1 : wrap64 ((l.length : Int) - 1) = l.length - 1 := wrap_id (by omega) (by omega)
  induction d with
  | zero =>
    intro i hi h
    refine Ev.step1 fun k => ?_
    simp only [spec_l1posts.l0]
    rw [if_neg (by omega), show ps.length = i by omega, h]
    simp
    omega
  | succ d ih =>
    intro i hi h
    have hf : postAt l ps i = false → postsTo l ps ps.length = false := fun e => by
      have e1 : postsTo l ps (i + 1) = false := by rw [postsTo, h, e]; rfl
      have := postsTo_false e1 d
      rwa [show i + 1 + d = ps.length by omega] at this
    refine Ev.step (fun k => by simp only [spec_l1posts.l0, l1in_eq, Option.bind_some, w1, dec_le_pred, wrap_succ (show i < 9223372036854775807 by omega)]; rw [if_pos (by omega), if_pos (by omega), if_pos (by omega)]) ?_
    by_cases h1 : (decide (prevP ps i ≤ (rd_T143 ps (i : Int)).f0) && decide ((rd_T143 ps (i : Int)).f0 ≤ 1000000)) = true
    · refine Ev.ite_pos h1 ?_
      by_cases h2 : (decide (0 ≤ (rd_T143 ps (i : Int)).f1) && decide ((rd_T143 ps (i : Int)).f1 < (l.length : Int))) = true
      · refine Ev.ite_pos h2 ?_
        by_cases h3 : (rd_T143 ps (i : Int)).f2 = 1
        · exact Ev.ite_pos h3 (ih (i + 1) (by omega) (by rw [postsTo, h, postAt, h1, h2]; simp [h3]))
        · refine Ev.ite_neg h3 ?_
          by_cases h4 : (rd_T143 ps (i : Int)).f2 = -1
          · exact Ev.ite_pos h4 (ih (i + 1) (by omega) (by rw [postsTo, h, postAt, h1, h2]; simp [h4]))
          · refine Ev.ite_neg h4 ?_
            rw [hf (by rw [postAt, h1, h2]; simp [h3, h4])]
            exact Ev.now _
      · refine Ev.ite_neg h2 ?_
        rw [hf (by rw [postAt, h1, Bool.eq_false_iff.2 h2]; rfl)]
        exact Ev.now _
    · refine Ev.ite_neg h1 ?_
      rw [hf (by rw [postAt, Bool.eq_false_iff.2 h1]; rfl)]
      exact Ev.now _
theorem specAxles_l0 (hp : ax.length ≤ 1048576) (d : Nat) : ∀ i : Nat, i + d = ax.length → axlesTo ax i = true →
    Ev (fun k => spec_l1axles.l0 k ax (prevA ax i) ax (ax.length : Int) (i : Int)) (axlesTo ax ax.length && decide (ax.length ≤ 200)) := by
  induction d with
  | zero =>
    intro i hi h
    refine Ev.step1 fun k => ?_
    simp only [spec_l1axles.l0]
    rw [if_neg (by omega), show ax.length = i by omega, h]
    simp
    omega
  | succ d ih =>
    intro i hi h
    have hf : axleAt ax i = false → axlesTo ax ax.length = false := fun e => by
      have e1 : axlesTo ax (i + 1) = false := by rw [axlesTo, h, e]; rfl
      have := axlesTo_false e1 d
      rwa [show i + 1 + d = ax.length by omega] at this
    refine Ev.step (fun k => by simp only [spec_l1axles.l0, l1in_eq, Option.bind_some, wrap_succ (show i < 9223372036854775807 by omega)]; rw [if_pos (by omega), if_pos (by omega), if_pos (by omega)]) ?_
    by_cases h1 : (decide (prevA ax i ≤ rd ax (i : Int)) && decide (rd ax (i : Int) ≤ 1000000)) = true
    · exact Ev.ite_pos h1 (ih (i + 1) (by omega) (by rw [axlesTo, h, axleAt, h1]; rfl))
    · refine Ev.ite_neg h1 ?_
      rw [hf (by rw [axleAt, Bool.eq_false_iff.2 h1])]
      exact Ev.now _
end
end Go.Proofs.Ytpdnabhpkdchjaa.P
namespace Go.Proofs.Ytpdnabhpkdchjaa.P
open Go.RowKit Go.Proofs.YtpdnabhpkdchjaaW.PrintWords Go.Proofs.YtpdnabhpkdchjaaW.PrintLast
set_option linter.unusedVariables false
set_option linter.unusedSimpArgs false
def insAt (acc : List S154) (y : S154) (k : Nat) (rest : List S154) : List S154 := acc.take k ++ y :: (acc.drop k ++ rest)
theorem insAt_length {acc : List S154} {y : S154} {k : Nat} {rest : List S154} (hk : k ≤ acc.length) : (insAt acc y k rest).length = acc.length + 1 + rest.length := by
  unfold insAt
  simp only [List.length_append, List.length_cons, List.length_take, List.length_drop]
  omega
theorem insAt_rd {acc : List S154} {y : S154} {k : Nat} {rest : List S154} (hk : k ≤ acc.length) : rd_T154 (insAt acc y k rest) (k : Int) = y := by
  rw [rd_T154, Int.toNat_natCast, insAt, List.getD_eq_getElem?_getD, List.getElem?_append_right (by simp; omega)]
  simp [Nat.min_eq_left hk]
theorem insAt_pred {acc : List S154} {y : S154} {k : Nat} {rest : List S154} (hk : k < acc.length) : rd_T154 (insAt acc y (k + 1) rest) (k : Int) = rd_T154 acc (k : Int) := by
  rw [rd_T154, rd_T154, Int.toNat_natCast, insAt, List.getD_eq_getElem?_getD, List.getD_eq_getElem?_getD, List.getElem?_append_left (by simp; omega), List.getElem?_take_of_lt (by omega)]
theorem insAt_swap {acc : List S154} {y : S154} {k : Nat} {rest : List S154} (hk : k < acc.length) : ((insAt acc y (k + 1) rest).set (k + 1) (rd_T154 acc (k : Int))).set k y = insAt acc y k rest := by
  have e : rd_T154 acc (k : Int) = acc[k] := by rw [rd_T154, Int.toNat_natCast, List.getD_eq_getElem?_getD, List.getElem?_eq_getElem hk]; rfl
  apply List.ext_getElem?
  intro j
  rw [e]
  unfold insAt
  rw [List.drop_eq_getElem_cons hk]
  rw [List.take_succ_eq_append_getElem hk, List.append_assoc]
  rw [List.set_append_right _ _ (by simp; omega), List.set_append_right _ _ (by simp; omega)]
  have h1 : (List.take k acc).length = k := by simp; omega
  rw [h1, show k + 1 - k = 1 by omega, Nat.sub_self]
  rfl
theorem insM_at {acc : List S154} {y : S154} {k : Nat} (hs : acc.Pairwise (fun a b => lexLt a b = true)) (hk : k ≤ acc.length) (h1 : ∀ x ∈ acc.drop k, lexLt y x = true) (h2 : k = 0 ∨ lexLt y (rd_T154 acc ((k : Int) - 1)) = false) : insM y acc = acc.take k ++ y :: acc.drop k := by
  have ht : ∀ x ∈ acc.take k, lexLt y x = false := by
    rcases h2 with rfl | h2
    · intro x hx; rw [List.take_zero] at hx; cases hx
    · cases k with
      | zero => intro x hx; rw [List.take_zero] at hx; cases hx
      | succ k =>
        have hk' : k < acc.length := by omega
        have e : rd_T154 acc (((k + 1 : Nat) : Int) - 1) = acc[k] := by rw [show ((k + 1 : Nat) : Int) - 1 = (k : Int) by omega, rd_T154, Int.toNat_natCast, List.getD_eq_getElem?_getD, List.getElem?_eq_getElem hk']; rfl
        rw [e] at h2
        intro x hx
        rw [List.take_succ_eq_append_getElem hk', List.mem_append, List.mem_singleton] at hx
        rcases hx with hx | rfl
        · cases hq : lexLt y x
          · rfl
          · have hm : acc[k] ∈ acc.drop k := by rw [List.drop_eq_getElem_cons hk']; exact List.mem_cons_self
            rw [← List.take_append_drop k acc, List.pairwise_append] at hs
            rw [lexLt_trans hq (hs.2.2 x hx _ hm)] at h2
            cases h2
        · exact h2
  unfold insM
  conv => lhs; rw [← List.take_append_drop k acc]
  rw [List.filter_append, List.filter_append, List.filter_eq_self.2 (fun x hx => by rw [ht x hx]; rfl), List.filter_eq_nil_iff.2 (fun x hx => by rw [h1 x hx]; decide), List.filter_eq_nil_iff.2 (fun x hx => by rw [ht x hx]; decide), List.filter_eq_self.2 (fun x hx => h1 x hx)]
  simp
def befM (x y : S154) : Bool := if x.f0 = y.f0 then decide (x.f1 < y.f1) else decide (x.f0 < y.f0)
theorem befM_lex {x y : S154} (h : ixLt x y) : befM y x = lexLt y x := by
  unfold befM
  unfold ixLt at h
  split
  · rename_i e
    cases hq : lexLt y x
    · rw [lexLt_not] at hq; exact decide_eq_false (by omega)
    · rw [lexLt_iff] at hq; exact decide_eq_true (by omega)
  · rename_i e
    cases hq : lexLt y x
    · rw [lexLt_not] at hq; exact decide_eq_false (by omega)
    · rw [lexLt_iff] at hq; exact decide_eq_true (by omega)
def sortAt (xs : List S154) (i : Nat) : List S154 := sortM (xs.take i) ++ xs.drop i
theorem sortAt_one (xs : List S154) : sortAt xs 1 = xs := by
  cases xs with
  | nil => rfl
  | cons x xs => rfl
theorem sortAt_length (xs : List S154) (i : Nat) : (sortAt xs i).length = xs.length := by
  unfold sortAt
  rw [List.length_append, sortM_len, ← List.length_append, List.take_append_drop]
theorem sortAt_end (xs : List S154) {i : Nat} (h : xs.length ≤ i) : sortAt xs i = sortM xs := by
  unfold sortAt
  rw [List.take_of_length_le h, List.drop_eq_nil_of_le h, List.append_nil]
theorem sortAt_ins (xs : List S154) {i : Nat} (h : i < xs.length) : sortAt xs i = insAt (sortM (xs.take i)) xs[i] i (xs.drop (i + 1)) := by
  unfold sortAt insAt
  have hl : (sortM (xs.take i)).length = i := by rw [sortM_len]; simp; omega
  generalize sortM (xs.take i) = zs at hl ⊢
  rw [List.drop_eq_getElem_cons h, List.take_of_length_le (Nat.le_of_eq hl), List.drop_eq_nil_of_le (Nat.le_of_eq hl)]
  rfl
theorem sortAt_succ (xs : List S154) {i k : Nat} (hx : xs.Pairwise ixLt) (h : i < xs.length) (hk : k ≤ i) (h1 : ∀ x ∈ (sortM (xs.take i)).drop k, lexLt xs[i] x = true) (h2 : k = 0 ∨ lexLt xs[i] (rd_T154 (sortM (xs.take i)) ((k : Int) - 1)) = false) :
    insAt (sortM (xs.take i)) xs[i] k (xs.drop (i + 1)) = sortAt xs (i + 1) := by
  have hl : (sortM (xs.take i)).length = i := by rw [sortM_len]; simp; omega
  have hs : (sortM (xs.take i)).Pairwise (fun a b => lexLt a b = true) := sortM_sorted _ (ix_nodup (hx.sublist (List.take_sublist _ _)))
  unfold sortAt
  rw [List.take_succ_eq_append_getElem h, sortM_snoc, insM_at hs (by omega) h1 h2, insAt, List.append_assoc]
  rfl
theorem sort_ix {xs : List S154} {i : Nat} (hx : xs.Pairwise ixLt) (h : i < xs.length) : ∀ x ∈ sortM (xs.take i), ixLt x xs[i] := by
  intro x hm
  rw [mem_sortM] at hm
  have hd : xs[i] ∈ xs.drop i := by rw [List.drop_eq_getElem_cons h]; exact List.mem_cons_self
  rw [← List.take_append_drop i xs, List.pairwise_append] at hx
  exact hx.2.2 x hm _ hd
end Go.Proofs.Ytpdnabhpkdchjaa.P
namespace Go.Proofs.Ytpdnabhpkdchjaa.P
open Go.RowKit Go.Proofs.YtpdnabhpkdchjaaW.PrintWords Go.Proofs.YtpdnabhpkdchjaaW.PrintLast Go.Proofs.YtpdnabhpkdchjaaW.PrintMore
attribute [local go_sem] max2_int min2_int max_two min_two max_three min_three max_four min_four
set_option linter.unusedVariables false
set_option linter.unusedSimpArgs false
def laws_eqEvent.f (a0_0:Int) (a0_1:Int) (a0_2:Int) (a1_0:Int) (a1_1:Int) (a1_2:Int):Option (Bool):=if a0_0=a1_0 then (if a0_1=a1_1 then (if a0_2=a1_2 then (some true) else (some false)) else (some false)) else (some false)
set_option maxHeartbeats 8000000 in
set_option maxRecDepth 100000 in
theorem laws_eqEvent.calls (a0_0:Int) (a0_1:Int) (a0_2:Int) (a1_0:Int) (a1_1:Int) (a1_2:Int) (r:Bool) (w:World) (h:laws_eqEvent.f a0_0 a0_1 a0_2 a1_0 a1_1 a1_2=some r) :
  Calls Try.prog 107 #[.agg #[.int .i64 a0_0,.int .i64 a0_1,.int .i64 a0_2],.agg #[.int .i64 a1_0,.int .i64 a1_1,.int .i64 a1_2]] w fun e w'=>e=.returned (.bool r)∧Below w.heap.size w w':=by
 have hu56:=Try.underlying56
 have HB:=Aside0.mk (Below.refl w.heap.size w)
 have H:(if a0_0=a1_0 then (if a0_1=a1_1 then (if a0_2=a1_2 then (some true) else (some false)) else (some false)) else (some false))=some r:=h
 clear h
 by_cases c3:a0_0=a1_0
 ·rw [if_pos c3] at H
  have c3b0:(a0_0==a1_0)=true:=beq_iff_eq.mpr c3
  have c3b1:(a0_0 != a1_0)=false:=bne_eq_false_iff_eq.mpr c3
  clear c3
  by_cases c4:a0_1=a1_1
  ·rw [if_pos c4] at H
   have c4b0:(a0_1==a1_1)=true:=beq_iff_eq.mpr c4
   have c4b1:(a0_1 != a1_1)=false:=bne_eq_false_iff_eq.mpr c4
   clear c4
   by_cases c5:a0_2=a1_2
   ·rw [if_pos c5] at H
    have c5b0:(a0_2==a1_2)=true:=beq_iff_eq.mpr c5
    have c5b1:(a0_2 != a1_2)=false:=bne_eq_false_iff_eq.mpr c5
    clear c5
    obtain rfl:=Option.some.inj H
    go_enter Try.func107,Try.ntmps107
    go_wp2_with (first|((with_reducible refine gate_dst (N:=2) rfl ?_);refine box_event ?hg (N:=2) ?hd (cs:=#[.int .i64 a0_0,.int .i64 a0_1,.int .i64 a0_2]) (t:=56) ?hr ?_;(case hd=>rfl);(case hg=>rfl);(case hr=>first|(go_simp;done)|(go_simp;rfl));intro gb677 hg w6 hbox hb;have n0_:=Aside0.mk (below_step (by exact HB.out) hb);have n1_:=Aside0.mk (hbox);have n2_:=Aside0.mk ((by rw [hg];exact (below_size (by exact HB.out)):w.heap.size≤gb677));have n3_:=Aside0.mk ((by rw [hg];exact (below_size (by exact HB.out)):w.heap.size≤gb677));clear HB;have HB:=n0_;have BK677:=n1_;have GW677:=n2_;have GE677:=n3_;clear n0_ n1_ n2_ n3_;clear hb hbox hg)|((with_reducible refine gate_dst (N:=3) rfl ?_);refine box_event ?hg (N:=3) ?hd (cs:=#[.int .i64 a1_0,.int .i64 a1_1,.int .i64 a1_2]) (t:=56) ?hr ?_;(case hd=>rfl);(case hg=>rfl);(case hr=>first|(go_simp;done)|(go_simp;rfl));intro gb678 hg w7 hbox hb;have n0_:=Aside0.mk (blk_below (g:=gb677) (o:=.cells #[.int .i64 a0_0,.int .i64 a0_1,.int .i64 a0_2] 56 (0,0)) (by exact BK677.out) hb);have n1_:=Aside0.mk (below_step (by exact HB.out) hb);have n2_:=Aside0.mk (hbox);have n3_:=Aside0.mk ((by rw [hg];exact (below_size (by exact HB.out)):w.heap.size≤gb678));have n4_:=Aside0.mk ((by rw [hg];exact (below_size (by exact HB.out)):w.heap.size≤gb678));have n5_:=Aside0.mk ((by rw [hg];exact Nat.ne_of_lt (blk_lt (g:=gb677) (o:=.cells #[.int .i64 a0_0,.int .i64 a0_1,.int .i64 a0_2] 56 (0,0)) (by exact BK677.out)):gb677 ≠ gb678));have n6_:=Aside0.mk ((by rw [hg];exact Nat.ne_of_gt (blk_lt (g:=gb677) (o:=.cells #[.int .i64 a0_0,.int .i64 a0_1,.int .i64 a0_2] 56 (0,0)) (by exact BK677.out)):gb678 ≠ gb677));clear BK677;clear HB;have BK677:=n0_;have HB:=n1_;have BK678:=n2_;have GW678:=n3_;have GE678:=n4_;have NB677_678:=n5_;have NB678_677:=n6_;clear n0_ n1_ n2_ n3_ n4_ n5_ n6_;clear hb hbox hg;have hnb8:=NB677_678.out;have hnc8:=NB678_677.out;have hcz9_0:w7.cell? ⟨gb677,0,none⟩=some (.int .i64 a0_0):=(blk_cell BK677.out 0).trans rfl;have hcz9_1:w7.cell? ⟨gb677,1,none⟩=some (.int .i64 a0_1):=(blk_cell BK677.out 1).trans rfl;have hcz9_2:w7.cell? ⟨gb677,2,none⟩=some (.int .i64 a0_2):=(blk_cell BK677.out 2).trans rfl;have hfz9_0:=blk_frozen BK677.out 0;have hfz9_1:=blk_frozen BK677.out 1;have hfz9_2:=blk_frozen BK677.out 2;have hcz10_0:w7.cell? ⟨gb678,0,none⟩=some (.int .i64 a1_0):=(blk_cell BK678.out 0).trans rfl;have hcz10_1:w7.cell? ⟨gb678,1,none⟩=some (.int .i64 a1_1):=(blk_cell BK678.out 1).trans rfl;have hcz10_2:w7.cell? ⟨gb678,2,none⟩=some (.int .i64 a1_2):=(blk_cell BK678.out 2).trans rfl;have hfz10_0:=blk_frozen BK678.out 0;have hfz10_1:=blk_frozen BK678.out 1;have hfz10_2:=blk_frozen BK678.out 2))
    go_ret
    exact ⟨by first|rfl|(simp [errW_none,errW_some] <;> rfl)|(simp [*,errW_none,errW_some] <;> rfl),by exact HB.out⟩
   rw [if_neg c5] at H
   have c5b0:(a0_2==a1_2)=false:=beq_eq_false_iff_ne.mpr c5
   have c5b1:(a0_2 != a1_2)=true:=bne_iff_ne.mpr c5
   obtain rfl:=Option.some.inj H
   go_enter Try.func107,Try.ntmps107
   go_wp2_with (first|((with_reducible refine gate_dst (N:=2) rfl ?_);refine box_event ?hg (N:=2) ?hd (cs:=#[.int .i64 a0_0,.int .i64 a0_1,.int .i64 a0_2]) (t:=56) ?hr ?_;(case hd=>rfl);(case hg=>rfl);(case hr=>first|(go_simp;done)|(go_simp;rfl));intro gb677 hg w11 hbox hb;have n0_:=Aside0.mk (below_step (by exact HB.out) hb);have n1_:=Aside0.mk (hbox);have n2_:=Aside0.mk ((by rw [hg];exact (below_size (by exact HB.out)):w.heap.size≤gb677));have n3_:=Aside0.mk ((by rw [hg];exact (below_size (by exact HB.out)):w.heap.size≤gb677));clear HB;have HB:=n0_;have BK677:=n1_;have GW677:=n2_;have GE677:=n3_;clear n0_ n1_ n2_ n3_;clear hb hbox hg)|((with_reducible refine gate_dst (N:=3) rfl ?_);refine box_event ?hg (N:=3) ?hd (cs:=#[.int .i64 a1_0,.int .i64 a1_1,.int .i64 a1_2]) (t:=56) ?hr ?_;(case hd=>rfl);(case hg=>rfl);(case hr=>first|(go_simp;done)|(go_simp;rfl));intro gb678 hg w12 hbox hb;have n0_:=Aside0.mk (blk_below (g:=gb677) (o:=.cells #[.int .i64 a0_0,.int .i64 a0_1,.int .i64 a0_2] 56 (0,0)) (by exact BK677.out) hb);have n1_:=Aside0.mk (below_step (by exact HB.out) hb);have n2_:=Aside0.mk (hbox);have n3_:=Aside0.mk ((by rw [hg];exact (below_size (by exact HB.out)):w.heap.size≤gb678));have n4_:=Aside0.mk ((by rw [hg];exact (below_size (by exact HB.out)):w.heap.size≤gb678));have n5_:=Aside0.mk ((by rw [hg];exact Nat.ne_of_lt (blk_lt (g:=gb677) (o:=.cells #[.int .i64 a0_0,.int .i64 a0_1,.int .i64 a0_2] 56 (0,0)) (by exact BK677.out)):gb677 ≠ gb678));have n6_:=Aside0.mk ((by rw [hg];exact Nat.ne_of_gt (blk_lt (g:=gb677) (o:=.cells #[.int .i64 a0_0,.int .i64 a0_1,.int .i64 a0_2] 56 (0,0)) (by exact BK677.out)):gb678 ≠ gb677));clear BK677;clear HB;have BK677:=n0_;have HB:=n1_;have BK678:=n2_;have GW678:=n3_;have GE678:=n4_;have NB677_678:=n5_;have NB678_677:=n6_;clear n0_ n1_ n2_ n3_ n4_ n5_ n6_;clear hb hbox hg;have hnb13:=NB677_678.out;have hnc13:=NB678_677.out;have hcz14_0:w12.cell? ⟨gb677,0,none⟩=some (.int .i64 a0_0):=(blk_cell BK677.out 0).trans rfl;have hcz14_1:w12.cell? ⟨gb677,1,none⟩=some (.int .i64 a0_1):=(blk_cell BK677.out 1).trans rfl;have hcz14_2:w12.cell? ⟨gb677,2,none⟩=some (.int .i64 a0_2):=(blk_cell BK677.out 2).trans rfl;have hfz14_0:=blk_frozen BK677.out 0;have hfz14_1:=blk_frozen BK677.out 1;have hfz14_2:=blk_frozen BK677.out 2;have hcz15_0:w12.cell? ⟨gb678,0,none⟩=some (.int .i64 a1_0):=(blk_cell BK678.out 0).trans rfl;have hcz15_1:w12.cell? ⟨gb678,1,none⟩=some (.int .i64 a1_1):=(blk_cell BK678.out 1).trans rfl;have hcz15_2:w12.cell? ⟨gb678,2,none⟩=some (.int .i64 a1_2):=(blk_cell BK678.out 2).trans rfl;have hfz15_0:=blk_frozen BK678.out 0;have hfz15_1:=blk_frozen BK678.out 1;have hfz15_2:=blk_frozen BK678.out 2))
   go_ret
   exact ⟨by first|rfl|(simp [errW_none,errW_some] <;> rfl)|(simp [*,errW_none,errW_some] <;> rfl),by exact HB.out⟩
  rw [if_neg c4] at H
  have c4b0:(a0_1==a1_1)=false:=beq_eq_false_iff_ne.mpr c4
  have c4b1:(a0_1 != a1_1)=true:=bne_iff_ne.mpr c4
  obtain rfl:=Option.some.inj H
  go_enter Try.func107,Try.ntmps107
  go_wp2_with (first|((with_reducible refine gate_dst (N:=2) rfl ?_);refine box_event ?hg (N:=2) ?hd (cs:=#[.int .i64 a0_0,.int .i64 a0_1,.int .i64 a0_2]) (t:=56) ?hr ?_;(case hd=>rfl);(case hg=>rfl);(case hr=>first|(go_simp;done)|(go_simp;rfl));intro gb677 hg w16 hbox hb;have n0_:=Aside0.mk (below_step (by exact HB.out) hb);have n1_:=Aside0.mk (hbox);have n2_:=Aside0.mk ((by rw [hg];exact (below_size (by exact HB.out)):w.heap.size≤gb677));have n3_:=Aside0.mk ((by rw [hg];exact (below_size (by exact HB.out)):w.heap.size≤gb677));clear HB;have HB:=n0_;have BK677:=n1_;have GW677:=n2_;have GE677:=n3_;clear n0_ n1_ n2_ n3_;clear hb hbox hg)|((with_reducible refine gate_dst (N:=3) rfl ?_);refine box_event ?hg (N:=3) ?hd (cs:=#[.int .i64 a1_0,.int .i64 a1_1,.int .i64 a1_2]) (t:=56) ?hr ?_;(case hd=>rfl);(case hg=>rfl);(case hr=>first|(go_simp;done)|(go_simp;rfl));intro gb678 hg w17 hbox hb;have n0_:=Aside0.mk (blk_below (g:=gb677) (o:=.cells #[.int .i64 a0_0,.int .i64 a0_1,.int .i64 a0_2] 56 (0,0)) (by exact BK677.out) hb);have n1_:=Aside0.mk (below_step (by exact HB.out) hb);have n2_:=Aside0.mk (hbox);have n3_:=Aside0.mk ((by rw [hg];exact (below_size (by exact HB.out)):w.heap.size≤gb678));have n4_:=Aside0.mk ((by rw [hg];exact (below_size (by exact HB.out)):w.heap.size≤gb678));have n5_:=Aside0.mk ((by rw [hg];exact Nat.ne_of_lt (blk_lt (g:=gb677) (o:=.cells #[.int .i64 a0_0,.int .i64 a0_1,.int .i64 a0_2] 56 (0,0)) (by exact BK677.out)):gb677 ≠ gb678));have n6_:=Aside0.mk ((by rw [hg];exact Nat.ne_of_gt (blk_lt (g:=gb677) (o:=.cells #[.int .i64 a0_0,.int .i64 a0_1,.int .i64 a0_2] 56 (0,0)) (by exact BK677.out)):gb678 ≠ gb677));clear BK677;clear HB;have BK677:=n0_;have HB:=n1_;have BK678:=n2_;have GW678:=n3_;have GE678:=n4_;have NB677_678:=n5_;have NB678_677:=n6_;clear n0_ n1_ n2_ n3_ n4_ n5_ n6_;clear hb hbox hg;have hnb18:=NB677_678.out;have hnc18:=NB678_677.out;have hcz19_0:w17.cell? ⟨gb677,0,none⟩=some (.int .i64 a0_0):=(blk_cell BK677.out 0).trans rfl;have hcz19_1:w17.cell? ⟨gb677,1,none⟩=some (.int .i64 a0_1):=(blk_cell BK677.out 1).trans rfl;have hcz19_2:w17.cell? ⟨gb677,2,none⟩=some (.int .i64 a0_2):=(blk_cell BK677.out 2).trans rfl;have hfz19_0:=blk_frozen BK677.out 0;have hfz19_1:=blk_frozen BK677.out 1;have hfz19_2:=blk_frozen BK677.out 2;have hcz20_0:w17.cell? ⟨gb678,0,none⟩=some (.int .i64 a1_0):=(blk_cell BK678.out 0).trans rfl;have hcz20_1:w17.cell? ⟨gb678,1,none⟩=some (.int .i64 a1_1):=(blk_cell BK678.out 1).trans rfl;have hcz20_2:w17.cell? ⟨gb678,2,none⟩=some (.int .i64 a1_2):=(blk_cell BK678.out 2).trans rfl;have hfz20_0:=blk_frozen BK678.out 0;have hfz20_1:=blk_frozen BK678.out 1;have hfz20_2:=blk_frozen BK678.out 2))
  go_ret
  exact ⟨by first|rfl|(simp [errW_none,errW_some] <;> rfl)|(simp [*,errW_none,errW_some] <;> rfl),by exact HB.out⟩
 rw [if_neg c3] at H
 have c3b0:(a0_0==a1_0)=false:=beq_eq_false_iff_ne.mpr c3
 have c3b1:(a0_0 != a1_0)=true:=bne_iff_ne.mpr c3
 obtain rfl:=Option.some.inj H
 go_enter Try.func107,Try.ntmps107
 go_wp2_with (first|((with_reducible refine gate_dst (N:=2) rfl ?_);refine box_event ?hg (N:=2) ?hd (cs:=#[.int .i64 a0_0,.int .i64 a0_1,.int .i64 a0_2]) (t:=56) ?hr ?_;(case hd=>rfl);(case hg=>rfl);(case hr=>first|(go_simp;done)|(go_simp;rfl));intro gb677 hg w21 hbox hb;have n0_:=Aside0.mk (below_step (by exact HB.out) hb);have n1_:=Aside0.mk (hbox);have n2_:=Aside0.mk ((by rw [hg];exact (below_size (by exact HB.out)):w.heap.size≤gb677));have n3_:=Aside0.mk ((by rw [hg];exact (below_size (by exact HB.out)):w.heap.size≤gb677));clear HB;have HB:=n0_;have BK677:=n1_;have GW677:=n2_;have GE677:=n3_;clear n0_ n1_ n2_ n3_;clear hb hbox hg)|((with_reducible refine gate_dst (N:=3) rfl ?_);refine box_event ?hg (N:=3) ?hd (cs:=#[.int .i64 a1_0,.int .i64 a1_1,.int .i64 a1_2]) (t:=56) ?hr ?_;(case hd=>rfl);(case hg=>rfl);(case hr=>first|(go_simp;done)|(go_simp;rfl));intro gb678 hg w22 hbox hb;have n0_:=Aside0.mk (blk_below (g:=gb677) (o:=.cells #[.int .i64 a0_0,.int .i64 a0_1,.int .i64 a0_2] 56 (0,0)) (by exact BK677.out) hb);have n1_:=Aside0.mk (below_step (by exact HB.out) hb);have n2_:=Aside0.mk (hbox);have n3_:=Aside0.mk ((by rw [hg];exact (below_size (by exact HB.out)):w.heap.size≤gb678));have n4_:=Aside0.mk ((by rw [hg];exact (below_size (by exact HB.out)):w.heap.size≤gb678));have n5_:=Aside0.mk ((by rw [hg];exact Nat.ne_of_lt (blk_lt (g:=gb677) (o:=.cells #[.int .i64 a0_0,.int .i64 a0_1,.int .i64 a0_2] 56 (0,0)) (by exact BK677.out)):gb677 ≠ gb678));have n6_:=Aside0.mk ((by rw [hg];exact Nat.ne_of_gt (blk_lt (g:=gb677) (o:=.cells #[.int .i64 a0_0,.int .i64 a0_1,.int .i64 a0_2] 56 (0,0)) (by exact BK677.out)):gb678 ≠ gb677));clear BK677;clear HB;have BK677:=n0_;have HB:=n1_;have BK678:=n2_;have GW678:=n3_;have GE678:=n4_;have NB677_678:=n5_;have NB678_677:=n6_;clear n0_ n1_ n2_ n3_ n4_ n5_ n6_;clear hb hbox hg;have hnb23:=NB677_678.out;have hnc23:=NB678_677.out;have hcz24_0:w22.cell? ⟨gb677,0,none⟩=some (.int .i64 a0_0):=(blk_cell BK677.out 0).trans rfl;have hcz24_1:w22.cell? ⟨gb677,1,none⟩=some (.int .i64 a0_1):=(blk_cell BK677.out 1).trans rfl;have hcz24_2:w22.cell? ⟨gb677,2,none⟩=some (.int .i64 a0_2):=(blk_cell BK677.out 2).trans rfl;have hfz24_0:=blk_frozen BK677.out 0;have hfz24_1:=blk_frozen BK677.out 1;have hfz24_2:=blk_frozen BK677.out 2;have hcz25_0:w22.cell? ⟨gb678,0,none⟩=some (.int .i64 a1_0):=(blk_cell BK678.out 0).trans rfl;have hcz25_1:w22.cell? ⟨gb678,1,none⟩=some (.int .i64 a1_1):=(blk_cell BK678.out 1).trans rfl;have hcz25_2:w22.cell? ⟨gb678,2,none⟩=some (.int .i64 a1_2):=(blk_cell BK678.out 2).trans rfl;have hfz25_0:=blk_frozen BK678.out 0;have hfz25_1:=blk_frozen BK678.out 1;have hfz25_2:=blk_frozen BK678.out 2))
 go_ret
 exact ⟨by first|rfl|(simp [errW_none,errW_some] <;> rfl)|(simp [*,errW_none,errW_some] <;> rfl),by exact HB.out⟩
end Go.Proofs.Ytpdnabhpkdchjaa.P
