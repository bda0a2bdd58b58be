/- The statement FnTextCardSaid holds of the given program, for every argument; there are no conditions. (Part 2 of 6.) -/
import Derived.Test.YtpdnabhpkdchjaaDoorBFnText1
import Derived.Test.YtpdnabhpkdchjaaDoorProg
import Derived.Test.YtpdnabhpkdchjaaDoorRows
import Derived.JoinedOf
import Derived.DataElems
import Derived.ChangeArms
import Derived.WideShapes
import Derived.ProofKit
import Derived.OpenShut
import Derived.ChangeOld
import Derived.SizedLaws
import Derived.Shelf.Strings.Builder1
import Derived.Shelf.Small.Strs
import Derived.Shelf.Strconv.Itoa0
import Derived.Shelf.Strconv.Itoa1
import Derived.Shelf.LaysM
import Derived.Shelf.Strconv.Itoa2
import Derived.Shelf.Strconv.Itoa3
import Derived.Shelf.Strings.Search1
import Derived.Ground.SlgnProg
import Derived.Shelf.SlicesE.Clone
import Derived.Lib.ItoaNum
import Derived.Lib.ItoaMem
import Derived.Lib.SmallJoins
import Derived.Lib.AppendIntMem
import Derived.Deep.DrawnRows
namespace Go.Proofs.YtpdnabhpkdchjaaDoor.P
open Go.RowKit Go.Proofs.YtpdnabhpkdchjaaDoorW.PrintWords Go.Proofs.YtpdnabhpkdchjaaDoorW.PrintLast Go.Proofs.YtpdnabhpkdchjaaDoorW.PrintMore
attribute [local go_sem] max2_int min2_int max_two min_two max_three min_three max_four min_four
set_option linter.unusedVariables false
set_option linter.unusedSimpArgs false
def errW:Option Int→Value
 | none=>.nilIface
 | some c=>.iface 0 (.int .i64 c)
theorem errW_none:errW none=.nilIface:=rfl
theorem errW_some (c:Int):errW (some c)=.iface 0 (.int .i64 c):=rfl
theorem info3:(Tryd.prog.info? 3).map (fun i=>(i.zero,i.size,i.bytes))=some (some (.int .i64 0),1,8):=by kernel_rfl
theorem info4:(Tryd.prog.info? 4).map (fun i=>(i.zero,i.size,i.bytes))=some (some (.bool false),1,1):=by kernel_rfl
theorem info5:(Tryd.prog.info? 5).map (fun i=>(i.zero,i.size,i.bytes))=some (some (.int .u8 0),1,1):=by kernel_rfl
theorem info52:(Tryd.prog.info? 52).map (fun i=>(i.zero,i.size,i.bytes))=some (some (.agg #[(.int .i64 0),(.int .i64 0),(.int .i64 0)]),3,24):=by kernel_rfl
theorem info87:(Tryd.prog.info? 87).map (fun i=>(i.zero,i.size,i.bytes))=some (some (.agg #[(.int .i64 0),(.int .i64 0),(.bool false),(.bool false),(.int .i64 0)]),5,32):=by kernel_rfl
theorem info98:(Tryd.prog.info? 98).map (fun i=>(i.zero,i.size,i.bytes))=some (some (.agg #[(.int .i64 0),(.int .i64 0)]),2,16):=by kernel_rfl
structure S98 where
 f0:Int
 f1:Int
def z98:S98:=⟨(0:Int),(0:Int)⟩
def k98:Kd S98:=Kd.iso (Kd.pair (Kd.int .i64) (Kd.int .i64)) (fun x:S98=>(x.f0,x.f1))
theorem k98_open {w:World} {x:S98} {cs:List Value} (h:k98.K w x cs):cs=[.int .i64 x.f0,.int .i64 x.f1]:=by
 obtain ⟨_,_,rfl,rfl,rfl⟩:=h
 exact rfl
theorem k98_mkM (w:World) (base:Nat) (ok:Nat→Prop) (x:S98) :k98.M w base ok x [.int .i64 x.f0,.int .i64 x.f1]:=⟨[.int .i64 x.f0],[.int .i64 x.f1],rfl,rfl,rfl⟩
def rd_T98 (xs:List S98) (i:Int):S98:=xs.getD i.toNat z98
theorem at_T98 {w:World} {A:Option Addr} {n:Nat} {xs:List S98} (h:Kd.C k98 w A n xs) (i:Int) (h0:0≤i) (h1:i<n):∃ ad ,A=some ad∧w.cell? (ad.add (i.toNat * 2))=some (.int .i64 (rd_T98 xs i).f0)∧w.cell? ⟨(ad.add (i.toNat * 2)).block,(ad.add (i.toNat * 2)).off+1,none⟩=some (.int .i64 (rd_T98 xs i).f1):=by
 obtain ⟨ad,c,e,_,hK,hc0⟩:=Kd.C_get h z98 i h0 h1
 have hc:∀ j u,c[j]?=some u→w.cell? (ad.add (i.toNat * 2+j))=some u:=hc0
 obtain rfl:=k98_open hK
 exact ⟨ad,e,hc 0 _ rfl,by rw [← add_field _ _ 1 (by omega)];exact hc 1 _ rfl⟩
structure S52 where
 f0:Int
 f1:Int
 f2:Int
def z52:S52:=⟨(0:Int),(0:Int),(0:Int)⟩
def k52:Kd S52:=Kd.iso (Kd.pair (Kd.int .i64) (Kd.pair (Kd.int .i64) (Kd.int .i64))) (fun x:S52=>(x.f0,x.f1,x.f2))
theorem k52_open {w:World} {x:S52} {cs:List Value} (h:k52.K w x cs):cs=[.int .i64 x.f0,.int .i64 x.f1,.int .i64 x.f2]:=by
 obtain ⟨_,_,rfl,rfl,⟨_,_,rfl,rfl,rfl⟩⟩:=h
 exact rfl
theorem k52_mkM (w:World) (base:Nat) (ok:Nat→Prop) (x:S52) :k52.M w base ok x [.int .i64 x.f0,.int .i64 x.f1,.int .i64 x.f2]:=⟨[.int .i64 x.f0],[.int .i64 x.f1,.int .i64 x.f2],rfl,rfl,⟨[.int .i64 x.f1],[.int .i64 x.f2],rfl,rfl,rfl⟩⟩
def rd_T52 (xs:List S52) (i:Int):S52:=xs.getD i.toNat z52
theorem at_T52 {w:World} {A:Option Addr} {n:Nat} {xs:List S52} (h:Kd.C k52 w A n xs) (i:Int) (h0:0≤i) (h1:i<n):∃ ad ,A=some ad∧w.cell? (ad.add (i.toNat * 3))=some (.int .i64 (rd_T52 xs i).f0)∧w.cell? ⟨(ad.add (i.toNat * 3)).block,(ad.add (i.toNat * 3)).off+1,none⟩=some (.int .i64 (rd_T52 xs i).f1)∧w.cell? ⟨(ad.add (i.toNat * 3)).block,(ad.add (i.toNat * 3)).off+2,none⟩=some (.int .i64 (rd_T52 xs i).f2):=by
 obtain ⟨ad,c,e,_,hK,hc0⟩:=Kd.C_get h z52 i h0 h1
 have hc:∀ j u,c[j]?=some u→w.cell? (ad.add (i.toNat * 3+j))=some u:=hc0
 obtain rfl:=k52_open hK
 exact ⟨ad,e,hc 0 _ rfl,by rw [← add_field _ _ 1 (by omega)];exact hc 1 _ rfl,by rw [← add_field _ _ 2 (by omega)];exact hc 2 _ rfl⟩
structure S87 where
 f0:Int
 f1:Int
 f2:Bool
 f3:Bool
 f4:Int
def z87:S87:=⟨(0:Int),(0:Int),false,false,(0:Int)⟩
def k87:Kd S87:=Kd.iso (Kd.pair (Kd.int .i64) (Kd.pair (Kd.int .i64) (Kd.pair Kd.bool (Kd.pair Kd.bool (Kd.int .i64))))) (fun x:S87=>(x.f0,x.f1,x.f2,x.f3,x.f4))
theorem k87_open {w:World} {x:S87} {cs:List Value} (h:k87.K w x cs):cs=[.int .i64 x.f0,.int .i64 x.f1,.bool x.f2,.bool x.f3,.int .i64 x.f4]:=by
 obtain ⟨_,_,rfl,rfl,⟨_,_,rfl,rfl,⟨_,_,rfl,rfl,⟨_,_,rfl,rfl,rfl⟩⟩⟩⟩:=h
 exact rfl
theorem k87_openM {w:World} {base:Nat} {ok:Nat→Prop} {x:S87} {cs:List Value} (h:k87.M w base ok x cs):cs=[.int .i64 x.f0,.int .i64 x.f1,.bool x.f2,.bool x.f3,.int .i64 x.f4]:=by
 obtain ⟨_,_,rfl,rfl,⟨_,_,rfl,rfl,⟨_,_,rfl,rfl,⟨_,_,rfl,rfl,rfl⟩⟩⟩⟩:=h
 exact rfl
theorem k87_mkM (w:World) (base:Nat) (ok:Nat→Prop) (x:S87) :k87.M w base ok x [.int .i64 x.f0,.int .i64 x.f1,.bool x.f2,.bool x.f3,.int .i64 x.f4]:=⟨[.int .i64 x.f0],[.int .i64 x.f1,.bool x.f2,.bool x.f3,.int .i64 x.f4],rfl,rfl,⟨[.int .i64 x.f1],[.bool x.f2,.bool x.f3,.int .i64 x.f4],rfl,rfl,⟨[.bool x.f2],[.bool x.f3,.int .i64 x.f4],rfl,rfl,⟨[.bool x.f3],[.int .i64 x.f4],rfl,rfl,rfl⟩⟩⟩⟩
def rd_T87 (xs:List S87) (i:Int):S87:=xs.getD i.toNat z87
theorem at_T87 {w:World} {A:Option Addr} {n:Nat} {xs:List S87} (h:Kd.C k87 w A n xs) (i:Int) (h0:0≤i) (h1:i<n):∃ ad ,A=some ad∧w.cell? (ad.add (i.toNat * 5))=some (.int .i64 (rd_T87 xs i).f0)∧w.cell? ⟨(ad.add (i.toNat * 5)).block,(ad.add (i.toNat * 5)).off+1,none⟩=some (.int .i64 (rd_T87 xs i).f1)∧w.cell? ⟨(ad.add (i.toNat * 5)).block,(ad.add (i.toNat * 5)).off+2,none⟩=some (.bool (rd_T87 xs i).f2)∧w.cell? ⟨(ad.add (i.toNat * 5)).block,(ad.add (i.toNat * 5)).off+3,none⟩=some (.bool (rd_T87 xs i).f3)∧w.cell? ⟨(ad.add (i.toNat * 5)).block,(ad.add (i.toNat * 5)).off+4,none⟩=some (.int .i64 (rd_T87 xs i).f4):=by
 obtain ⟨ad,c,e,_,hK,hc0⟩:=Kd.C_get h z87 i h0 h1
 have hc:∀ j u,c[j]?=some u→w.cell? (ad.add (i.toNat * 5+j))=some u:=hc0
 obtain rfl:=k87_open hK
 exact ⟨ad,e,hc 0 _ rfl,by rw [← add_field _ _ 1 (by omega)];exact hc 1 _ rfl,by rw [← add_field _ _ 2 (by omega)];exact hc 2 _ rfl,by rw [← add_field _ _ 3 (by omega)];exact hc 3 _ rfl,by rw [← add_field _ _ 4 (by omega)];exact hc 4 _ rfl⟩
structure S83 where
 f0:Bool
 f1:(List S87)
 f2:(List Bool)
def z83:S83:=⟨false,([]:List S87),([]:List Bool)⟩
def k83:Kd S83:=Kd.iso (Kd.pair Kd.bool (Kd.pair (Kd.slice 87 k87) (Kd.slice 4 Kd.bool))) (fun x:S83=>(x.f0,x.f1,x.f2))
theorem k83_openM {w:World} {base:Nat} {ok:Nat→Prop} {x:S83} {cs:List Value} (h:k83.M w base ok x cs):∃ v1 v2,cs=[.bool x.f0,v1,v2]∧k87.R 87 w base ok v1 x.f1∧Kd.bool.R 4 w base ok v2 x.f2:=by
 obtain ⟨_,_,rfl,rfl,⟨_,_,rfl,⟨v1,rfl,g1⟩,⟨v2,rfl,g2⟩⟩⟩:=h
 exact ⟨v1,v2,rfl,g1,g2⟩
theorem k83_mkM (w:World) (base:Nat) (ok:Nat→Prop) (x:S83) {v1:Value} (g1:k87.R 87 w base ok v1 x.f1) {v2:Value} (g2:Kd.bool.R 4 w base ok v2 x.f2):k83.M w base ok x [.bool x.f0,v1,v2]:=⟨[.bool x.f0],[v1,v2],rfl,rfl,⟨[v1],[v2],rfl,⟨v1,rfl,g1⟩,⟨v2,rfl,g2⟩⟩⟩
structure S85 where
 f0:Int
 f1:S83
def z85:S85:=⟨(0:Int),z83⟩
def k85:Kd S85:=Kd.iso (Kd.pair (Kd.int .i64) k83) (fun x:S85=>(x.f0,x.f1))
theorem k85_openM {w:World} {base:Nat} {ok:Nat→Prop} {x:S85} {cs:List Value} (h:k85.M w base ok x cs):∃ v2 v3,cs=[.int .i64 x.f0,.bool x.f1.f0,v2,v3]∧k87.R 87 w base ok v2 x.f1.f1∧Kd.bool.R 4 w base ok v3 x.f1.f2:=by
 obtain ⟨_,_,rfl,rfl,s1⟩:=h
 obtain ⟨v2,v3,rfl,g2,g3⟩:=k83_openM s1
 exact ⟨v2,v3,rfl,g2,g3⟩
theorem k85_mkM (w:World) (base:Nat) (ok:Nat→Prop) (x:S85) {v2:Value} (g2:k87.R 87 w base ok v2 x.f1.f1) {v3:Value} (g3:Kd.bool.R 4 w base ok v3 x.f1.f2):k85.M w base ok x [.int .i64 x.f0,.bool x.f1.f0,v2,v3]:=⟨[.int .i64 x.f0],[.bool x.f1.f0,v2,v3],rfl,rfl,(k83_mkM w base ok x.f1 g2 g3)⟩
def rd_T85 (xs:List S85) (i:Int):S85:=xs.getD i.toNat z85
end Go.Proofs.YtpdnabhpkdchjaaDoor.P
namespace Go.Proofs.YtpdnabhpkdchjaaDoor.Facts
def sg (l : List Nat) : List Char := l.map Char.ofNat
theorem words_cons (c : Char) (hc : c ≠ Char.ofNat 32) (r : List Char) : wordsSigns (c :: r) = match wordsSigns r with | w :: ws => (c :: w) :: ws | [] => [[c]] := by
  rw [wordsSigns.eq_3 c r (fun h => hc h)]
  cases wordsSigns r <;> rfl
theorem words_blank (r : List Char) : wordsSigns (Char.ofNat 32 :: r) = [] :: wordsSigns r := rfl
theorem words_word (a r : List Char) (ha : ∀ c ∈ a, c ≠ Char.ofNat 32) : wordsSigns (a ++ Char.ofNat 32 :: r) = a :: wordsSigns r := by
  induction a with
  | nil => exact words_blank r
  | cons c a ih =>
    have h := ih (fun x hx => ha x (List.mem_cons_of_mem _ hx))
    show wordsSigns (c :: (a ++ Char.ofNat 32 :: r)) = _
    rw [words_cons c (ha c List.mem_cons_self), h]
def w1 : List Nat := [104, 97, 114, 110, 101, 115, 115]
def w2 : List Nat := [51, 53, 51, 53, 53, 55, 50, 101, 101, 100, 99, 99, 97, 102, 56, 49, 57, 101, 99, 54, 50, 98, 50, 100, 48, 51, 56, 54, 53, 99, 97, 102, 97, 97, 51, 57, 56, 97, 101, 51, 50, 102, 56, 98, 49, 97, 97, 48, 53, 97, 57, 57, 98, 98, 53, 97, 48, 101, 56, 54, 102, 50, 101, 98]
def w3 : List Nat := [99, 117, 116]
def w4 : List Nat := [97, 116, 32, 108, 111, 111, 112, 46, 101, 120, 97, 109, 112, 108, 101, 47, 116, 114, 101, 97, 100, 108, 101, 47, 108, 97, 119, 115, 46, 70, 110, 69, 120, 97, 99, 116, 87, 114, 105, 116, 101, 69, 118, 101, 110, 116, 115, 32, 108, 111, 111, 112, 46, 101, 120, 97, 109, 112, 108, 101,
  47, 116, 114, 101, 97, 100, 108, 101, 47, 108, 97, 119, 115, 46, 70, 110, 69, 120, 97, 99, 116, 82, 101, 97, 100, 69, 118, 101, 110, 116, 115, 32, 108, 111, 111, 112, 46, 101, 120, 97, 109, 112, 108, 101, 47, 116, 114, 101, 97, 100, 108, 101, 47, 108, 97, 119, 115, 46, 70, 110,
  69, 120, 97, 99, 116, 65, 110, 115, 119, 101, 114, 32, 108, 111, 111, 112, 46, 101, 120, 97, 109, 112, 108, 101, 47, 116, 114, 101, 97, 100, 108, 101, 47, 108, 97, 119, 115, 46, 70, 110, 84, 101, 120, 116]
theorem init_is : Tryd.prog.initOrder = String.ofList (sg (w1 ++ 32 :: (w2 ++ 32 :: (w3 ++ 32 :: w4)))) := by kernel_rfl
theorem init_list : Tryd.prog.initOrder.toList = sg w1 ++ Char.ofNat 32 :: (sg w2 ++ Char.ofNat 32 :: (sg w3 ++ Char.ofNat 32 :: sg w4)) := by
  rw [init_is, String.toList_ofList]
  simp [sg]
theorem w1_is : sg w1 = "harness".toList := by kernel_rfl
theorem w2_sum : isSumSigns (sg w2) = true := by kernel_rfl
theorem w3_is : sg w3 = "cut".toList := by kernel_rfl
theorem w1_nb : (sg w1).all (· != Char.ofNat 32) = true := by kernel_rfl
theorem w2_nb : (sg w2).all (· != Char.ofNat 32) = true := by kernel_rfl
theorem w3_nb : (sg w3).all (· != Char.ofNat 32) = true := by kernel_rfl
theorem nb {l : List Char} (h : l.all (· != Char.ofNat 32) = true) : ∀ c ∈ l, c ≠ Char.ofNat 32 := by
  intro c hc
  have := List.all_eq_true.1 h c hc
  simpa using this
theorem words_init : behindMainWord (wordsSigns Tryd.prog.initOrder.toList) = "cut".toList :: wordsSigns (sg w4) := by
  rw [init_list, words_word _ _ (nb w1_nb), words_word _ _ (nb w2_nb), words_word _ _ (nb w3_nb), w1_is, w3_is]
  simp only [behindMainWord]
  rw [if_pos]
  rw [w2_sum]
  rfl
theorem may_of (P : Program) (r : List (List Char)) (h : behindMainWord (wordsSigns P.initOrder.toList) = "cut".toList :: r) (h1 : P.laysLater = false) (h2 : P.bearsReflect = false) (h3 : P.doorFits [] = true) : P.mayEnter = true := by
  unfold Program.mayEnter
  rw [h, h1, h2]
  generalize P.doorFits = F at h3 ⊢
  refine Eq.trans (b := F []) ?_ h3
  kernel_rfl
theorem lifts_of (P : Program) (r : List (List Char)) (h : behindMainWord (wordsSigns P.initOrder.toList) = "cut".toList :: r) : P.headLifts = [] := by
  unfold Program.headLifts
  rw [h]
  kernel_rfl
theorem final_of (P : Program) (r : List (List Char)) (h : behindMainWord (wordsSigns P.initOrder.toList) = "cut".toList :: r) : P.liftsFinal = false := by
  unfold Program.liftsFinal
  rw [lifts_of P r h, h]
  kernel_rfl
theorem make_of (P : Program) (r : List (List Char)) (h : behindMainWord (wordsSigns P.initOrder.toList) = "cut".toList :: r) : P.make = some .cut := by
  unfold Program.make
  rw [h]
  generalize P.headLifts = x
  kernel_rfl
theorem laysLater : Tryd.prog.laysLater = false := by kernel_rfl
theorem bearsReflect : Tryd.prog.bearsReflect = false := by kernel_rfl
theorem doorFits : Tryd.prog.doorFits [] = true := by kernel_rfl
theorem mayEnter : Tryd.prog.mayEnter = true := may_of _ _ words_init laysLater bearsReflect doorFits
theorem liftsFinal : Tryd.prog.liftsFinal = false := final_of _ _ words_init
theorem make : Tryd.prog.make = some .cut := make_of _ _ words_init
theorem laidOut : laidOutB Tryd.prog = true := by kernel_rfl
theorem mapsRowed : Go.mapsRowed Tryd.prog = true := by kernel_rfl
theorem stops : (Tryd.prog.stops == []) = true := by kernel_rfl
theorem stopKnobs : (Tryd.prog.stopKnobs == []) = true := by kernel_rfl
theorem plainKeys : Tryd.prog.plainKeys = true := by kernel_rfl
theorem stopsHeard : Tryd.prog.stopsHeard = true := by kernel_rfl
theorem own : ownKnob Tryd.prog.godebug = none := by kernel_rfl
end Go.Proofs.YtpdnabhpkdchjaaDoor.Facts
namespace Go.Proofs.YtpdnabhpkdchjaaDoor.Open
open Go.RowKit Go.Proofs.YtpdnabhpkdchjaaDoorW.PrintWords Go.Proofs.YtpdnabhpkdchjaaDoorW.PrintLast Go.Proofs.YtpdnabhpkdchjaaDoorW.PrintMore
open Go.WideShapes
set_option linter.unusedVariables false
def Opens {α : Type} (P : Program) (t : TypeId) (d : Kd α) : Prop :=
  ∀ (H : Type) (enc : TypeId × Value → H) (w : World) (base : Nat) (spare : Nat → Bool) (held : Bool) (fuel : Nat) (cs : List Value) (x : DataW H × List MemPlace),
    DataW.trod enc P w base spare held fuel t cs = some x → ∃ a, d.K w a cs
variable {P : Program} {t : TypeId}
theorem mapM_get {α β : Type} {f : α → Option β} : ∀ {l : List α} {r : List β}, l.mapM f = some r → r.length = l.length ∧ ∀ (i : Nat) u, r[i]? = some u → ∃ y, l[i]? = some y ∧ f y = some u
  | [], r, h => by
    simp at h
    subst h
    exact ⟨rfl, fun i u hu => by simp at hu⟩
  | y :: l, r, h => by
    simp only [List.mapM_cons] at h
    cases hy : f y with
    | none => simp [hy] at h
    | some b =>
      cases hl : l.mapM f with
      | none => simp [hy, hl] at h
      | some r' =>
        simp [hy, hl] at h
        subst h
        obtain ⟨h1, h2⟩ := mapM_get hl
        refine ⟨by simp [h1], fun i u hu => ?_⟩
        cases i with
        | zero =>
          simp at hu
          subst hu
          exact ⟨y, rfl, hy⟩
        | succ i =>
          simp at hu
          obtain ⟨z, hz, hf⟩ := h2 i u hu
          exact ⟨z, by simpa using hz, hf⟩
theorem opens_slice {α : Type} {d : Kd α} {e : TypeId} (ht : P.underlying t = some (.slice e)) (hc : P.cellsOf e = d.sz) (he : Opens P e d) : Opens P t (Kd.slice e d) := by
  intro H enc w base spare held fuel cs x h
  rcases DataW.trod_slice ht h with ⟨rfl, _⟩ | ⟨a, len, cap, elems, rest, n, _, rfl, _, hb, hl, hm, hlen, hel, _, _⟩
  · exact ⟨[], none, 0, rfl, Nat.le_refl _, rfl, by simp, fun hp => absurd hp (by simp)⟩
  · have each : ∀ i : Fin len, ∃ q : α × List Value, d.K w q.1 q.2 ∧ q.2.length = d.sz ∧ ∀ j u, q.2[j]? = some u → w.cell? (a.add (i.1 * d.sz + j)) = some u := by
      intro i
      have h1 := hel i.1 i.2
      rw [hc] at h1
      obtain ⟨y, hy⟩ : ∃ y, elems[i.1]? = some y := ⟨_, List.getElem?_eq_getElem (by rw [hlen]; exact i.2)⟩
      rw [hy, Option.bind_eq_some_iff] at h1
      obtain ⟨c, h2, h3⟩ := h1
      obtain ⟨v, hv⟩ := he H enc w base spare held n c y h3
      refine ⟨(v, c), hv, d.K_len hv, fun j u hu => ?_⟩
      unfold World.cells? at h2
      rw [if_pos (by unfold Addr.add; split <;> exact hb)] at h2
      obtain ⟨_, h4⟩ := mapM_get h2
      obtain ⟨z, hz, hz2⟩ := h4 j u hu
      have : z = j := by
        have := List.getElem?_eq_some_iff.1 hz
        obtain ⟨hlt, hz'⟩ := this
        simpa using hz'.symm
      subst this
      rw [Addr.add_add] at hz2
      exact hz2
    have hmx : maxLen = 9223372036854775807 := by unfold maxLen; rfl
    refine ⟨List.ofFn fun i : Fin len => (Classical.choose (each i)).1, some a, cap, by simp, by simpa using hl, ?_, by simp; omega, fun hp => ⟨a, rfl, fun j p hj => ?_⟩⟩
    · rfl
    · have hj' : j < len := by
        have := (List.getElem?_eq_some_iff.1 hj).1
        simpa using this
      have hp' : p = (Classical.choose (each ⟨j, hj'⟩)).1 := by
        rw [List.getElem?_ofFn, dif_pos hj'] at hj
        exact (Option.some.inj hj).symm
      obtain ⟨h1, h2, h3⟩ := Classical.choose_spec (each ⟨j, hj'⟩)
      exact ⟨_, h2, by rw [hp']; exact h1, h3⟩
theorem open_arg {α : Type} {d : Kd α} (h : Opens P t d) {H : Type} {enc : TypeId × Value → H} {w : World} {base : Nat} {spare : Nat → Bool} {held : Bool} {v : Value} {x : DataW H} {ps : List MemPlace}
    (hx : DataW.Trod enc P w base spare held t v x ps) : ∃ a, d.K w a v.cells.toList := by
  obtain ⟨fuel, hf⟩ := hx
  exact h H enc w base spare held fuel _ _ hf
end Go.Proofs.YtpdnabhpkdchjaaDoor.Open
namespace Go.Proofs.YtpdnabhpkdchjaaDoor.Open
open Go.RowKit Go.Proofs.YtpdnabhpkdchjaaDoorW.PrintWords Go.Proofs.YtpdnabhpkdchjaaDoorW.PrintLast Go.Proofs.YtpdnabhpkdchjaaDoorW.PrintMore
open Go.ChangeShapes Go.WideShapes Go.ChangeAt P
set_option maxRecDepth 100000
set_option linter.unusedVariables false
section
variable {H : Type} {enc : TypeId × Value → H} {W : World} {base b0 : Nat} {spare : Nat → Bool} {held : Bool} {v : Value} {x : DataW H} {ps : List MemPlace} {r : Reach}
theorem arg_slice {α : Type} {d : Kd α} {t e : TypeId} (ht : Tryd.prog.underlying t = some (.slice e)) (hd : Opens Tryd.prog t (Kd.slice e d)) (hv : Value.okWide Tryd.prog W r b0 t v) (h : DataW.Trod enc Tryd.prog W base spare held t v x ps) :
    ∃ A c l, v = .slice A l.length c ∧ Kd.C d W A l.length l ∧ l.length ≤ c := by
  obtain ⟨a, len, cap, rfl⟩ := okWide_slice ht hv
  obtain ⟨l, A, c, h1, hl, hr⟩ := open_arg hd h
  have h1' : [Value.slice a len cap] = [.slice A l.length c] := h1
  injection h1' with h2 _
  injection h2 with h3 h4 h5
  subst h3 h4 h5
  exact ⟨_, _, l, rfl, hr, hl⟩
end
theorem joined_of (f : FuncId) (fn : Func) (s : ChangeSpec) (c : OpenClaim) (k1 : c.wf (OpenSpec.ofChange s) = true) (k4 : fn.params.all (Tryd.prog.readableRec ·) = true) (k5 : namedTie Tryd.prog c.named s.vars = true)
    (k6 : (c.stops == []) = true) (k8 : (c.knobs == []) = true) (k9 : (Tryd.prog.stopKnobs == []) = true) (k10 : (c.inPlace == Tryd.prog.inPlace f) = true) (k11 : (c.unfollowed == Tryd.prog.unfollowed f) = true) (k12 : (c.recurses == Tryd.prog.recurses f) = true) (k13 : (c.named == Tryd.prog.varsNamed f) = true)
    (k14 : (c.maps == (fn.params.toList ++ s.plain.varTypes Tryd.prog).any (Tryd.prog.mapsRec ·)) = true) (k15 : (c.ifaces == (fn.params.toList ++ s.plain.varTypes Tryd.prog).any (Tryd.prog.ifacesRec ·)) = true) (k16 : (c.mapsOut == Tryd.prog.mapsAmong fn.resultTypes.toList) = true)
    (k17 : (c.loops == (fn.params.toList ++ s.plain.varTypes Tryd.prog).any (Tryd.prog.loopsFrom ·)) = true) (k17b : (c.wideKeys == (fn.params.toList ++ s.plain.varTypes Tryd.prog ++ fn.resultTypes.toList).any (Tryd.prog.wideKeysFrom ·)) = true)
    (k18 : s.vars.all (Tryd.prog.varReadable ·) = true) (k19 : fn.resultTypes.all (fun t => Tryd.prog.readableRec t && decide (t < Tryd.prog.types.size)) = true) (k20 : (c.ifacesOut == fn.resultTypes.toList.any (Tryd.prog.ifacesRec ·)) = true) (k21 : (c.loopsOut == fn.resultTypes.toList.any (Tryd.prog.loopsFrom ·)) = true)
    (k22 : c.plainKeys = true) (k23 : c.shortTexts.isNone = true) (k24 : c.lifted = false) (k25 : c.make = .cut)
    (k26a : c.domain.isEmpty = true) (k26b : c.kinds = []) (k27 : (c.pinned == c.pinnedBy) = true)
    (k28 : (c.veiled == (fn.params.toList ++ s.plain.varTypes Tryd.prog ++ fn.resultTypes.toList).any (Tryd.prog.veiledRec ·)) = true) (k29 : c.veiledFits Tryd.prog fn.params.toList (fn.params.toList ++ s.plain.varTypes Tryd.prog ++ fn.resultTypes.toList) = true) :
    joinedFacts Tryd.prog f fn s c = true := by
  have q1 := Facts.laidOut
  have q2 := Facts.mapsRowed
  have q3 := Facts.stops
  have q4 := Facts.plainKeys
  have q5 := Facts.stopsHeard
  have q6 := Facts.mayEnter
  have q7 := Facts.liftsFinal
  have q8 := Facts.make
  generalize Tryd.prog = P at *
  unfold joinedFacts
  rw [k22, q4, k24, q7, k25, q8, k1, q1, q2, k4, k5, k6, q3, k8, k9, k10, k11, k12, k13, k14, k15, k16, k17, k17b, k18, k19, k20, k21, k23, q5, q6, k26a, k26b, if_pos rfl, k27, k28, k29]
  rfl
end Go.Proofs.YtpdnabhpkdchjaaDoor.Open
namespace Go.Proofs.YtpdnabhpkdchjaaDoor.P
open Go.RowKit Go.Proofs.YtpdnabhpkdchjaaDoorW.PrintWords Go.Proofs.YtpdnabhpkdchjaaDoorW.PrintLast Go.Proofs.YtpdnabhpkdchjaaDoorW.PrintMore
set_option linter.unusedVariables false
set_option linter.unusedSimpArgs false
theorem ret_int {k:IntKind} {a b:Int} (h:a=b):Ending.returned (.int k a)=.returned (.int k b):=by rw [h]
theorem ret_bool {a b:Bool} (h:a=b):Ending.returned (.bool a)=.returned (.bool b):=by rw [h]
def inB (n x:Int):Bool:=decide (-1≤x) && decide (x<n)
def ctrOk (n:Int) (x:S98):Bool:=inB n x.f0 && inB n x.f1 && !(x.f0==x.f1)
def layoutOk (n:Int) (l:List S98):Int:=if n<1 then 1 else if 60<n then 1 else if 120<l.length then 1 else if l.all (ctrOk n) then 0 else 2
def impl_LayoutOk.f (a0_0:Int) (l0_1:List S98):Option Int:=some (layoutOk a0_0 l0_1)
theorem in_calls (x n:Int) (v:Value) (g:Nat) (w:World) (hb:w.heap[g]?=some (.cells #[.int .i64 n,v] 31 (0,0))) :
  Calls Tryd.prog 54 #[.int .i64 x,.pointer (some ⟨g,0,none⟩)] w fun e w'=>e=.returned (.bool (inB n x))∧w=w':=by
 have hc:w.cell? ⟨g,0,none⟩=some (.int .i64 n):=(blk_cell hb 0).trans rfl
 by_cases h:-1≤x
 ·have h1:decide (x ≥ -1)=true:=decide_eq_true h
  go_enter Tryd.func54,Tryd.ntmps54
  go_wp2
  go_ret
  exact ⟨ret_bool (by simp [inB,h]),rfl⟩
 have h1:decide (x ≥ -1)=false:=decide_eq_false h
 go_enter Tryd.func54,Tryd.ntmps54
 go_wp2
 go_ret
 exact ⟨ret_bool (by simp only [inB,decide_eq_false (show ¬ (-1≤x) by omega),Bool.false_and]),rfl⟩
theorem layoutOk_bad {n:Int} {l:List S98} (h:¬ (n<1)∧¬ (60<n)∧¬ (120<l.length)) {i:Nat} (hi:i<l.length) (hb:ctrOk n (rd_T98 l i)=false):layoutOk n l=2:=by
 unfold layoutOk
 rw [if_neg h.1,if_neg h.2.1,if_neg h.2.2,if_neg]
 intro ha
 have:=List.all_eq_true.1 ha (l.getD i z98) (by rw [List.getD_eq_getElem?_getD,List.getElem?_eq_getElem hi];exact List.getElem_mem hi)
 simp only [rd_T98,Int.toNat_natCast] at hb
 rw [hb] at this
 cases this
theorem lay_b {n:Int} {m:Nat} (h:1≤n∧n≤60∧¬ 120<m):¬ (n<1)∧¬ (60<n)∧¬ (120<m):=⟨by omega,by omega,h.2.2⟩
theorem layoutOk_good {n:Int} {l:List S98} (h:¬ (n<1)∧¬ (60<n)∧¬ (120<l.length)) {i:Nat} (hi:¬ i<l.length) (ht:(l.take i).all (ctrOk n)=true):layoutOk n l=0:=by
 rw [List.take_of_length_le (by omega)] at ht
 unfold layoutOk
 rw [if_neg h.1,if_neg h.2.1,if_neg h.2.2,if_pos ht]
theorem take_all {n:Int} {l:List S98} {i:Nat} (hi:i<l.length) (ht:(l.take i).all (ctrOk n)=true) (hb:ctrOk n (rd_T98 l i)=true):(l.take (i+1)).all (ctrOk n)=true:=by
 rw [List.take_succ_eq_append_getElem hi,List.all_append,ht]
 simp only [rd_T98,Int.toNat_natCast,List.getD_eq_getElem?_getD,List.getElem?_eq_getElem hi,Option.getD_some] at hb
 simp [hb]
set_option maxHeartbeats 2000000 in
set_option maxRecDepth 100000 in
theorem impl_LayoutOk.calls (a0_0:Int) (A0_1:Option Addr) (c0_1:Nat) (l0_1:List (S98)) (r:Int) (w:World) (hr0_1:Kd.C k98 w A0_1 l0_1.length l0_1) (hc0_1:l0_1.length≤c0_1) (h:impl_LayoutOk.f a0_0 l0_1=some r) :
  Calls Tryd.prog 30 #[.agg #[.int .i64 a0_0,.slice A0_1 l0_1.length c0_1]] w fun e w'=>e=.returned (.int .i64 r)∧Below w.heap.size w w':=by
 obtain rfl:=Option.some.inj h
 clear h
 have HR:=Aside0.mk hr0_1
 clear hr0_1 hc0_1
 by_cases h1:a0_0<1
 ·have e:Aside0 (layoutOk a0_0 l0_1=1):=⟨by unfold layoutOk;rw [if_pos h1]⟩
  have h1b:decide (a0_0<1)=true:=decide_eq_true h1
  clear h1
  go_enter Tryd.func30,Tryd.ntmps30
  go_wp2
  go_ret
  exact ⟨ret_int e.out.symm,below_alloc (Below.refl _ _) _⟩
 have h1b:decide (a0_0<1)=false:=decide_eq_false h1
 by_cases h2:60<a0_0
 ·have e:Aside0 (layoutOk a0_0 l0_1=1):=⟨by unfold layoutOk;rw [if_neg h1,if_pos h2]⟩
  have h2b:decide (a0_0 > 60)=true:=decide_eq_true h2
  clear h1 h2
  go_enter Tryd.func30,Tryd.ntmps30
  go_wp2
  go_ret
  exact ⟨ret_int e.out.symm,below_alloc (Below.refl _ _) _⟩
 have h2b:decide (a0_0 > 60)=false:=decide_eq_false h2
 by_cases h3:120<l0_1.length
 ·have e:Aside0 (layoutOk a0_0 l0_1=1):=⟨by unfold layoutOk;rw [if_neg h1,if_neg h2,if_pos h3]⟩
  have h3b:decide ((l0_1.length:Int) > 120)=true:=decide_eq_true (by omega)
  have h3c:decide (120<l0_1.length)=true:=decide_eq_true h3
  clear h1 h2 h3
  go_enter Tryd.func30,Tryd.ntmps30
  go_wp2
  go_ret
  exact ⟨ret_int e.out.symm,below_alloc (Below.refl _ _) _⟩
 have h3b:decide ((l0_1.length:Int) > 120)=false:=decide_eq_false (by omega)
 have h3c:decide (120<l0_1.length)=false:=decide_eq_false h3
 have HH:Aside0 (¬ (a0_0<1)∧¬ (60<a0_0)∧¬ (120<l0_1.length)):=⟨h1,h2,h3⟩
 clear h1 h2 h3
 go_enter Tryd.func30,Tryd.ntmps30
 go_wp2
 go_loopw [24] (fun v wr=>∃ i:Nat,v=.int .i64 i∧Aside0 (i≤l0_1.length∧(l0_1.take i).all (ctrOk a0_0)=true)∧Aside0 (wr.heap[w.heap.size]?=some (.cells #[.int .i64 a0_0,.slice A0_1 l0_1.length c0_1] 31 (0,0)))∧Aside0 (Below w.heap.size w wr)) (fun v _=>l0_1.length - (intOf v).toNat)
 case atStart=>exact ⟨0,rfl,⟨Nat.zero_le _,by simp⟩,⟨heap_alloc_new _ _⟩,⟨below_alloc (Below.refl _ _) _⟩⟩
 case round =>
  obtain ⟨i,rfl,HI,BK,HB⟩:=hrel
  have hgt:Aside0 (¬ (a0_0<1)∧¬ (60<a0_0)∧¬ (120<l0_1.length)):=by
   have:=HH.out
   exact ⟨by omega,by omega,by omega⟩
  clear HH
  have hcz0:wr.cell? ⟨w.heap.size,0,none⟩=some (.int .i64 a0_0):=(blk_cell BK.out 0).trans rfl
  have hcz1:wr.cell? ⟨w.heap.size,1,none⟩=some (.slice A0_1 l0_1.length c0_1):=(blk_cell BK.out 1).trans rfl
  by_cases hlt:i<l0_1.length
  ·have hlt1:decide ((i:Int)<(l0_1.length:Int))=true:=decide_eq_true (by omega)
   have hlt2:decide (i<l0_1.length)=true:=decide_eq_true hlt
   obtain ⟨ad,e,hx0,hx1⟩:=at_T98 HR.out (i:Int) (by omega) (by omega)
   subst e
   replace hx0:=(HB.out.cell (World.block_lt_of_cell? w _ hx0)).trans hx0
   replace hx1:=(HB.out.cell (World.block_lt_of_cell? w _ hx1)).trans hx1
   rw [Int.toNat_natCast] at hx0 hx1
   generalize hv:rd_T98 l0_1 i=v at hx0 hx1
   have HV:=Aside0.mk hv
   clear hv
   have HLT:=Aside0.mk hlt
   have hsz:=Aside0.mk HB.out.size
   have hp0:0≤(i:Int):=by omega
   have hp1:(i:Int)<120:=by have:=hgt.out;omega
   by_cases t1:inB a0_0 v.f0=true
   ·have T1:Aside0 (true=inB a0_0 v.f0):=⟨t1.symm⟩
    clear t1
    by_cases t2:inB a0_0 v.f1=true
    ·have T2:Aside0 (true=inB a0_0 v.f1):=⟨t2.symm⟩
     clear t2
     by_cases t3:v.f0=v.f1
     ·have t3b:(v.f0==v.f1)=true:=beq_iff_eq.mpr t3
      have T3:Aside0 (true=(v.f0==v.f1)):=⟨t3b.symm⟩
      clear t3
      go_wp2_with (go_at_call 54;refine (in_calls _ a0_0 _ w.heap.size _ (blk_alloc BK.out _)).mono ?_;rintro e w' ⟨rfl,rfl⟩;(first|rw [← T1.out]|rw [← T2.out]))
      go_ret
      exact ⟨ret_int (layoutOk_bad (lay_b hgt.out) HLT.out (by rw [HV.out];simp [ctrOk,← T3.out])).symm,below_alloc HB.out _⟩
     have t3b:(v.f0==v.f1)=false:=beq_eq_false_iff_ne.mpr t3
     have T3:Aside0 (false=(v.f0==v.f1)):=⟨t3b.symm⟩
     clear t3
     go_wp2_with (go_at_call 54;refine (in_calls _ a0_0 _ w.heap.size _ (blk_alloc BK.out _)).mono ?_;rintro e w' ⟨rfl,rfl⟩;(first|rw [← T1.out]|rw [← T2.out]))
     go_roundw
     case rel=>exact ⟨i+1,by go_num,⟨HLT.out,take_all HLT.out HI.out.2 (by rw [HV.out];simp [ctrOk,← T1.out,← T2.out,← T3.out])⟩,⟨blk_alloc BK.out _⟩,⟨below_alloc HB.out _⟩⟩
     case measure=>have:=HLT.out;simp [intOf];omega
    have T2:Aside0 (false=inB a0_0 v.f1):=⟨by simpa using t2⟩
    clear t2
    go_wp2_with (go_at_call 54;refine (in_calls _ a0_0 _ w.heap.size _ (blk_alloc BK.out _)).mono ?_;rintro e w' ⟨rfl,rfl⟩;(first|rw [← T1.out]|rw [← T2.out]))
    go_ret
    exact ⟨ret_int (layoutOk_bad (lay_b hgt.out) HLT.out (by rw [HV.out];simp [ctrOk,← T2.out])).symm,below_alloc HB.out _⟩
   have T1:Aside0 (false=inB a0_0 v.f0):=⟨by simpa using t1⟩
   clear t1
   go_wp2_with (go_at_call 54;refine (in_calls _ a0_0 _ w.heap.size _ (blk_alloc BK.out _)).mono ?_;rintro e w' ⟨rfl,rfl⟩;rw [← T1.out])
   go_ret
   exact ⟨ret_int (layoutOk_bad (lay_b hgt.out) HLT.out (by rw [HV.out];simp [ctrOk,← T1.out])).symm,below_alloc HB.out _⟩
  have hlt1:decide ((i:Int)<(l0_1.length:Int))=false:=decide_eq_false (by omega)
  have hlt2:decide (i<l0_1.length)=false:=decide_eq_false hlt
  have HLT:=Aside0.mk hlt
  clear hlt
  go_wp2
  go_ret
  exact ⟨ret_int (layoutOk_good (lay_b hgt.out) HLT.out HI.out.2).symm,HB.out⟩
end Go.Proofs.YtpdnabhpkdchjaaDoor.P
namespace Go.Proofs.YtpdnabhpkdchjaaDoor.P
open Go.RowKit Go.Proofs.YtpdnabhpkdchjaaDoorW.PrintWords Go.Proofs.YtpdnabhpkdchjaaDoorW.PrintLast Go.Proofs.YtpdnabhpkdchjaaDoorW.PrintMore
attribute [local go_sem] max2_int min2_int max_two min_two max_three min_three max_four min_four
set_option linter.unusedVariables false
set_option linter.unusedSimpArgs false
def spec_l1in.f (a0:Int) (a1:Int) (a2:Int):Option (Bool):=if a0 ≥ a1 then (some (decide (a0≤a2))) else (some false)
set_option maxHeartbeats 8000000 in
set_option maxRecDepth 100000 in
theorem spec_l1in.calls (a0:Int) (a1:Int) (a2:Int) (r:Bool) (w:World) (h:spec_l1in.f a0 a1 a2=some r) :
  Calls Tryd.prog 51 #[.int .i64 a0,.int .i64 a1,.int .i64 a2] w fun e w'=>e=.returned (.bool r)∧Drawn0 w w':=by
 have H:(if a0 ≥ a1 then (some (decide (a0≤a2))) else (some false))=some r:=h
 clear h
 by_cases c4:a0 ≥ a1
 ·rw [if_pos c4] at H
  have c4b0:decide (a1≤a0)=true:=decide_eq_true c4
  clear c4
  obtain rfl:=Option.some.inj H
  go_enter Tryd.func51,Tryd.ntmps51
  go_wp2
  go_ret
  exact ⟨by first|rfl|(simp;done)|(simp [*];done),by repeat (first|exact Drawn0.refl _|apply Drawn0.step)⟩
 rw [if_neg c4] at H
 have c4b0:decide (a1≤a0)=false:=decide_eq_false c4
 clear c4
 obtain rfl:=Option.some.inj H
 go_enter Tryd.func51,Tryd.ntmps51
 go_wp2
 go_ret
 exact ⟨by first|rfl|(simp;done)|(simp [*];done),by repeat (first|exact Drawn0.refl _|apply Drawn0.step)⟩
end Go.Proofs.YtpdnabhpkdchjaaDoor.P
namespace Go.Proofs.YtpdnabhpkdchjaaDoor.P
open Go.RowKit Go.Proofs.YtpdnabhpkdchjaaDoorW.PrintWords Go.Proofs.YtpdnabhpkdchjaaDoorW.PrintLast Go.Proofs.YtpdnabhpkdchjaaDoorW.PrintMore
attribute [local go_sem] max2_int min2_int max_two min_two max_three min_three max_four min_four
set_option linter.unusedVariables false
set_option linter.unusedSimpArgs false
mutual
def spec_LayoutOk.j0:Nat→Bool→Int→List (S98)→Option (Int)
 | 0,_,_,_=>none
 | k+1,x14,x104000,x104001=>if x14=true then (some 1) else (spec_LayoutOk.l0 k x104001 (x104001.length:Int) 0 x104000 x104001)
def spec_LayoutOk.l0:Nat→List (S98)→Int→Int→Int→List (S98)→Option (Int)
 | 0,_,_,_,_,_=>none
 | k+1,x16,x17,x18,x104000,x104001=>if x18<x17 then (if 0≤x18 then (if x18<(x16.length:Int) then ((spec_l1in.f ((rd_T98 x16 x18).f0) (-1) (wrap64 (x104000 - 1))).bind fun t107=>(if t107=true then ((spec_l1in.f ((rd_T98 x16 x18).f1) (-1) (wrap64 (x104000 - 1))).bind fun t108=>(if t108=true then (if ((rd_T98 x16 x18).f0)=((rd_T98 x16 x18).f1) then (some 2) else (spec_LayoutOk.l0 k x16 x17 (wrap64 (x18+1)) x104000 x104001)) else (some 2))) else (some 2))) else (none)) else (none)) else (some 0)
end
def spec_LayoutOk.f (k:Nat) (a0_0:Int) (l0_1:List (S98)):Option (Int):=(spec_l1in.f a0_0 1 60).bind fun t104=>(if t104=true then (spec_LayoutOk.j0 k (decide ((l0_1.length:Int) > 120)) a0_0 l0_1) else (spec_LayoutOk.j0 k true a0_0 l0_1))
set_option maxHeartbeats 8000000 in
set_option maxRecDepth 100000 in
theorem spec_LayoutOk.calls (k:Nat) (a0_0:Int) (A0_1:Option Addr) (c0_1:Nat) (l0_1:List (S98)) (r:Int) (w:World) (hr0_1:Kd.C k98 w A0_1 l0_1.length l0_1) (hc0_1:l0_1.length≤c0_1) (h:spec_LayoutOk.f k a0_0 l0_1=some r) :
  Calls Tryd.prog 38 #[.agg #[.int .i64 a0_0,.slice A0_1 l0_1.length c0_1]] w fun e w'=>e=.returned (.int .i64 r)∧Below w.heap.size w w':=by
 have hu31:=Tryd.underlying31
 have hu98:=Tryd.underlying98
 have HR0_1:=Aside0.mk hr0_1
 have HC0_1:=Aside0.mk hc0_1
 clear hr0_1 hc0_1
 have HB:=Aside0.mk (Below.refl w.heap.size w)
 have H:((spec_l1in.f a0_0 1 60).bind fun t104=>(if t104=true then (spec_LayoutOk.j0 k (decide ((l0_1.length:Int) > 120)) a0_0 l0_1) else (spec_LayoutOk.j0 k true a0_0 l0_1)))=some r:=h
 clear h
 have HC2:=Aside0.mk H
 clear H
 go_enter Tryd.func38,Tryd.ntmps38
 go_upto_region 1 with (first|((with_reducible refine gate_dst (N:=1) rfl ?_);(try (refine gate_guard (by rfl) ?_;dsimp only));refine box_event ?hg (N:=1) ?hd (cs:=#[.int .i64 a0_0,.slice A0_1 l0_1.length c0_1]) (t:=31) ?hr ?_;(case hd=>rfl);(case hg=>rfl);(case hr=>first|(go_simp;done)|(go_simp;rfl));intro gb103 hg w3 hbox hb;have n0_:=Aside0.mk (below_step (by exact HB.out) hb);have n1_:=Aside0.mk (hbox);have n2_:=Aside0.mk ((by rw [hg];exact (below_size (by exact HB.out)):w.heap.size≤gb103));have n3_:=Aside0.mk ((by rw [hg];exact (below_size (by exact HB.out)):w.heap.size≤gb103));clear HB;have HB:=n0_;have BK103:=n1_;have GW103:=n2_;have GE103:=n3_;clear n0_ n1_ n2_ n3_;clear hb hbox hg))
 (try simp only [Act.put,List.setIfInBounds_toArray,List.set_cons_zero,List.set_cons_succ])
 go_cut [14] (fun v14 wc=>∃ (kq:Nat) (x14_1:Bool),v14=.bool x14_1∧Aside0 (spec_LayoutOk.j0 kq x14_1 a0_0 l0_1=some r)∧Aside0 (kq≤k)∧Aside0 (wc.heap[gb103]?=some (.cells #[.int .i64 a0_0,(.slice A0_1 l0_1.length c0_1)] 31 (0,0)))∧Aside0 (Below w.heap.size w wc))
 case first =>
  have H:=HC2.out
  clear HC2
  replace H:=Option.bind_eq_some_iff.mp H
  obtain ⟨t104,A40,H⟩:=H
  replace H:(if t104=true then (spec_LayoutOk.j0 k (decide ((l0_1.length:Int) > 120)) a0_0 l0_1) else (spec_LayoutOk.j0 k true a0_0 l0_1))=some r:=H
  have A4:=Aside0.mk A40
  clear A40
  by_cases c5:t104=true
  ·subst c5
   have H1:(spec_LayoutOk.j0 k (decide ((l0_1.length:Int) > 120)) a0_0 l0_1)=some r:=by rw [if_pos rfl] at H;exact H
   clear H
   have H:=H1
   clear H1
   have H':=Aside0.mk H
   clear H
   have hcz6_0:w3.cell? ⟨gb103,0,none⟩=some (.int .i64 a0_0):=(blk_cell BK103.out 0).trans rfl
   have hcz6_1:w3.cell? ⟨gb103,1,none⟩=some (.slice A0_1 l0_1.length c0_1):=(blk_cell BK103.out 1).trans rfl
   have hfz6_0:=blk_frozen BK103.out 0
   have hfz6_1:=blk_frozen BK103.out 1
   go_wp2_with (first|((with_reducible refine gate_callee (f:=51) rfl ?_);refine goesL_ (some 7) rfl rfl Tryd.func51 (by kernel_rfl) rfl #[.int .i64 a0_0,.int .i64 1,.int .i64 60] rfl (by (try simp only [List.map_toArray,List.map_cons,List.map_nil]);first|done|rfl|(simp only [List.length_drop,List.length_take];rfl)) ?_;(with_reducible refine (spec_l1in.calls a0_0 1 60 true _ A4.out).mono ?_);rintro e w' ⟨rfl,⟨nd,rfl⟩⟩;refine ⟨_,rfl,?_⟩))
   go_meet
   case rel=>exact ⟨_,(decide ((l0_1.length:Int) > 120)),(by first|rfl|(simp;done)|(simp [*];done)),H',⟨by first|omega|exact Nat.le_refl _⟩,⟨by (with_reducible repeat (first|refine blk_drewN ?_ _|refine blk_drew ?_|refine blk_alloc ?_ _));exact BK103.out⟩,⟨by repeat (first|(with_reducible first|exact HB.out|apply below_alloc|apply pw_below_drewN|apply below_drew1|refine below_set ?_ GE103.out)|exact HB.out)⟩⟩
  replace c5:=Bool.eq_false_iff.mpr c5
  subst c5
  have H1:(spec_LayoutOk.j0 k true a0_0 l0_1)=some r:=by rw [if_neg (show ¬ (false=true) by decide)] at H;exact H
  clear H
  have H:=H1
  clear H1
  have H':=Aside0.mk H
  clear H
  have hcz7_0:w3.cell? ⟨gb103,0,none⟩=some (.int .i64 a0_0):=(blk_cell BK103.out 0).trans rfl
  have hcz7_1:w3.cell? ⟨gb103,1,none⟩=some (.slice A0_1 l0_1.length c0_1):=(blk_cell BK103.out 1).trans rfl
  have hfz7_0:=blk_frozen BK103.out 0
  have hfz7_1:=blk_frozen BK103.out 1
  go_wp2_with (first|((with_reducible refine gate_callee (f:=51) rfl ?_);refine goesL_ (some 7) rfl rfl Tryd.func51 (by kernel_rfl) rfl #[.int .i64 a0_0,.int .i64 1,.int .i64 60] rfl (by (try simp only [List.map_toArray,List.map_cons,List.map_nil]);first|done|rfl|(simp only [List.length_drop,List.length_take];rfl)) ?_;(with_reducible refine (spec_l1in.calls a0_0 1 60 false _ A4.out).mono ?_);rintro e w' ⟨rfl,⟨nd,rfl⟩⟩;refine ⟨_,rfl,?_⟩))
  go_meet
  case rel=>exact ⟨_,(true),(by first|rfl|(simp;done)|(simp [*];done)),H',⟨by first|omega|exact Nat.le_refl _⟩,⟨by (with_reducible repeat (first|refine blk_drewN ?_ _|refine blk_drew ?_|refine blk_alloc ?_ _));exact BK103.out⟩,⟨by repeat (first|(with_reducible first|exact HB.out|apply below_alloc|apply pw_below_drewN|apply below_drew1|refine below_set ?_ GE103.out)|exact HB.out)⟩⟩
 case rest =>
  clear HC2
  try clear p2
  try clear c3
  try clear c5
  try clear hcz6_0
  try clear hcz6_1
  try clear hcz7_0
  try clear hcz7_1
  try clear hfz6_0
  try clear hfz6_1
  try clear hfz7_0
  try clear hfz7_1
  obtain ⟨kq,x14_1,rfl,HA,HJ1,BK103,HB⟩:=hcut
  cases kq with
  | zero=>exact absurd HA.out (by simp [spec_LayoutOk.j0])
  | succ kj1 =>
   have H:=HA.out
   clear HA
   simp only [spec_LayoutOk.j0] at H
   by_cases c8:x14_1=true
   ·subst c8
    have H1:(some 1)=some r:=by rw [if_pos rfl] at H;exact H
    clear H
    have H:=H1
    clear H1
    obtain rfl:=Option.some.inj H
    go_wp2
    go_ret
    exact ⟨by first|rfl|(simp [errW_none,errW_some] <;> rfl)|(simp [*,errW_none,errW_some] <;> rfl),by exact HB.out⟩
   replace c8:=Bool.eq_false_iff.mpr c8
   subst c8
   have H1:(spec_LayoutOk.l0 kj1 l0_1 (l0_1.length:Int) 0 a0_0 l0_1)=some r:=by rw [if_neg (show ¬ (false=true) by decide)] at H;exact H
   clear H
   have H:=H1
   clear H1
   have H':=Aside0.mk H
   clear H
   have hcz9_0:wc.cell? ⟨gb103,0,none⟩=some (.int .i64 a0_0):=(blk_cell BK103.out 0).trans rfl
   have hcz9_1:wc.cell? ⟨gb103,1,none⟩=some (.slice A0_1 l0_1.length c0_1):=(blk_cell BK103.out 1).trans rfl
   have hfz9_0:=blk_frozen BK103.out 0
   have hfz9_1:=blk_frozen BK103.out 1
   go_wp2
   go_loopg [18] kj1 (fun kq v18 w'=>∃ (x18_2:Int),v18=.int .i64 x18_2∧Aside0 (spec_LayoutOk.l0 kq l0_1 (l0_1.length:Int) x18_2 a0_0 l0_1=some r)∧Aside0 (kq≤kj1)∧Aside0 (w'.heap[gb103]?=some (.cells #[.int .i64 a0_0,(.slice A0_1 l0_1.length c0_1)] 31 (0,0)))∧Aside0 (Below w.heap.size w w'))
   case atStart=>exact ⟨(0),(by first|rfl|(simp;done)|(simp [*];done)),H',⟨Nat.le_refl _⟩,⟨by exact BK103.out⟩,⟨by exact HB.out⟩⟩
   case round =>
    clear H'
    try clear p2
    try clear c3
    try clear c5
    try clear c8
    try clear hcz6_0
    try clear hcz6_1
    try clear hcz7_0
    try clear hcz7_1
    try clear hcz9_0
    try clear hcz9_1
    try clear hfz6_0
    try clear hfz6_1
    try clear hfz7_0
    try clear hfz7_1
    try clear hfz9_0
    try clear hfz9_1
    try clear p2
    obtain ⟨x18_2,rfl,HA,HK2,BK103,HB⟩:=hrel
    cases gk with
    | zero=>exact absurd HA.out (by simp [spec_LayoutOk.l0])
    | succ k2 =>
     have H:=HA.out
     clear HA
     simp only [spec_LayoutOk.l0] at H
     by_cases c10:x18_2<(l0_1.length:Int)
     ·rw [if_pos c10] at H
      have c10b0:decide (x18_2<(l0_1.length:Int))=true:=decide_eq_true c10
      clear c10
      by_cases c11:0≤x18_2
      ·rw [if_pos c11] at H
       have c11b0:decide (0≤x18_2)=true:=decide_eq_true c11
       clear c11
       by_cases c12:x18_2<(l0_1.length:Int)
       ·rw [if_pos c12] at H
        have c12b0:decide (x18_2<(l0_1.length:Int))=true:=decide_eq_true c12
        clear c12
        replace H:=Option.bind_eq_some_iff.mp H
        obtain ⟨t107,A130,H⟩:=H
        replace H:(if t107=true then ((spec_l1in.f ((rd_T98 l0_1 x18_2).f1) (-1) (wrap64 (a0_0 - 1))).bind fun t108=>(if t108=true then (if ((rd_T98 l0_1 x18_2).f0)=((rd_T98 l0_1 x18_2).f1) then (some 2) else (spec_LayoutOk.l0 k2 l0_1 (l0_1.length:Int) (wrap64 (x18_2+1)) a0_0 l0_1)) else (some 2))) else (some 2))=some r:=H
        have A13:=Aside0.mk A130
        clear A130
        by_cases c14:t107=true
        ·subst c14
         have H1:((spec_l1in.f ((rd_T98 l0_1 x18_2).f1) (-1) (wrap64 (a0_0 - 1))).bind fun t108=>(if t108=true then (if ((rd_T98 l0_1 x18_2).f0)=((rd_T98 l0_1 x18_2).f1) then (some 2) else (spec_LayoutOk.l0 k2 l0_1 (l0_1.length:Int) (wrap64 (x18_2+1)) a0_0 l0_1)) else (some 2)))=some r:=by rw [if_pos rfl] at H;exact H
         clear H
         have H:=H1
         clear H1
         replace H:=Option.bind_eq_some_iff.mp H
         obtain ⟨t108,A150,H⟩:=H
         replace H:(if t108=true then (if ((rd_T98 l0_1 x18_2).f0)=((rd_T98 l0_1 x18_2).f1) then (some 2) else (spec_LayoutOk.l0 k2 l0_1 (l0_1.length:Int) (wrap64 (x18_2+1)) a0_0 l0_1)) else (some 2))=some r:=H
         have A15:=Aside0.mk A150
         clear A150
         by_cases c16:t108=true
         ·subst c16
          have H1:(if ((rd_T98 l0_1 x18_2).f0)=((rd_T98 l0_1 x18_2).f1) then (some 2) else (spec_LayoutOk.l0 k2 l0_1 (l0_1.length:Int) (wrap64 (x18_2+1)) a0_0 l0_1))=some r:=by rw [if_pos rfl] at H;exact H
          clear H
          have H:=H1
          clear H1
          by_cases c17:((rd_T98 l0_1 x18_2).f0)=((rd_T98 l0_1 x18_2).f1)
          ·rw [if_pos c17] at H
           have c17b0:(((rd_T98 l0_1 x18_2).f0)==((rd_T98 l0_1 x18_2).f1))=true:=beq_iff_eq.mpr c17
           have c17b1:(((rd_T98 l0_1 x18_2).f0) != ((rd_T98 l0_1 x18_2).f1))=false:=bne_eq_false_iff_eq.mpr c17
           clear c17
           obtain rfl:=Option.some.inj H
           have p105:0≤(x18_2:Int):=of_decide_eq_true (by first|(with_reducible assumption)|assumption)
           have q105:x18_2<(l0_1.length:Int):=of_decide_eq_true (by first|(with_reducible assumption)|assumption)
           obtain ⟨ad105,e105,hx105_0,hx105_1⟩:=at_T98 HR0_1.out x18_2 p105 q105
           cases e105
           replace hx105_0:=(HB.out.cell (World.block_lt_of_cell? w _ hx105_0)).trans hx105_0
           replace hx105_1:=(HB.out.cell (World.block_lt_of_cell? w _ hx105_1)).trans hx105_1
           replace p105:=eq_true p105
           replace q105:=eq_true q105
           go_wp2_with (first|((with_reducible refine gate_dst (N:=4) rfl ?_);(try (refine gate_guard (by rfl) ?_;dsimp only));refine box_event ?hg (N:=4) ?hd (cs:=#[.int .i64 0,.int .i64 0]) (t:=98) ?hr ?_;(case hd=>rfl);(case hg=>rfl);(case hr=>first|(go_simp;done)|(go_simp;rfl));intro gb106 hg w18 hbox hb;have n0_:=Aside0.mk (blk_below (g:=gb103) (o:=.cells #[.int .i64 a0_0,.slice (some ad105) l0_1.length c0_1] 31 (0,0)) (by exact BK103.out) hb);have n1_:=Aside0.mk (below_step (by exact HB.out) hb);have n2_:=Aside0.mk (hbox);have n3_:=Aside0.mk ((by rw [hg];exact (below_size (by exact HB.out)):w.heap.size≤gb106));have n4_:=Aside0.mk ((by rw [hg];exact (below_size (by exact HB.out)):w.heap.size≤gb106));have n5_:=Aside0.mk ((by rw [hg];exact Nat.ne_of_lt (blk_lt (g:=gb103) (o:=.cells #[.int .i64 a0_0,.slice (some ad105) l0_1.length c0_1] 31 (0,0)) (by exact BK103.out)):gb103 ≠ gb106));have n6_:=Aside0.mk ((by rw [hg];exact Nat.ne_of_gt (blk_lt (g:=gb103) (o:=.cells #[.int .i64 a0_0,.slice (some ad105) l0_1.length c0_1] 31 (0,0)) (by exact BK103.out)):gb106 ≠ gb103));clear BK103;clear HB;have BK103:=n0_;have HB:=n1_;have BK106:=n2_;have GW106:=n3_;have GE106:=n4_;have NB103_106:=n5_;have NB106_103:=n6_;clear n0_ n1_ n2_ n3_ n4_ n5_ n6_;clear hb hbox hg;have hnb19:=NB106_103.out;have hnc19:=NB103_106.out;have hcz20_0:w18.cell? ⟨gb106,0,none⟩=some (.int .i64 0):=(blk_cell BK106.out 0).trans rfl;have hcz20_1:w18.cell? ⟨gb106,1,none⟩=some (.int .i64 0):=(blk_cell BK106.out 1).trans rfl;have hfz20_0:=blk_frozen BK106.out 0;have hfz20_1:=blk_frozen BK106.out 1;have hcz21_0:w18.cell? ⟨gb103,0,none⟩=some (.int .i64 a0_0):=(blk_cell BK103.out 0).trans rfl;have hcz21_1:w18.cell? ⟨gb103,1,none⟩=some (.slice (some ad105) l0_1.length c0_1):=(blk_cell BK103.out 1).trans rfl;have hfz21_0:=blk_frozen BK103.out 0;have hfz21_1:=blk_frozen BK103.out 1)|((with_reducible refine gate_callee (f:=51) rfl ?_);refine goesL_ (some 27) rfl rfl Tryd.func51 (by kernel_rfl) rfl #[.int .i64 ((rd_T98 l0_1 x18_2).f0),.int .i64 (-1),.int .i64 (wrap64 (a0_0 - 1))] rfl (by (try simp only [List.map_toArray,List.map_cons,List.map_nil]);first|done|rfl|(simp only [List.length_drop,List.length_take];rfl)) ?_;(with_reducible refine (spec_l1in.calls ((rd_T98 l0_1 x18_2).f0) (-1) (wrap64 (a0_0 - 1)) true _ A13.out).mono ?_);rintro e w' ⟨rfl,⟨nd,rfl⟩⟩;refine ⟨_,rfl,?_⟩)|(go_at_call 51;(with_reducible refine (spec_l1in.calls ((rd_T98 l0_1 x18_2).f1) (-1) (wrap64 (a0_0 - 1)) true _ A15.out).mono ?_);rintro e w' ⟨rfl,⟨nd,rfl⟩⟩))
           go_ret
           exact ⟨by first|rfl|(simp [errW_none,errW_some] <;> rfl)|(simp [*,errW_none,errW_some] <;> rfl),by repeat (first|(with_reducible first|exact HB.out|apply below_alloc|apply pw_below_drewN|apply below_drew1|refine below_set ?_ GE103.out|refine below_set ?_ GE106.out)|exact HB.out)⟩
          rw [if_neg c17] at H
          have c17b0:(((rd_T98 l0_1 x18_2).f0)==((rd_T98 l0_1 x18_2).f1))=false:=beq_eq_false_iff_ne.mpr c17
          have c17b1:(((rd_T98 l0_1 x18_2).f0) != ((rd_T98 l0_1 x18_2).f1))=true:=bne_iff_ne.mpr c17
          have H':=Aside0.mk H
          clear H
          have p105:0≤(x18_2:Int):=of_decide_eq_true (by first|(with_reducible assumption)|assumption)
          have q105:x18_2<(l0_1.length:Int):=of_decide_eq_true (by first|(with_reducible assumption)|assumption)
          obtain ⟨ad105,e105,hx105_0,hx105_1⟩:=at_T98 HR0_1.out x18_2 p105 q105
          cases e105
          replace hx105_0:=(HB.out.cell (World.block_lt_of_cell? w _ hx105_0)).trans hx105_0
          replace hx105_1:=(HB.out.cell (World.block_lt_of_cell? w _ hx105_1)).trans hx105_1
          replace p105:=eq_true p105
          replace q105:=eq_true q105
          go_wp2_with (first|((with_reducible refine gate_dst (N:=4) rfl ?_);(try (refine gate_guard (by rfl) ?_;dsimp only));refine box_event ?hg (N:=4) ?hd (cs:=#[.int .i64 0,.int .i64 0]) (t:=98) ?hr ?_;(case hd=>rfl);(case hg=>rfl);(case hr=>first|(go_simp;done)|(go_simp;rfl));intro gb106 hg w22 hbox hb;have n0_:=Aside0.mk (blk_below (g:=gb103) (o:=.cells #[.int .i64 a0_0,.slice (some ad105) l0_1.length c0_1] 31 (0,0)) (by exact BK103.out) hb);have n1_:=Aside0.mk (below_step (by exact HB.out) hb);have n2_:=Aside0.mk (hbox);have n3_:=Aside0.mk ((by rw [hg];exact (below_size (by exact HB.out)):w.heap.size≤gb106));have n4_:=Aside0.mk ((by rw [hg];exact (below_size (by exact HB.out)):w.heap.size≤gb106));have n5_:=Aside0.mk ((by rw [hg];exact Nat.ne_of_lt (blk_lt (g:=gb103) (o:=.cells #[.int .i64 a0_0,.slice (some ad105) l0_1.length c0_1] 31 (0,0)) (by exact BK103.out)):gb103 ≠ gb106));have n6_:=Aside0.mk ((by rw [hg];exact Nat.ne_of_gt (blk_lt (g:=gb103) (o:=.cells #[.int .i64 a0_0,.slice (some ad105) l0_1.length c0_1] 31 (0,0)) (by exact BK103.out)):gb106 ≠ gb103));clear BK103;clear HB;have BK103:=n0_;have HB:=n1_;have BK106:=n2_;have GW106:=n3_;have GE106:=n4_;have NB103_106:=n5_;have NB106_103:=n6_;clear n0_ n1_ n2_ n3_ n4_ n5_ n6_;clear hb hbox hg;have hnb23:=NB106_103.out;have hnc23:=NB103_106.out;have hcz24_0:w22.cell? ⟨gb106,0,none⟩=some (.int .i64 0):=(blk_cell BK106.out 0).trans rfl;have hcz24_1:w22.cell? ⟨gb106,1,none⟩=some (.int .i64 0):=(blk_cell BK106.out 1).trans rfl;have hfz24_0:=blk_frozen BK106.out 0;have hfz24_1:=blk_frozen BK106.out 1;have hcz25_0:w22.cell? ⟨gb103,0,none⟩=some (.int .i64 a0_0):=(blk_cell BK103.out 0).trans rfl;have hcz25_1:w22.cell? ⟨gb103,1,none⟩=some (.slice (some ad105) l0_1.length c0_1):=(blk_cell BK103.out 1).trans rfl;have hfz25_0:=blk_frozen BK103.out 0;have hfz25_1:=blk_frozen BK103.out 1)|((with_reducible refine gate_callee (f:=51) rfl ?_);refine goesL_ (some 27) rfl rfl Tryd.func51 (by kernel_rfl) rfl #[.int .i64 ((rd_T98 l0_1 x18_2).f0),.int .i64 (-1),.int .i64 (wrap64 (a0_0 - 1))] rfl (by (try simp only [List.map_toArray,List.map_cons,List.map_nil]);first|done|rfl|(simp only [List.length_drop,List.length_take];rfl)) ?_;(with_reducible refine (spec_l1in.calls ((rd_T98 l0_1 x18_2).f0) (-1) (wrap64 (a0_0 - 1)) true _ A13.out).mono ?_);rintro e w' ⟨rfl,⟨nd,rfl⟩⟩;refine ⟨_,rfl,?_⟩)|(go_at_call 51;(with_reducible refine (spec_l1in.calls ((rd_T98 l0_1 x18_2).f1) (-1) (wrap64 (a0_0 - 1)) true _ A15.out).mono ?_);rintro e w' ⟨rfl,⟨nd,rfl⟩⟩))
          go_roundg k2
          case measure=>have:=HJ1.out;have:=HK2.out;omega
          case rel=>exact ⟨(wrap64 (x18_2+1)),(by first|rfl|(simp;done)|(simp [*];done)),H',⟨by have:=HJ1.out;have:=HK2.out;omega⟩,⟨by (with_reducible repeat (first|refine blk_drewN ?_ _|refine blk_drew ?_|refine blk_alloc ?_ _));refine blk_far ?_ NB103_106.out _;(with_reducible repeat (first|refine blk_drewN ?_ _|refine blk_drew ?_|refine blk_alloc ?_ _));refine blk_far ?_ NB103_106.out _;(with_reducible repeat (first|refine blk_drewN ?_ _|refine blk_drew ?_|refine blk_alloc ?_ _));exact BK103.out⟩,⟨by repeat (first|(with_reducible first|exact HB.out|apply below_alloc|apply pw_below_drewN|apply below_drew1|refine below_set ?_ GE103.out|refine below_set ?_ GE106.out)|exact HB.out)⟩⟩
         replace c16:=Bool.eq_false_iff.mpr c16
         subst c16
         have H1:(some 2)=some r:=by rw [if_neg (show ¬ (false=true) by decide)] at H;exact H
         clear H
         have H:=H1
         clear H1
         obtain rfl:=Option.some.inj H
         have p105:0≤(x18_2:Int):=of_decide_eq_true (by first|(with_reducible assumption)|assumption)
         have q105:x18_2<(l0_1.length:Int):=of_decide_eq_true (by first|(with_reducible assumption)|assumption)
         obtain ⟨ad105,e105,hx105_0,hx105_1⟩:=at_T98 HR0_1.out x18_2 p105 q105
         cases e105
         replace hx105_0:=(HB.out.cell (World.block_lt_of_cell? w _ hx105_0)).trans hx105_0
         replace hx105_1:=(HB.out.cell (World.block_lt_of_cell? w _ hx105_1)).trans hx105_1
         replace p105:=eq_true p105
         replace q105:=eq_true q105
         go_wp2_with (first|((with_reducible refine gate_dst (N:=4) rfl ?_);(try (refine gate_guard (by rfl) ?_;dsimp only));refine box_event ?hg (N:=4) ?hd (cs:=#[.int .i64 0,.int .i64 0]) (t:=98) ?hr ?_;(case hd=>rfl);(case hg=>rfl);(case hr=>first|(go_simp;done)|(go_simp;rfl));intro gb106 hg w26 hbox hb;have n0_:=Aside0.mk (blk_below (g:=gb103) (o:=.cells #[.int .i64 a0_0,.slice (some ad105) l0_1.length c0_1] 31 (0,0)) (by exact BK103.out) hb);have n1_:=Aside0.mk (below_step (by exact HB.out) hb);have n2_:=Aside0.mk (hbox);have n3_:=Aside0.mk ((by rw [hg];exact (below_size (by exact HB.out)):w.heap.size≤gb106));have n4_:=Aside0.mk ((by rw [hg];exact (below_size (by exact HB.out)):w.heap.size≤gb106));have n5_:=Aside0.mk ((by rw [hg];exact Nat.ne_of_lt (blk_lt (g:=gb103) (o:=.cells #[.int .i64 a0_0,.slice (some ad105) l0_1.length c0_1] 31 (0,0)) (by exact BK103.out)):gb103 ≠ gb106));have n6_:=Aside0.mk ((by rw [hg];exact Nat.ne_of_gt (blk_lt (g:=gb103) (o:=.cells #[.int .i64 a0_0,.slice (some ad105) l0_1.length c0_1] 31 (0,0)) (by exact BK103.out)):gb106 ≠ gb103));clear BK103;clear HB;have BK103:=n0_;have HB:=n1_;have BK106:=n2_;have GW106:=n3_;have GE106:=n4_;have NB103_106:=n5_;have NB106_103:=n6_;clear n0_ n1_ n2_ n3_ n4_ n5_ n6_;clear hb hbox hg;have hnb27:=NB106_103.out;have hnc27:=NB103_106.out;have hcz28_0:w26.cell? ⟨gb106,0,none⟩=some (.int .i64 0):=(blk_cell BK106.out 0).trans rfl;have hcz28_1:w26.cell? ⟨gb106,1,none⟩=some (.int .i64 0):=(blk_cell BK106.out 1).trans rfl;have hfz28_0:=blk_frozen BK106.out 0;have hfz28_1:=blk_frozen BK106.out 1;have hcz29_0:w26.cell? ⟨gb103,0,none⟩=some (.int .i64 a0_0):=(blk_cell BK103.out 0).trans rfl;have hcz29_1:w26.cell? ⟨gb103,1,none⟩=some (.slice (some ad105) l0_1.length c0_1):=(blk_cell BK103.out 1).trans rfl;have hfz29_0:=blk_frozen BK103.out 0;have hfz29_1:=blk_frozen BK103.out 1)|((with_reducible refine gate_callee (f:=51) rfl ?_);refine goesL_ (some 27) rfl rfl Tryd.func51 (by kernel_rfl) rfl #[.int .i64 ((rd_T98 l0_1 x18_2).f0),.int .i64 (-1),.int .i64 (wrap64 (a0_0 - 1))] rfl (by (try simp only [List.map_toArray,List.map_cons,List.map_nil]);first|done|rfl|(simp only [List.length_drop,List.length_take];rfl)) ?_;(with_reducible refine (spec_l1in.calls ((rd_T98 l0_1 x18_2).f0) (-1) (wrap64 (a0_0 - 1)) true _ A13.out).mono ?_);rintro e w' ⟨rfl,⟨nd,rfl⟩⟩;refine ⟨_,rfl,?_⟩)|(go_at_call 51;(with_reducible refine (spec_l1in.calls ((rd_T98 l0_1 x18_2).f1) (-1) (wrap64 (a0_0 - 1)) false _ A15.out).mono ?_);rintro e w' ⟨rfl,⟨nd,rfl⟩⟩))
         go_ret
         exact ⟨by first|rfl|(simp [errW_none,errW_some] <;> rfl)|(simp [*,errW_none,errW_some] <;> rfl),by repeat (first|(with_reducible first|exact HB.out|apply below_alloc|apply pw_below_drewN|apply below_drew1|refine below_set ?_ GE103.out|refine below_set ?_ GE106.out)|exact HB.out)⟩
        replace c14:=Bool.eq_false_iff.mpr c14
        subst c14
        have H1:(some 2)=some r:=by rw [if_neg (show ¬ (false=true) by decide)] at H;exact H
        clear H
        have H:=H1
        clear H1
        obtain rfl:=Option.some.inj H
        have p105:0≤(x18_2:Int):=of_decide_eq_true (by first|(with_reducible assumption)|assumption)
        have q105:x18_2<(l0_1.length:Int):=of_decide_eq_true (by first|(with_reducible assumption)|assumption)
        obtain ⟨ad105,e105,hx105_0,hx105_1⟩:=at_T98 HR0_1.out x18_2 p105 q105
        cases e105
        replace hx105_0:=(HB.out.cell (World.block_lt_of_cell? w _ hx105_0)).trans hx105_0
        replace hx105_1:=(HB.out.cell (World.block_lt_of_cell? w _ hx105_1)).trans hx105_1
        replace p105:=eq_true p105
        replace q105:=eq_true q105
        go_wp2_with (first|((with_reducible refine gate_dst (N:=4) rfl ?_);(try (refine gate_guard (by rfl) ?_;dsimp only));refine box_event ?hg (N:=4) ?hd (cs:=#[.int .i64 0,.int .i64 0]) (t:=98) ?hr ?_;(case hd=>rfl);(case hg=>rfl);(case hr=>first|(go_simp;done)|(go_simp;rfl));intro gb106 hg w30 hbox hb;have n0_:=Aside0.mk (blk_below (g:=gb103) (o:=.cells #[.int .i64 a0_0,.slice (some ad105) l0_1.length c0_1] 31 (0,0)) (by exact BK103.out) hb);have n1_:=Aside0.mk (below_step (by exact HB.out) hb);have n2_:=Aside0.mk (hbox);have n3_:=Aside0.mk ((by rw [hg];exact (below_size (by exact HB.out)):w.heap.size≤gb106));have n4_:=Aside0.mk ((by rw [hg];exact (below_size (by exact HB.out)):w.heap.size≤gb106));have n5_:=Aside0.mk ((by rw [hg];exact Nat.ne_of_lt (blk_lt (g:=gb103) (o:=.cells #[.int .i64 a0_0,.slice (some ad105) l0_1.length c0_1] 31 (0,0)) (by exact BK103.out)):gb103 ≠ gb106));have n6_:=Aside0.mk ((by rw [hg];exact Nat.ne_of_gt (blk_lt (g:=gb103) (o:=.cells #[.int .i64 a0_0,.slice (some ad105) l0_1.length c0_1] 31 (0,0)) (by exact BK103.out)):gb106 ≠ gb103));clear BK103;clear HB;have BK103:=n0_;have HB:=n1_;have BK106:=n2_;have GW106:=n3_;have GE106:=n4_;have NB103_106:=n5_;have NB106_103:=n6_;clear n0_ n1_ n2_ n3_ n4_ n5_ n6_;clear hb hbox hg;have hnb31:=NB106_103.out;have hnc31:=NB103_106.out;have hcz32_0:w30.cell? ⟨gb106,0,none⟩=some (.int .i64 0):=(blk_cell BK106.out 0).trans rfl;have hcz32_1:w30.cell? ⟨gb106,1,none⟩=some (.int .i64 0):=(blk_cell BK106.out 1).trans rfl;have hfz32_0:=blk_frozen BK106.out 0;have hfz32_1:=blk_frozen BK106.out 1;have hcz33_0:w30.cell? ⟨gb103,0,none⟩=some (.int .i64 a0_0):=(blk_cell BK103.out 0).trans rfl;have hcz33_1:w30.cell? ⟨gb103,1,none⟩=some (.slice (some ad105) l0_1.length c0_1):=(blk_cell BK103.out 1).trans rfl;have hfz33_0:=blk_frozen BK103.out 0;have hfz33_1:=blk_frozen BK103.out 1)|((with_reducible refine gate_callee (f:=51) rfl ?_);refine goesL_ (some 27) rfl rfl Tryd.func51 (by kernel_rfl) rfl #[.int .i64 ((rd_T98 l0_1 x18_2).f0),.int .i64 (-1),.int .i64 (wrap64 (a0_0 - 1))] rfl (by (try simp only [List.map_toArray,List.map_cons,List.map_nil]);first|done|rfl|(simp only [List.length_drop,List.length_take];rfl)) ?_;(with_reducible refine (spec_l1in.calls ((rd_T98 l0_1 x18_2).f0) (-1) (wrap64 (a0_0 - 1)) false _ A13.out).mono ?_);rintro e w' ⟨rfl,⟨nd,rfl⟩⟩;refine ⟨_,rfl,?_⟩))
        go_ret
        exact ⟨by first|rfl|(simp [errW_none,errW_some] <;> rfl)|(simp [*,errW_none,errW_some] <;> rfl),by repeat (first|(with_reducible first|exact HB.out|apply below_alloc|apply pw_below_drewN|apply below_drew1|refine below_set ?_ GE103.out|refine below_set ?_ GE106.out)|exact HB.out)⟩
       rw [if_neg c12] at H
       exact absurd H (by simp)
      rw [if_neg c11] at H
      exact absurd H (by simp)
     rw [if_neg c10] at H
     have c10b0:decide (x18_2<(l0_1.length:Int))=false:=decide_eq_false c10
     clear c10
     obtain rfl:=Option.some.inj H
     go_wp2
     go_ret
     exact ⟨by first|rfl|(simp [errW_none,errW_some] <;> rfl)|(simp [*,errW_none,errW_some] <;> rfl),by exact HB.out⟩
end Go.Proofs.YtpdnabhpkdchjaaDoor.P
namespace Go.Proofs.YtpdnabhpkdchjaaDoor.P
open Go.RowKit Go.Proofs.YtpdnabhpkdchjaaDoorW.PrintWords Go.Proofs.YtpdnabhpkdchjaaDoorW.PrintLast
set_option linter.unusedVariables false
set_option linter.unusedSimpArgs false
theorem wrap_id {x:Int} (h0:-9223372036854775808≤x) (h1:x≤9223372036854775807):wrap64 x=x:=by unfold wrap64;omega
theorem wrap_succ {i:Nat} (h:i<9223372036854775807):wrap64 ((i:Int)+1)=((i+1:Nat):Int):=by rw [wrap_id (by omega) (by omega)];omega
theorem Ev.step1 {α:Type} {g:Nat→Option α} {r:α} (h:∀ k,g (k+1)=some r):Ev g r:=Ev.step (f:=fun _=>some r) h (Ev.now _)
theorem Ev.call {α β:Type} {x:Option α} {a:α} {f:Nat→α→Option β} {r:β} (h:x=some a) (k:Ev (fun n=>f n a) r):Ev (fun n=>x.bind (f n)) r:=by
 subst h
 exact k
theorem Ev.ite_pos {β:Type} {c:Prop} [Decidable c] {f g:Nat→Option β} {r:β} (h:c) (k:Ev f r):Ev (fun n=>if c then f n else g n) r:=by
 simp only [if_pos h];exact k
theorem Ev.ite_neg {β:Type} {c:Prop} [Decidable c] {f g:Nat→Option β} {r:β} (h:¬ c) (k:Ev g r):Ev (fun n=>if c then f n else g n) r:=by
 simp only [if_neg h];exact k
theorem l1in_eq (x a b:Int):spec_l1in.f x a b=some (decide (a≤x) && decide (x≤b)):=by
 unfold spec_l1in.f
 by_cases h:x ≥ a
 ·rw [if_pos h];simp [h]
 rw [if_neg h];simp [show ¬ a≤x from h]
theorem layoutOk_l0 (n:Int) (l:List S98) (hn:¬ (n<1)∧¬ (60<n)∧¬ (120<l.length)) (d:Nat):∀ (i:Nat),i+d=l.length→(l.take i).all (ctrOk n)=true→Ev (fun k=>spec_LayoutOk.l0 k l (l.length:Int) i n l) (layoutOk n l):=by
 obtain ⟨h1,h2,h3⟩:=hn
 induction d with
 | zero =>
  intro i hi ht
  refine Ev.step (f:=fun _=>some (layoutOk n l)) (fun k=>?_) (Ev.now _)
  simp only [spec_LayoutOk.l0]
  rw [if_neg (by omega),layoutOk_good ⟨h1,h2,h3⟩ (i:=i) (by omega) ht]
 | succ d ih =>
  intro i hi ht
  have hlt:i<l.length:=by omega
  have hw:wrap64 (n - 1)=n - 1:=wrap_id (by omega) (by omega)
  by_cases hc:ctrOk n (rd_T98 l i)=true
  ·refine Ev.step (fun k=>?_) (ih (i+1) (by omega) (take_all hlt ht hc))
   simp only [spec_LayoutOk.l0,l1in_eq,Option.bind_some]
   simp only [ctrOk,inB,Bool.and_eq_true,decide_eq_true_eq,Bool.not_eq_true',beq_eq_false_iff_ne] at hc
   rw [if_pos (by omega),if_pos (by omega),if_pos (by omega),hw,if_pos (by simp;omega),if_pos (by simp;omega),if_neg hc.2,wrap_succ (by omega)]
  have hb:ctrOk n (rd_T98 l i)=false:=by simpa using hc
  rw [layoutOk_bad ⟨h1,h2,h3⟩ hlt hb]
  refine Ev.step (f:=fun _=>some 2) (fun k=>?_) (Ev.now _)
  simp only [spec_LayoutOk.l0,l1in_eq,Option.bind_some]
  rw [if_pos (by omega),if_pos (by omega),if_pos (by omega),hw]
  by_cases c1:(decide (-1≤(rd_T98 l i).f0) && decide ((rd_T98 l i).f0≤n - 1))=true
  ·rw [if_pos c1]
   by_cases c2:(decide (-1≤(rd_T98 l i).f1) && decide ((rd_T98 l i).f1≤n - 1))=true
   ·rw [if_pos c2]
    by_cases c3:(rd_T98 l i).f0=(rd_T98 l i).f1
    ·rw [if_pos c3]
    exfalso
    apply hc
    simp only [Bool.and_eq_true,decide_eq_true_eq] at c1 c2
    simp only [ctrOk,inB,Bool.and_eq_true,decide_eq_true_eq,Bool.not_eq_true',beq_eq_false_iff_ne]
    exact ⟨⟨⟨by omega,by omega⟩,by omega,by omega⟩,c3⟩
   rw [if_neg c2]
  rw [if_neg c1]
theorem specLayoutOk_ev (n:Int) (l:List S98):Ev (fun k=>spec_LayoutOk.f k n l) (layoutOk n l):=by
 unfold spec_LayoutOk.f
 refine Ev.call (l1in_eq _ _ _) ?_
 by_cases h1:n<1
 ·refine Ev.ite_neg (by simp;omega) (Ev.step (f:=fun _=>some (layoutOk n l)) (fun k=>?_) (Ev.now _))
  simp only [spec_LayoutOk.j0,if_true]
  rw [layoutOk,if_pos h1]
 by_cases h2:60<n
 ·refine Ev.ite_neg (by simp;omega) (Ev.step (f:=fun _=>some (layoutOk n l)) (fun k=>?_) (Ev.now _))
  simp only [spec_LayoutOk.j0,if_true]
  rw [layoutOk,if_neg h1,if_pos h2]
 refine Ev.ite_pos (by simp;omega) ?_
 by_cases h3:120<l.length
 ·refine Ev.step (f:=fun _=>some (layoutOk n l)) (fun k=>?_) (Ev.now _)
  simp only [spec_LayoutOk.j0]
  rw [if_pos (by simp;omega),layoutOk,if_neg h1,if_neg h2,if_pos h3]
 refine Ev.step (fun k=>?_) (layoutOk_l0 n l ⟨h1,h2,h3⟩ l.length 0 (by omega) (by simp))
 simp only [spec_LayoutOk.j0]
 rw [if_neg (by simp;omega)]
 rfl
end Go.Proofs.YtpdnabhpkdchjaaDoor.P
namespace Go.Proofs.YtpdnabhpkdchjaaDoor.P
open Go.RowKit Go.Proofs.YtpdnabhpkdchjaaDoorW.PrintWords Go.Proofs.YtpdnabhpkdchjaaDoorW.PrintLast Go.Proofs.YtpdnabhpkdchjaaDoorW.PrintMore
attribute [local go_sem] max2_int min2_int max_two min_two max_three min_three max_four min_four
set_option linter.unusedVariables false
set_option linter.unusedSimpArgs false
def IsS92 (w0 W:World) (g:Nat) (f0:List Int) (f1:Int) (f2:Int):Prop:=∃ A0 c0,W.heap[g]?=some (.cells #[.slice A0 f0.length c0,.int .i64 f1,.int .u64 f2] 92 (0,0))∧w0.heap.size≤g∧Kd.C (Kd.int .u8) w0 A0 f0.length f0
theorem IsS92.grown {w0 W:World} {g:Nat} {f0:List Int} {f1:Int} {f2:Int} {W1:World} {row:Option Nat} (h:IsS92 w0 W g f0 f1 f2) (hw:W.grownBy W1 row) (hne:some g ≠ row):IsS92 w0 W1 g f0 f1 f2:=by
 obtain ⟨A0,c0,hb,hg,hr0⟩:=h
 exact ⟨A0,c0,blk_grown hb hw hne,hg,hr0⟩
theorem IsS92.kept {w0 W:World} {g:Nat} {f0:List Int} {f1:Int} {f2:Int} {W1:World} {S:Nat→Prop} (h:IsS92 w0 W g f0 f1 f2) (hk:Kept W W1 S) (hne:¬ S g):IsS92 w0 W1 g f0 f1 f2:=by
 obtain ⟨A0,c0,hb,hg,hr0⟩:=h
 exact ⟨A0,c0,blk_kept hb hk hne,hg,hr0⟩
theorem IsS92.below {w0 W:World} {g:Nat} {f0:List Int} {f1:Int} {f2:Int} {W1:World} (h:IsS92 w0 W g f0 f1 f2) (hw:Below W.heap.size W W1):IsS92 w0 W1 g f0 f1 f2:=h.grown (grown_of_below hw none) (by simp)
theorem IsS92.alloc {w0 W:World} {g:Nat} {f0:List Int} {f1:Int} {f2:Int} (h:IsS92 w0 W g f0 f1 f2) (o:Obj):IsS92 w0 (W.alloc o) g f0 f1 f2:=h.below (below_alloc (Below.refl _ _) o)
theorem IsS92.drewN {w0 W:World} {g:Nat} {f0:List Int} {f1:Int} {f2:Int} (h:IsS92 w0 W g f0 f1 f2) (m:Nat):IsS92 w0 (W.drewN m) g f0 f1 f2:=h
theorem IsS92.drew {w0 W:World} {g:Nat} {f0:List Int} {f1:Int} {f2:Int} (h:IsS92 w0 W g f0 f1 f2):IsS92 w0 W.drew g f0 f1 f2:=h
theorem IsS92.at_ {w0 W:World} {g:Nat} {f0:List Int} {f1:Int} {f2:Int} {w':World} {m:Nat} (hq:W.drewN m=w') (h:IsS92 w0 W g f0 f1 f2):IsS92 w0 w' g f0 f1 f2:=by subst hq;exact IsS92.drewN h m
theorem IsS92.apart {w0 W:World} {g:Nat} {f0:List Int} {f1:Int} {f2:Int} {α:Type} {d:Kd α} {e:Nat} {base:Nat} {ok:Nat→Prop} {v:Value} {xs:List α} (h:IsS92 w0 W g f0 f1 f2) (ho:d.R e W base ok v xs) (ht:∀ q,q ∈ e :: d.E→q ≠ 92):d.R e W base (fun k=>ok k∧k ≠ g) v xs:=by
 obtain ⟨A0,c0,hb,hg,hr0⟩:=h
 exact Kd.R_types ho hb ht
theorem IsS92.own_ne {w0 W:World} {g:Nat} {f0:List Int} {f1:Int} {f2:Int} {α:Type} {d:Kd α} {e:Nat} {base:Nat} {ok:Nat→Prop} {v:Value} {xs:List α} (h:IsS92 w0 W g f0 f1 f2) (ho:d.R e W base ok v xs) (ht:e ≠ 92):some g ≠ v.ownBlock:=by
 obtain ⟨A0,c0,hb,hg,hr0⟩:=h
 exact Kd.R_ne ho hb ht
theorem IsS92.lt {w0 W:World} {g:Nat} {f0:List Int} {f1:Int} {f2:Int} (h:IsS92 w0 W g f0 f1 f2):g<W.heap.size:=by
 obtain ⟨A0,c0,hb,hg,hr0⟩:=h
 exact blk_lt hb
theorem IsS92.ge {w0 W:World} {g:Nat} {f0:List Int} {f1:Int} {f2:Int} (h:IsS92 w0 W g f0 f1 f2):w0.heap.size≤g:=by
 obtain ⟨A0,c0,hb,hg,hr0⟩:=h
 exact hg
theorem IsS92.ne_blk {w0 W:World} {g:Nat} {f0:List Int} {f1:Int} {f2:Int} {a:Nat} {cs:Array Value} {t:TypeId} {fr:Nat × Nat} (h:IsS92 w0 W g f0 f1 f2) (hb2:W.heap[a]?=some (.cells cs t fr)) (ht:t ≠ 92):g ≠ a:=by
 obtain ⟨A0,c0,hb,hg,hr0⟩:=h
 rintro rfl
 rw [hb] at hb2
 injection hb2 with hb2
 injection hb2 with _ ht2
 exact ht ht2.symm
theorem IsS92.far {w0 W:World} {g:Nat} {f0:List Int} {f1:Int} {f2:Int} {p:Addr} (h:IsS92 w0 W g f0 f1 f2) (hne:g ≠ p.block) (u:Value):IsS92 w0 (W.setCell p u) g f0 f1 f2:=by
 obtain ⟨A0,c0,hb,hg,hr0⟩:=h
 exact ⟨A0,c0,blk_far hb hne u,hg,hr0⟩
theorem cellS92_0 {W:World} {g:Nat} {A0:Option Addr} {c0:Nat} {f0:List Int} {f1:Int} {f2:Int} (h:W.heap[g]?=some (.cells #[.slice A0 f0.length c0,.int .i64 f1,.int .u64 f2] 92 (0,0))):W.cell? ⟨g,0,none⟩=some (.slice A0 f0.length c0):=(blk_cell h 0).trans rfl
theorem cellS92_1 {W:World} {g:Nat} {A0:Option Addr} {c0:Nat} {f0:List Int} {f1:Int} {f2:Int} (h:W.heap[g]?=some (.cells #[.slice A0 f0.length c0,.int .i64 f1,.int .u64 f2] 92 (0,0))):W.cell? ⟨g,1,none⟩=some (.int .i64 f1):=(blk_cell h 1).trans rfl
theorem IsS92.set_1 {w0 W:World} {g:Nat} {f0:List Int} {f1:Int} {f2:Int} (h:IsS92 w0 W g f0 f1 f2) (x:Int):IsS92 w0 (W.setCell ⟨g,1,none⟩ (.int .i64 x)) g f0 x f2:=by
 obtain ⟨A0,c0,hb,hg,hr0⟩:=h
 exact ⟨A0,c0,by simpa using blk_set hb 1 (.int .i64 x),hg,hr0⟩
theorem cellS92_2 {W:World} {g:Nat} {A0:Option Addr} {c0:Nat} {f0:List Int} {f1:Int} {f2:Int} (h:W.heap[g]?=some (.cells #[.slice A0 f0.length c0,.int .i64 f1,.int .u64 f2] 92 (0,0))):W.cell? ⟨g,2,none⟩=some (.int .u64 f2):=(blk_cell h 2).trans rfl
theorem IsS92.set_2 {w0 W:World} {g:Nat} {f0:List Int} {f1:Int} {f2:Int} (h:IsS92 w0 W g f0 f1 f2) (x:Int):IsS92 w0 (W.setCell ⟨g,2,none⟩ (.int .u64 x)) g f0 f1 x:=by
 obtain ⟨A0,c0,hb,hg,hr0⟩:=h
 exact ⟨A0,c0,by simpa using blk_set hb 2 (.int .u64 x),hg,hr0⟩
def spec_l5Cur_next.f (s0_0:List Int) (s0_1:Int) (s0_2:Int):Option (Int × Int × Int):=if s0_1<(s0_0.length:Int) then (if 0≤s0_1 then (some (wrap64 (rd s0_0 s0_1),wrap64 (s0_1+1),IntKind.u64.wrap ((IntKind.u64.wrap ((IntKind.u64.wrap (s0_2 * 6364136223846793005))+(IntKind.u64.wrap (rd s0_0 s0_1))))+1442695040888963407))) else (none)) else (some (wrap64 (Go.bits .and .u64 ((IntKind.u64.wrap ((IntKind.u64.wrap (s0_2 * 6364136223846793005))+1442695040888963407)) / 1099511627776) 255),wrap64 (s0_1+1),IntKind.u64.wrap ((IntKind.u64.wrap (s0_2 * 6364136223846793005))+1442695040888963407)))
set_option maxHeartbeats 8000000 in
set_option maxRecDepth 100000 in
theorem spec_l5Cur_next.calls (g:Nat) (s0_0:List Int) (s0_1:Int) (s0_2:Int) (r1:Int) (r2:Int) (r3:Int) (w0 w:World) (hI:IsS92 w0 w g s0_0 s0_1 s0_2) (hB:Below w0.heap.size w0 w) (h:spec_l5Cur_next.f s0_0 s0_1 s0_2=some (r1,r2,r3)) :
  Calls Tryd.prog 78 #[.pointer (some ⟨g,0,none⟩)] w fun e w'=>e=.returned (.int .i64 r1)∧IsS92 w0 w' g s0_0 r2 r3∧Below w0.heap.size w0 w'∧KeepBut w w' g none:=by
 have HI0:=Aside0.mk hI
 have HK:=Aside0.mk (KeepBut.refl w g none)
 have HL:=Aside0.mk hB.size
 clear hI
 have HW0:=Aside0.mk hB.size
 have HB:=Aside0.mk hB
 clear hB
 have H:(if s0_1<(s0_0.length:Int) then (if 0≤s0_1 then (some (wrap64 (rd s0_0 s0_1),wrap64 (s0_1+1),IntKind.u64.wrap ((IntKind.u64.wrap ((IntKind.u64.wrap (s0_2 * 6364136223846793005))+(IntKind.u64.wrap (rd s0_0 s0_1))))+1442695040888963407))) else (none)) else (some (wrap64 (Go.bits .and .u64 ((IntKind.u64.wrap ((IntKind.u64.wrap (s0_2 * 6364136223846793005))+1442695040888963407)) / 1099511627776) 255),wrap64 (s0_1+1),IntKind.u64.wrap ((IntKind.u64.wrap (s0_2 * 6364136223846793005))+1442695040888963407))))=some (r1,r2,r3):=h
 clear h
 by_cases c2:s0_1<(s0_0.length:Int)
 ·rw [if_pos c2] at H
  have c2b0:decide (s0_1<(s0_0.length:Int))=true:=decide_eq_true c2
  clear c2
  by_cases c3:0≤s0_1
  ·rw [if_pos c3] at H
   have c3b0:decide (0≤s0_1)=true:=decide_eq_true c3
   clear c3
   simp only [Option.some.injEq,Prod.mk.injEq] at H
   obtain ⟨rfl,rfl,rfl⟩:=H
   obtain ⟨ASz4_0,cSz4_0,HGz4,hgz4,HSz4_0⟩:=HI0.out
   have hcz4_0:=cellS92_0 HGz4
   have hcz4_1:=cellS92_1 HGz4
   have hcz4_2:=cellS92_2 HGz4
   have hfz4_1:=blk_frozen HGz4 1
   have hfz4_2:=blk_frozen HGz4 2
   clear HGz4 hgz4
   have p437:0≤(s0_1:Int):=of_decide_eq_true (by first|(with_reducible assumption)|assumption)
   have q437:s0_1<(s0_0.length:Int):=of_decide_eq_true (by first|(with_reducible assumption)|assumption)
   obtain ⟨ad437,e437,hx437_0⟩:=Kd.at_int HSz4_0 s0_1 p437 q437
   cases e437
   replace hx437_0:=pw_cell_below HB.out hx437_0
   replace p437:=eq_true p437
   replace q437:=eq_true q437
   go_enter Tryd.func78,Tryd.ntmps78
   go_wp2
   repeat (go_quiet (fail);try go_wp2)
   go_ret
   exact ⟨by first|rfl|(simp [errW_none,errW_some] <;> rfl)|(simp [*,errW_none,errW_some] <;> rfl),by repeat (first|(with_reducible first|exact HI0.out|apply IsS92.alloc|apply IsS92.drewN|apply IsS92.drew|apply IsS92.set_1|apply IsS92.set_2)|exact HI0.out),by repeat (first|(with_reducible first|exact HB.out|apply below_alloc|apply pw_below_drewN|apply below_drew1|refine below_set ?_ (IsS92.ge HI0.out))|exact HB.out),by repeat (first|(with_reducible first|exact HK.out|apply KeepBut.set_|apply keep_drewN|apply keep_drew|apply keep_alloc)|exact HK.out)⟩
  rw [if_neg c3] at H
  exact absurd H (by simp)
 rw [if_neg c2] at H
 have c2b0:decide (s0_1<(s0_0.length:Int))=false:=decide_eq_false c2
 clear c2
 simp only [Option.some.injEq,Prod.mk.injEq] at H
 obtain ⟨rfl,rfl,rfl⟩:=H
 obtain ⟨ASz5_0,cSz5_0,HGz5,hgz5,HSz5_0⟩:=HI0.out
 have hcz5_0:=cellS92_0 HGz5
 have hcz5_1:=cellS92_1 HGz5
 have hcz5_2:=cellS92_2 HGz5
 have hfz5_1:=blk_frozen HGz5 1
 have hfz5_2:=blk_frozen HGz5 2
 clear HGz5 hgz5
 go_enter Tryd.func78,Tryd.ntmps78
 go_wp2
 repeat (go_quiet (fail);try go_wp2)
 go_ret
 exact ⟨by first|rfl|(simp [errW_none,errW_some] <;> rfl)|(simp [*,errW_none,errW_some] <;> rfl),by repeat (first|(with_reducible first|exact HI0.out|apply IsS92.alloc|apply IsS92.drewN|apply IsS92.drew|apply IsS92.set_1|apply IsS92.set_2)|exact HI0.out),by repeat (first|(with_reducible first|exact HB.out|apply below_alloc|apply pw_below_drewN|apply below_drew1|refine below_set ?_ (IsS92.ge HI0.out))|exact HB.out),by repeat (first|(with_reducible first|exact HK.out|apply KeepBut.set_|apply keep_drewN|apply keep_drew|apply keep_alloc)|exact HK.out)⟩
end Go.Proofs.YtpdnabhpkdchjaaDoor.P
namespace Go.Proofs.YtpdnabhpkdchjaaDoor.P
open Go.RowKit Go.Proofs.YtpdnabhpkdchjaaDoorW.PrintWords Go.Proofs.YtpdnabhpkdchjaaDoorW.PrintLast Go.Proofs.YtpdnabhpkdchjaaDoorW.PrintMore
attribute [local go_sem] max2_int min2_int max_two min_two max_three min_three max_four min_four
set_option linter.unusedVariables false
set_option linter.unusedSimpArgs false
def spec_l5Cur_pick.f (s0_0:List Int) (s0_1:Int) (s0_2:Int) (a1:Int):Option (Int × Int × Int):=if a1≤1 then (some (0,s0_1,s0_2)) else ((spec_l5Cur_next.f s0_0 s0_1 s0_2).bind fun bt438=>(if a1 > 200 then ((spec_l5Cur_next.f s0_0 bt438.2.1 bt438.2.2).bind fun bt441=>(if a1=0 then (none) else (some (Int.tmod (wrap64 ((wrap64 (bt438.1 * 256))+bt441.1)) a1,bt441.2.1,bt441.2.2)))) else (if a1=0 then (none) else (some (Int.tmod bt438.1 a1,bt438.2.1,bt438.2.2)))))
set_option maxHeartbeats 8000000 in
set_option maxRecDepth 100000 in
theorem spec_l5Cur_pick.calls (g:Nat) (s0_0:List Int) (s0_1:Int) (s0_2:Int) (a1:Int) (r1:Int) (r2:Int) (r3:Int) (w0 w:World) (hI:IsS92 w0 w g s0_0 s0_1 s0_2) (hB:Below w0.heap.size w0 w) (h:spec_l5Cur_pick.f s0_0 s0_1 s0_2 a1=some (r1,r2,r3)) :
  Calls Tryd.prog 66 #[.pointer (some ⟨g,0,none⟩),.int .i64 a1] w fun e w'=>e=.returned (.int .i64 r1)∧IsS92 w0 w' g s0_0 r2 r3∧Below w0.heap.size w0 w'∧KeepBut w w' g none:=by
 have HI0:=Aside0.mk hI
 have HK:=Aside0.mk (KeepBut.refl w g none)
 have HL:=Aside0.mk hB.size
 clear hI
 have HW0:=Aside0.mk hB.size
 have HB:=Aside0.mk hB
 clear hB
 have H:(if a1≤1 then (some (0,s0_1,s0_2)) else ((spec_l5Cur_next.f s0_0 s0_1 s0_2).bind fun bt438=>(if a1 > 200 then ((spec_l5Cur_next.f s0_0 bt438.2.1 bt438.2.2).bind fun bt441=>(if a1=0 then (none) else (some (Int.tmod (wrap64 ((wrap64 (bt438.1 * 256))+bt441.1)) a1,bt441.2.1,bt441.2.2)))) else (if a1=0 then (none) else (some (Int.tmod bt438.1 a1,bt438.2.1,bt438.2.2))))))=some (r1,r2,r3):=h
 clear h
 by_cases c3:a1≤1
 ·rw [if_pos c3] at H
  have c3b0:decide (a1≤1)=true:=decide_eq_true c3
  clear c3
  simp only [Option.some.injEq,Prod.mk.injEq] at H
  obtain ⟨rfl,rfl,rfl⟩:=H
  go_enter Tryd.func66,Tryd.ntmps66
  go_wp2
  go_ret
  exact ⟨by first|rfl|(simp [errW_none,errW_some] <;> rfl)|(simp [*,errW_none,errW_some] <;> rfl),by repeat (first|(with_reducible first|exact HI0.out|apply IsS92.alloc|apply IsS92.drewN|apply IsS92.drew|apply IsS92.set_1|apply IsS92.set_2)|exact HI0.out),by repeat (first|(with_reducible first|exact HB.out|apply below_alloc|apply pw_below_drewN|apply below_drew1|refine below_set ?_ (IsS92.ge HI0.out))|exact HB.out),by exact HK.out⟩
 rw [if_neg c3] at H
 have c3b0:decide (a1≤1)=false:=decide_eq_false c3
 clear c3
 replace H:=Option.bind_eq_some_iff.mp H
 obtain ⟨⟨t438,t439,t440⟩,A40,H⟩:=H
 replace H:(if a1 > 200 then ((spec_l5Cur_next.f s0_0 t439 t440).bind fun bt441=>(if a1=0 then (none) else (some (Int.tmod (wrap64 ((wrap64 (t438 * 256))+bt441.1)) a1,bt441.2.1,bt441.2.2)))) else (if a1=0 then (none) else (some (Int.tmod t438 a1,t439,t440))))=some (r1,r2,r3):=H
 have A4:=Aside0.mk A40
 clear A40
 by_cases c5:a1 > 200
 ·rw [if_pos c5] at H
  have c5b0:decide (200<a1)=true:=decide_eq_true c5
  clear c5
  replace H:=Option.bind_eq_some_iff.mp H
  obtain ⟨⟨t441,t442,t443⟩,A60,H⟩:=H
  replace H:(if a1=0 then (none) else (some (Int.tmod (wrap64 ((wrap64 (t438 * 256))+t441)) a1,t442,t443)))=some (r1,r2,r3):=H
  have A6:=Aside0.mk A60
  clear A60
  by_cases c7:a1=0
  ·rw [if_pos c7] at H
   exact absurd H (by simp)
  rw [if_neg c7] at H
  have c7b0:(a1==0)=false:=beq_eq_false_iff_ne.mpr c7
  have c7b1:(a1 != 0)=true:=bne_iff_ne.mpr c7
  simp only [Option.some.injEq,Prod.mk.injEq] at H
  obtain ⟨rfl,rfl,rfl⟩:=H
  go_enter Tryd.func66,Tryd.ntmps66
  go_wp2_with (first|((with_reducible refine gate_callee (f:=78) rfl ?_);refine goesL_ (some 9) rfl rfl Tryd.func78 (by kernel_rfl) rfl #[.pointer (some ⟨g,0,none⟩)] rfl (by (try simp only [List.map_toArray,List.map_cons,List.map_nil]);first|done|rfl|(simp only [List.length_drop,List.length_take];rfl)) ?_;(with_reducible refine (spec_l5Cur_next.calls g s0_0 s0_1 s0_2 t438 t439 t440 w0 _ ?side1 ?side2 A4.out).mono ?_);(case side1=>repeat (first|(with_reducible first|exact HI0.out|apply IsS92.alloc|apply IsS92.drewN|apply IsS92.drew|apply IsS92.set_1|apply IsS92.set_2)|exact HI0.out));(case side2=>repeat (first|(with_reducible first|exact HB.out|apply below_alloc|apply pw_below_drewN|apply below_drew1|refine below_set ?_ (IsS92.ge HI0.out))|exact HB.out));rintro e w8 ⟨rfl,hi,hb,hk⟩;refine ⟨_,rfl,?_⟩;have n0_:=Aside0.mk (KeepBut.trans (by exact HK.out) hk (.inl rfl));have n1_:=Aside0.mk (hb);have n2_:=Aside0.mk (hi);clear HK;clear HB;clear HI0;have HK:=n0_;have HB:=n1_;have HI0:=n2_;clear n0_ n1_ n2_;(try clear hb);(try clear hb2);(try clear hk);(try clear hi))|((with_reducible refine gate_callee (f:=78) rfl ?_);refine goesL_ (some 15) rfl rfl Tryd.func78 (by kernel_rfl) rfl #[.pointer (some ⟨g,0,none⟩)] rfl (by (try simp only [List.map_toArray,List.map_cons,List.map_nil]);first|done|rfl|(simp only [List.length_drop,List.length_take];rfl)) ?_;(with_reducible refine (spec_l5Cur_next.calls g s0_0 t439 t440 t441 t442 t443 w0 _ ?side1 ?side2 A6.out).mono ?_);(case side1=>repeat (first|(with_reducible first|exact HI0.out|apply IsS92.alloc|apply IsS92.drewN|apply IsS92.drew|apply IsS92.set_1|apply IsS92.set_2)|exact HI0.out));(case side2=>repeat (first|(with_reducible first|exact HB.out|apply below_alloc|apply pw_below_drewN|apply below_drew1|refine below_set ?_ (IsS92.ge HI0.out))|exact HB.out));rintro e w9 ⟨rfl,hi,hb,hk⟩;refine ⟨_,rfl,?_⟩;have n0_:=Aside0.mk (KeepBut.trans (by exact HK.out) hk (.inl rfl));have n1_:=Aside0.mk (hb);have n2_:=Aside0.mk (hi);clear HK;clear HB;clear HI0;have HK:=n0_;have HB:=n1_;have HI0:=n2_;clear n0_ n1_ n2_;(try clear hb);(try clear hb2);(try clear hk);(try clear hi)))
  go_ret
  exact ⟨by first|rfl|(simp [errW_none,errW_some] <;> rfl)|(simp [*,errW_none,errW_some] <;> rfl),by repeat (first|(with_reducible first|exact HI0.out|apply IsS92.alloc|apply IsS92.drewN|apply IsS92.drew|apply IsS92.set_1|apply IsS92.set_2)|exact HI0.out),by repeat (first|(with_reducible first|exact HB.out|apply below_alloc|apply pw_below_drewN|apply below_drew1|refine below_set ?_ (IsS92.ge HI0.out))|exact HB.out),by exact HK.out⟩
 rw [if_neg c5] at H
 have c5b0:decide (200<a1)=false:=decide_eq_false c5
 clear c5
 by_cases c10:a1=0
 ·rw [if_pos c10] at H
  exact absurd H (by simp)
 rw [if_neg c10] at H
 have c10b0:(a1==0)=false:=beq_eq_false_iff_ne.mpr c10
 have c10b1:(a1 != 0)=true:=bne_iff_ne.mpr c10
 simp only [Option.some.injEq,Prod.mk.injEq] at H
 obtain ⟨rfl,rfl,rfl⟩:=H
 go_enter Tryd.func66,Tryd.ntmps66
 go_wp2_with (first|((with_reducible refine gate_callee (f:=78) rfl ?_);refine goesL_ (some 9) rfl rfl Tryd.func78 (by kernel_rfl) rfl #[.pointer (some ⟨g,0,none⟩)] rfl (by (try simp only [List.map_toArray,List.map_cons,List.map_nil]);first|done|rfl|(simp only [List.length_drop,List.length_take];rfl)) ?_;(with_reducible refine (spec_l5Cur_next.calls g s0_0 s0_1 s0_2 t438 t439 t440 w0 _ ?side1 ?side2 A4.out).mono ?_);(case side1=>repeat (first|(with_reducible first|exact HI0.out|apply IsS92.alloc|apply IsS92.drewN|apply IsS92.drew|apply IsS92.set_1|apply IsS92.set_2)|exact HI0.out));(case side2=>repeat (first|(with_reducible first|exact HB.out|apply below_alloc|apply pw_below_drewN|apply below_drew1|refine below_set ?_ (IsS92.ge HI0.out))|exact HB.out));rintro e w11 ⟨rfl,hi,hb,hk⟩;refine ⟨_,rfl,?_⟩;have n0_:=Aside0.mk (KeepBut.trans (by exact HK.out) hk (.inl rfl));have n1_:=Aside0.mk (hb);have n2_:=Aside0.mk (hi);clear HK;clear HB;clear HI0;have HK:=n0_;have HB:=n1_;have HI0:=n2_;clear n0_ n1_ n2_;(try clear hb);(try clear hb2);(try clear hk);(try clear hi)))
 go_ret
 exact ⟨by first|rfl|(simp [errW_none,errW_some] <;> rfl)|(simp [*,errW_none,errW_some] <;> rfl),by repeat (first|(with_reducible first|exact HI0.out|apply IsS92.alloc|apply IsS92.drewN|apply IsS92.drew|apply IsS92.set_1|apply IsS92.set_2)|exact HI0.out),by repeat (first|(with_reducible first|exact HB.out|apply below_alloc|apply pw_below_drewN|apply below_drew1|refine below_set ?_ (IsS92.ge HI0.out))|exact HB.out),by exact HK.out⟩
end Go.Proofs.YtpdnabhpkdchjaaDoor.P
namespace Go.Proofs.YtpdnabhpkdchjaaDoor.P
open Go.RowKit Go.Proofs.YtpdnabhpkdchjaaDoorW.PrintWords Go.Proofs.YtpdnabhpkdchjaaDoorW.PrintLast Go.Proofs.YtpdnabhpkdchjaaDoorW.PrintMore
set_option linter.unusedVariables false
set_option linter.unusedSimpArgs false
def pk (code:List Int) (c:Int × Int) (m:Int):Int × (Int × Int):=match spec_l5Cur_pick.f code c.1 c.2 m with|some (v,a,s)=>(v,(a,s))|none=>(0,c)
structure CurOk (code:List Int) (b:Int) (c:Int × Int):Prop where
 bytes:∀ x ∈ code,0≤x∧x<256
 lo:0≤c.1
 hi:c.1≤b
theorem CurOk.mono {code:List Int} {b b':Int} {c:Int × Int} (h:CurOk code b c) (hb:b≤b'):CurOk code b' c:=⟨h.bytes,h.lo,Int.le_trans h.hi hb⟩
theorem byte_mask (x:Int):0≤Go.bits .and .u64 (IntKind.u64.wrap x / 1099511627776) 255∧Go.bits .and .u64 (IntKind.u64.wrap x / 1099511627776) 255<256:=by
 have hw:IntKind.u64.wrap x=x % 18446744073709551616:=by simp [IntKind.wrap,IntKind.bits,IntKind.signed]
 rw [hw]
 generalize hy:x % 18446744073709551616 / 1099511627776=y
 have h:=bits_mask .u64 64 (by decide) (fun n h0 h1=>by
  have:IntKind.u64.wrap n=n % 18446744073709551616:=by simp [IntKind.wrap,IntKind.bits,IntKind.signed]
  rw [this];omega) 8 (by decide) y (by omega) (by omega)
 have h2:Go.bits .and .u64 y 255=y % 256:=h
 rw [h2];omega
theorem next_ok {code:List Int} {b:Int} {c:Int × Int} (hc:CurOk code b c) (hb:b≤4611686018427387904):∃ v c',spec_l5Cur_next.f code c.1 c.2=some (v,c'.1,c'.2)∧0≤v∧v<256∧CurOk code (b+1) c':=by
 have h0:=hc.lo
 have h1:=hc.hi
 have hw:wrap64 (c.1+1)=c.1+1:=wrap_id (by omega) (by omega)
 unfold spec_l5Cur_next.f
 by_cases h:c.1<(code.length:Int)
 ·have hm:rd code c.1 ∈ code:=by
   have hl:c.1.toNat<code.length:=by omega
   rw [rd,List.getD_eq_getElem?_getD,List.getElem?_eq_getElem hl,Option.getD_some]
   exact List.getElem_mem hl
  have hv:=hc.bytes _ hm
  rw [if_pos h,if_pos h0,wrap_id (x:=rd code c.1) (by omega) (by omega),hw]
  exact ⟨_,(_,_),rfl,hv.1,hv.2,hc.bytes,by show 0≤c.1+1;omega,by show c.1+1≤b+1;omega⟩
 rw [if_neg h,hw]
 have hv:=byte_mask ((IntKind.u64.wrap (c.2 * 6364136223846793005))+1442695040888963407)
 rw [wrap_id (by omega) (by omega)]
 exact ⟨_,(_,_),rfl,hv.1,hv.2,hc.bytes,by show 0≤c.1+1;omega,by show c.1+1≤b+1;omega⟩
theorem tmod_in {x m:Int} (hx:0≤x) (hm:0<m):0≤Int.tmod x m∧Int.tmod x m<m:=by
 rw [Int.tmod_eq_emod_of_nonneg hx]
 exact ⟨Int.emod_nonneg _ (by omega),Int.emod_lt_of_pos _ hm⟩
theorem pick_ok {code:List Int} {b m:Int} {c:Int × Int} (hc:CurOk code b c) (hb:b≤2305843009213693952) (hm:0<m):∃ v c',spec_l5Cur_pick.f code c.1 c.2 m=some (v,c'.1,c'.2)∧pk code c m=(v,c')∧0≤v∧v<m∧CurOk code (b+2) c':=by
 have key:∃ v c',spec_l5Cur_pick.f code c.1 c.2 m=some (v,c'.1,c'.2)∧0≤v∧v<m∧CurOk code (b+2) c':=by
  unfold spec_l5Cur_pick.f
  by_cases h1:m≤1
  ·rw [if_pos h1]
   exact ⟨0,c,rfl,Int.le_refl _,hm,hc.mono (by omega)⟩
  rw [if_neg h1]
  obtain ⟨v,c1,e1,hv0,hv1,hc1⟩:=next_ok hc (by omega)
  rw [e1,Option.bind_some]
  by_cases h2:m > 200
  ·rw [if_pos h2]
   obtain ⟨u,c2,e2,hu0,hu1,hc2⟩:=next_ok hc1 (by omega)
   rw [e2,Option.bind_some,if_neg (by omega)]
   have hw:wrap64 (wrap64 (v * 256)+u)=v * 256+u:=by rw [wrap_id (x:=v * 256) (by omega) (by omega),wrap_id (by omega) (by omega)]
   have:=tmod_in (x:=wrap64 (wrap64 (v * 256)+u)) (m:=m) (by rw [hw];omega) hm
   exact ⟨_,c2,rfl,this.1,this.2,hc2.mono (by omega)⟩
  rw [if_neg h2,if_neg (by omega)]
  have:=tmod_in hv0 hm
  exact ⟨_,c1,rfl,this.1,this.2,hc1.mono (by omega)⟩
 obtain ⟨v,c',e,h0,h1,h2⟩:=key
 exact ⟨v,c',e,by rw [pk,e],h0,h1,h2⟩
theorem pick_is (g:Nat) {code:List Int} {b m:Int} {c:Int × Int} (w0 w:World) (hc:CurOk code b c) (hb:b≤2305843009213693952) (hm:0<m) (hI:IsS92 w0 w g code c.1 c.2) (hB:Below w0.heap.size w0 w) :
  Calls Tryd.prog 66 #[.pointer (some ⟨g,0,none⟩),.int .i64 m] w fun e w'=>∃ v c',e=.returned (.int .i64 v)∧pk code c m=(v,c')∧0≤v∧v<m∧CurOk code (b+2) c'∧IsS92 w0 w' g code c'.1 c'.2∧Below w0.heap.size w0 w'∧KeepBut w w' g none:=by
 obtain ⟨v,c',e,h1,h2,h3,h4⟩:=pick_ok hc hb hm
 refine (spec_l5Cur_pick.calls g code c.1 c.2 m v c'.1 c'.2 w0 w hI hB e).mono ?_
 rintro r w' ⟨k1,k2,k3,k4⟩
 exact ⟨v,c',k1,h1,h2,h3,h4,k2,k3,k4⟩
end Go.Proofs.YtpdnabhpkdchjaaDoor.P
namespace Go.Proofs
open Go.Shelf
def Tryd.lays170_ren : Go.Shelf.Ren := ⟨fun | 170 => 34 | n => n, fun | 70 => 59 | 3 => 3 | 0 => 0 | 72 => 61 | 37 => 46 | 5 => 5 | n => n, fun | n => n⟩
theorem Tryd.lays170 : Go.Proofs.Lays.n170 Tryd.prog Tryd.lays170_ren := {
  mixed := by kernel_rfl
  f170 := Tryd.func34.trans (congrArg some (by kernel_rfl))
  t0 := Tryd.underlying0
  a0 := Tryd.isAgg0
  z0 := Tryd.sizeOf0
  v0 := Tryd.zeroValue0
  t3 := Tryd.underlying3
  a3 := Tryd.isAgg3
  z3 := Tryd.sizeOf3
  v3 := Tryd.zeroValue3
  t37 := Tryd.underlying46
  a37 := Tryd.isAgg46
  z37 := Tryd.sizeOf46
  v37 := Tryd.zeroValue46
  t70 := Tryd.underlying59
  a70 := Tryd.isAgg59
  z70 := Tryd.sizeOf59
  v70 := Tryd.zeroValue59
  t72 := Tryd.underlying61
  a72 := Tryd.isAgg61
  z72 := Tryd.sizeOf61
  v72 := Tryd.zeroValue61 }
open Go.RowKit in
theorem Tryd.Builder_Len (B b : Nat) (bs : List Value) (w : World) (h : Lib.IsBuilder 61 5 B b bs w) :
    Calls Tryd.prog 34 #[.pointer (some ⟨b, 0, none⟩)] w fun e w' => e = .returned (.int .i64 bs.length) ∧ w' = w := Any.Builder_Len Tryd.lays170 B b bs w h
def Tryd.lays169_ren : Go.Shelf.Ren := ⟨fun | 169 => 35 | n => n, fun | 70 => 59 | 9 => 9 | 0 => 0 | 72 => 61 | 37 => 46 | 127 => 102 | 3 => 3 | 5 => 5 | n => n, fun | n => n⟩
theorem Tryd.lays169 : Go.Proofs.Lays.n169 Tryd.prog Tryd.lays169_ren := {
  mixed := by kernel_rfl
  f169 := Tryd.func35.trans (congrArg some (by kernel_rfl))
  t0 := Tryd.underlying0
  a0 := Tryd.isAgg0
  z0 := Tryd.sizeOf0
  v0 := Tryd.zeroValue0
  t3 := Tryd.underlying3
  a3 := Tryd.isAgg3
  z3 := Tryd.sizeOf3
  v3 := Tryd.zeroValue3
  t9 := Tryd.underlying9
  a9 := Tryd.isAgg9
  z9 := Tryd.sizeOf9
  v9 := Tryd.zeroValue9
  t37 := Tryd.underlying46
  a37 := Tryd.isAgg46
  z37 := Tryd.sizeOf46
  v37 := Tryd.zeroValue46
  t70 := Tryd.underlying59
  a70 := Tryd.isAgg59
  z70 := Tryd.sizeOf59
  v70 := Tryd.zeroValue59
  t72 := Tryd.underlying61
  a72 := Tryd.isAgg61
  z72 := Tryd.sizeOf61
  v72 := Tryd.zeroValue61
  t127 := Tryd.underlying102
  a127 := Tryd.isAgg102
  z127 := Tryd.sizeOf102
  v127 := Tryd.zeroValue102 }
theorem Tryd.Builder_Extra_169 : Builder.Extra Tryd.prog Tryd.lays169_ren := {
  sizeBuilder := by kernel_rfl
  liesBuilder := by kernel_rfl
  t5 := Tryd.underlying5
  a5 := Tryd.isAgg5
  z5 := Tryd.sizeOf5
  v5 := Tryd.zeroValue5
  infoByte := by kernel_rfl
  cellsByte := by kernel_rfl
  sizeByte := by kernel_rfl
  neB5 := by decide }
open Go.RowKit in
theorem Tryd.Builder_String_any (B b : Nat) (l : List UInt8) (w : World) (h : Lib.IsBuilder 61 5 B b (Lib.byteCells l) w) (hBw : B ≤ w.heap.size) :
    Calls Tryd.prog 35 #[.pointer (some ⟨b, 0, none⟩)] w fun e w' => e = .returned (.string ⟨l.toArray⟩) ∧ Below B w w' := Any.Builder_String_any Tryd.lays169 Tryd.Builder_Extra_169 B b l w h hBw
def Tryd.lays137_ren : Go.Shelf.Ren := ⟨fun | 137 => 40 | 217 => 57 | 266 => 68 | n => n, fun | 9 => 9 | 5 => 5 | 3 => 3 | n => n, fun | n => n⟩
theorem Tryd.lays137 : Go.Proofs.Lays.n137 Tryd.prog Tryd.lays137_ren := {
  mixed := by kernel_rfl
  f137 := Tryd.func40.trans (congrArg some (by kernel_rfl))
  f217 := Tryd.func57.trans (congrArg some (by kernel_rfl))
  f266 := Tryd.func68.trans (congrArg some (by kernel_rfl))
  t3 := Tryd.underlying3
  a3 := Tryd.isAgg3
  z3 := Tryd.sizeOf3
  v3 := Tryd.zeroValue3
  t5 := Tryd.underlying5
  a5 := Tryd.isAgg5
  z5 := Tryd.sizeOf5
  v5 := Tryd.zeroValue5
  t9 := Tryd.underlying9
  a9 := Tryd.isAgg9
  z9 := Tryd.sizeOf9
  v9 := Tryd.zeroValue9 }
open Go.RowKit in
theorem Tryd.strings_IndexByte (s : ByteArray) (c : Int) (w : World) :
    Calls Tryd.prog 40 #[.string s, .int .u8 c] w fun e w' => e = .returned (.int .i64 (Lib.indexByte s.data.toList c.toNat.toUInt8)) ∧ w' = w := Any.strings_IndexByte Tryd.lays137 s c w
def Tryd.laysM171_ren : Go.Shelf.Ren := ⟨fun | 171 => 46 | 243 => 61 | 246 => 73 | 283 => 80 | 284 => 81 | 285 => 82 | 286 => 83 | 129 => 85 | 317 => 84 | 318 => 86 | 319 => 87 | 320 => 88 | 337 => 89 | 338 => 90 | n => n, fun | 3 => 3 | 9 => 9 | 2 => 2 | 4 => 4 | 171 => 125 | 0 => 0 | 53 => 90 | 37 => 46 | 5 => 5 | 173 => 128 | 212 => 132 | 51 => 133 | 20 => 20 | 213 => 134 | 46 => 130 | 232 => 137 | 233 => 138 | n => n, fun | 17 => 2 | 18 => 3 | 19 => 4 | n => n⟩
theorem Tryd.laysM171 : Go.Proofs.LaysM.n171 Tryd.prog Tryd.laysM171_ren := {
  mixed := by kernel_rfl
  f129 := Tryd.func85.trans (congrArg some (by kernel_rfl))
  f171 := Tryd.func46.trans (congrArg some (by kernel_rfl))
  f243 := Tryd.func61.trans (congrArg some (by kernel_rfl))
  f246 := Tryd.func73.trans (congrArg some (by kernel_rfl))
  f283 := Tryd.func80.trans (congrArg some (by kernel_rfl))
  f284 := Tryd.func81.trans (congrArg some (by kernel_rfl))
  f285 := Tryd.func82.trans (congrArg some (by kernel_rfl))
  f286 := Tryd.func83.trans (congrArg some (by kernel_rfl))
  f317 := Tryd.func84.trans (congrArg some (by kernel_rfl))
  f318 := Tryd.func86.trans (congrArg some (by kernel_rfl))
  f319 := Tryd.func87.trans (congrArg some (by kernel_rfl))
  f320 := Tryd.func88.trans (congrArg some (by kernel_rfl))
  f337 := Tryd.func89.trans (congrArg some (by kernel_rfl))
  f338 := Tryd.func90.trans (congrArg some (by kernel_rfl))
  t0 := Tryd.underlying0
  a0 := Tryd.isAgg0
  z0 := Tryd.sizeOf0
  v0 := Tryd.zeroValue0
  t2 := Tryd.underlying2
  a2 := Tryd.isAgg2
  z2 := Tryd.sizeOf2
  v2 := Tryd.zeroValue2
  t3 := Tryd.underlying3
  a3 := Tryd.isAgg3
  z3 := Tryd.sizeOf3
  v3 := Tryd.zeroValue3
  t4 := Tryd.underlying4
  a4 := Tryd.isAgg4
  z4 := Tryd.sizeOf4
  v4 := Tryd.zeroValue4
  t5 := Tryd.underlying5
  a5 := Tryd.isAgg5
  z5 := Tryd.sizeOf5
  v5 := Tryd.zeroValue5
  t9 := Tryd.underlying9
  a9 := Tryd.isAgg9
  z9 := Tryd.sizeOf9
  v9 := Tryd.zeroValue9
  t20 := Tryd.underlying20
  a20 := Tryd.isAgg20
  z20 := Tryd.sizeOf20
  v20 := Tryd.zeroValue20
  t37 := Tryd.underlying46
  a37 := Tryd.isAgg46
  z37 := Tryd.sizeOf46
  v37 := Tryd.zeroValue46
  t46 := Tryd.underlying130
  a46 := Tryd.isAgg130
  z46 := Tryd.sizeOf130
  v46 := Tryd.zeroValue130
  t51 := Tryd.underlying133
  a51 := Tryd.isAgg133
  z51 := Tryd.sizeOf133
  v51 := Tryd.zeroValue133
  t53 := Tryd.underlying90
  a53 := Tryd.isAgg90
  z53 := Tryd.sizeOf90
  v53 := Tryd.zeroValue90
  t171 := Tryd.underlying125
  a171 := Tryd.isAgg125
  z171 := Tryd.sizeOf125
  v171 := Tryd.zeroValue125
  t173 := Tryd.underlying128
  a173 := Tryd.isAgg128
  z173 := Tryd.sizeOf128
  v173 := Tryd.zeroValue128
  t212 := Tryd.underlying132
  a212 := Tryd.isAgg132
  z212 := Tryd.sizeOf132
  v212 := Tryd.zeroValue132
  t213 := Tryd.underlying134
  a213 := Tryd.isAgg134
  z213 := Tryd.sizeOf134
  t232 := Tryd.underlying137
  a232 := Tryd.isAgg137
  z232 := Tryd.sizeOf137
  v232 := Tryd.zeroValue137
  t233 := Tryd.underlying138
  a233 := Tryd.isAgg138
  z233 := Tryd.sizeOf138
  v233 := Tryd.zeroValue138
  g17 := by kernel_rfl
  g18 := by kernel_rfl
  g19 := by kernel_rfl
  i0 := by kernel_rfl
  i2 := by kernel_rfl
  i3 := by kernel_rfl
  i4 := by kernel_rfl
  i5 := by kernel_rfl
  i9 := by kernel_rfl
  i20 := by kernel_rfl
  i37 := by kernel_rfl
  i46 := by kernel_rfl
  i51 := by kernel_rfl
  i53 := by kernel_rfl
  i171 := by kernel_rfl
  i173 := by kernel_rfl
  i212 := by kernel_rfl
  i232 := by kernel_rfl
  i233 := by kernel_rfl
  m17 := by kernel_rfl
  m18 := by kernel_rfl
  m19 := by kernel_rfl }
open Go.RowKit Go.Sort Go.Lib in
theorem Tryd.strconv_Itoa (n : Int) (h0 : -9223372036854775808 ≤ n) (h1 : n ≤ 9223372036854775807) (w : World) (htab : Lib.TabIs Tryd.prog w "internal/strconv.uint64pow10" .u64 Lib.pow10Tab) :
    Calls Tryd.prog 46 #[.int .i64 n] w fun e w' => e = .returned (.string ⟨(Lib.itoa n).toArray⟩) ∧ ∃ k os, w' = grow (w.drewN k) os := Any.strconv_Itoa Tryd.laysM171 n h0 h1 w htab
def Tryd.lays167_ren : Go.Shelf.Ren := ⟨fun | 167 => 48 | 240 => 55 | 276 => 67 | n => n, fun | 0 => 0 | 3 => 3 | 4 => 4 | 5 => 5 | 9 => 9 | 20 => 20 | 37 => 46 | 70 => 59 | 72 => 61 | 75 => 63 | 80 => 67 | 127 => 102 | 164 => 111 | n => n, fun | n => n⟩
theorem Tryd.lays167 : Go.Proofs.Lays.n167 Tryd.prog Tryd.lays167_ren := {
  mixed := by kernel_rfl
  f167 := Tryd.func48.trans (congrArg some (by kernel_rfl))
  f240 := Tryd.func55.trans (congrArg some (by kernel_rfl))
  f276 := Tryd.func67.trans (congrArg some (by kernel_rfl))
  t0 := Tryd.underlying0
  a0 := Tryd.isAgg0
  z0 := Tryd.sizeOf0
  v0 := Tryd.zeroValue0
  t4 := Tryd.underlying4
  a4 := Tryd.isAgg4
  z4 := Tryd.sizeOf4
  v4 := Tryd.zeroValue4
  t5 := Tryd.underlying5
  a5 := Tryd.isAgg5
  z5 := Tryd.sizeOf5
  v5 := Tryd.zeroValue5
  t9 := Tryd.underlying9
  a9 := Tryd.isAgg9
  z9 := Tryd.sizeOf9
  v9 := Tryd.zeroValue9
  t20 := Tryd.underlying20
  a20 := Tryd.isAgg20
  z20 := Tryd.sizeOf20
  v20 := Tryd.zeroValue20
  t37 := Tryd.underlying46
  a37 := Tryd.isAgg46
  z37 := Tryd.sizeOf46
  v37 := Tryd.zeroValue46
  t70 := Tryd.underlying59
  a70 := Tryd.isAgg59
  z70 := Tryd.sizeOf59
  v70 := Tryd.zeroValue59
  t72 := Tryd.underlying61
  a72 := Tryd.isAgg61
  z72 := Tryd.sizeOf61
  v72 := Tryd.zeroValue61
  t75 := Tryd.underlying63
  a75 := Tryd.isAgg63
  z75 := Tryd.sizeOf63
  v75 := Tryd.zeroValue63
  t164 := Tryd.underlying111
  a164 := Tryd.isAgg111
  z164 := Tryd.sizeOf111
  v164 := Tryd.zeroValue111 }
theorem Tryd.Builder_Extra_167 : Builder.Extra Tryd.prog Tryd.lays167_ren := {
  sizeBuilder := by kernel_rfl
  liesBuilder := by kernel_rfl
  t5 := Tryd.underlying5
  a5 := Tryd.isAgg5
  z5 := Tryd.sizeOf5
  v5 := Tryd.zeroValue5
  infoByte := by kernel_rfl
  cellsByte := by kernel_rfl
  sizeByte := by kernel_rfl
  neB5 := by decide }
def Tryd.lays166_ren : Go.Shelf.Ren := ⟨fun | 166 => 32 | 240 => 55 | 276 => 67 | n => n, fun | 0 => 0 | 3 => 3 | 4 => 4 | 5 => 5 | 9 => 9 | 20 => 20 | 37 => 46 | 70 => 59 | 72 => 61 | 75 => 63 | 80 => 67 | 127 => 102 | 164 => 111 | n => n, fun | n => n⟩
theorem Tryd.lays166 : Go.Proofs.Lays.n166 Tryd.prog Tryd.lays166_ren := {
  mixed := by kernel_rfl
  f166 := Tryd.func32.trans (congrArg some (by kernel_rfl))
  f240 := Tryd.func55.trans (congrArg some (by kernel_rfl))
  f276 := Tryd.func67.trans (congrArg some (by kernel_rfl))
  t0 := Tryd.underlying0
  a0 := Tryd.isAgg0
  z0 := Tryd.sizeOf0
  v0 := Tryd.zeroValue0
  t3 := Tryd.underlying3
  a3 := Tryd.isAgg3
  z3 := Tryd.sizeOf3
  v3 := Tryd.zeroValue3
  t4 := Tryd.underlying4
  a4 := Tryd.isAgg4
  z4 := Tryd.sizeOf4
  v4 := Tryd.zeroValue4
  t9 := Tryd.underlying9
  a9 := Tryd.isAgg9
  z9 := Tryd.sizeOf9
  v9 := Tryd.zeroValue9
  t20 := Tryd.underlying20
  a20 := Tryd.isAgg20
  z20 := Tryd.sizeOf20
  v20 := Tryd.zeroValue20
  t37 := Tryd.underlying46
  a37 := Tryd.isAgg46
  z37 := Tryd.sizeOf46
  v37 := Tryd.zeroValue46
  t70 := Tryd.underlying59
  a70 := Tryd.isAgg59
  z70 := Tryd.sizeOf59
  v70 := Tryd.zeroValue59
  t72 := Tryd.underlying61
  a72 := Tryd.isAgg61
  z72 := Tryd.sizeOf61
  v72 := Tryd.zeroValue61
  t75 := Tryd.underlying63
  a75 := Tryd.isAgg63
  z75 := Tryd.sizeOf63
  v75 := Tryd.zeroValue63
  t164 := Tryd.underlying111
  a164 := Tryd.isAgg111
  z164 := Tryd.sizeOf111
  v164 := Tryd.zeroValue111 }
theorem Tryd.Builder_Extra_166 : Builder.Extra Tryd.prog Tryd.lays166_ren := {
  sizeBuilder := by kernel_rfl
  liesBuilder := by kernel_rfl
  t5 := Tryd.underlying5
  a5 := Tryd.isAgg5
  z5 := Tryd.sizeOf5
  v5 := Tryd.zeroValue5
  infoByte := by kernel_rfl
  cellsByte := by kernel_rfl
  sizeByte := by kernel_rfl
  neB5 := by decide }
open Go.RowKit in
theorem Tryd.Builder_WriteString (B b : Nat) (bs : List Value) (s : ByteArray) (w : World) (h : Lib.IsBuilder 61 5 B b bs w) (hlen : bs.length + s.size ≤ 140737488355328) (hBw : B ≤ w.heap.size) :
    Calls Tryd.prog 32 #[.pointer (some ⟨b, 0, none⟩), .string s] w fun e w' => e = .returned (.tuple #[.int .i64 s.size, .nilIface]) ∧ (Lib.BuilderAt 61 5 B b (.pointer (some ⟨b, 0, none⟩)) (bs ++ Lib.strCells s) w' ∧ Below B w w') := Any.Builder_WriteString Tryd.lays166 Tryd.Builder_Extra_166 B b bs s w h hlen hBw
end Go.Proofs
namespace Go.Proofs.YtpdnabhpkdchjaaDoor.P
open Go Go.RowKit Go.Proofs.YtpdnabhpkdchjaaDoorW.PrintWords Go.Proofs.YtpdnabhpkdchjaaDoorW.PrintLast Go.Proofs.YtpdnabhpkdchjaaDoorW.PrintMore
set_option linter.unusedVariables false
def upto (n k:Nat):Array Bool:=(List.replicate k true ++ List.replicate (n - k) false).toArray
section
variable {P : Program} {md : Region.Mode} {ops : Array Oper} {T : Bool × List (List Nat × List Nat)} {B : List Nat} {Q : Exit → Act → World → Prop} {S : World → Prop} {ds : List Nat} {n k fuel : Nat} {N : Option Tmp} {oi : Oper} {v : Value} {a a' : Act} {w : World} {op : Op} {ty : TypeId} {pos : String} {af : Array Edge} {gu : Option (Nat × Bool)}
theorem wanted_none (hg:oi.guard=none) (y:Nat→Option Bool):Region.wanted oi y=true:=by unfold Region.wanted;rw [hg]
theorem wanted_yes {j:Nat} {u b:Bool} {y:Nat→Option Bool} (hg:oi.guard=some (j,u)) (hb:y j=some b) (he:(b==u)=true):Region.wanted oi y=true:=by
 unfold Region.wanted
 rw [hg]
 dsimp only
 rw [hb]
 cases b <;> cases u <;> first|rfl|cases he
theorem wanted_no {j:Nat} {u b:Bool} {y:Nat→Option Bool} (hg:oi.guard=some (j,u)) (hb:y j=some b) (he:(b==u)=false):Region.wanted oi y=false:=by
 unfold Region.wanted
 rw [hg]
 dsimp only
 rw [hb]
 cases b <;> cases u <;> first|rfl|cases he
theorem upto_zero (n:Nat):Array.replicate n false=upto n 0:=by simp [upto]
theorem startK {id:Nat} (n:Nat) (hm:P.follows .mixedOrders=true) (hn:ops.size=n) (hS:S w.drew) (h:S w.drew→wpAnyLast P .any ops Q S ds n (upto n 0) a w.drew):(Code.region id ops true).wp P Q a w:=start_ (upto n 0) hm hn (upto_zero n) hS h
theorem take0 {k':Nat} (hk:k+1=k') (hi:ops[k]?=some ⟨N,op,ty,pos,af,none⟩) (hT:rtab md ops=T) (hB:waitsOk T.2 B=true) (hc:takeW T B ds (upto n k).toList (upto n k').toList k=true) (hQ:∀ c a w,Q (.panic c) (a.put N v) w→Q (.panic c) a w) (hS:S w) (hy:∀ w,S w→(execOp a.eval ⟨N,op,ty,pos,af,none⟩).run P w=.ok (.value v) w) (ha:a.put N v=a') (h:wpAnyLast P md ops Q S ds fuel (upto n k') a' w):wpAnyLast P md ops Q S ds (fuel+1) (upto n k) a w :=
 take_ (upto n k') hi rfl (take_ofW hT hB hc) hQ (Or.inl ⟨wanted_none rfl _,hy⟩) hS ha h
theorem takeG {k' j:Nat} {u b:Bool} (hk:k+1=k') (hi:ops[k]?=some ⟨N,op,ty,pos,af,some (j,u)⟩) (hb:yielded ops a.tmps j=some b) (hT:rtab md ops=T) (hB:waitsOk T.2 B=true) (hc:takeW T B ds (upto n k).toList (upto n k').toList k=true) (hQ:∀ c a w,Q (.panic c) (a.put N v) w→Q (.panic c) a w) (hS:S w) (hy:if (b==u)=true then ∀ w,S w→(execOp a.eval ⟨N,op,ty,pos,af,some (j,u)⟩).run P w=.ok (.value v) w else v=undef) (ha:a.put N v=a') (h:wpAnyLast P md ops Q S ds fuel (upto n k') a' w):wpAnyLast P md ops Q S ds (fuel+1) (upto n k) a w:=by
 refine take_ (upto n k') hi rfl (take_ofW hT hB hc) hQ ?_ hS ha h
 cases he:(b==u) with
 | true=>rw [he,if_pos rfl] at hy;exact Or.inl ⟨wanted_yes rfl hb he,hy⟩
 | false=>rw [he,if_neg (by decide)] at hy;exact Or.inr ⟨wanted_no rfl hb he,hy⟩
theorem oneK {k':Nat} (hk:k+1=k') (hi:ops[k]?=some ⟨N,op,ty,pos,af,gu⟩) (hT:rtab md ops=T) (hc:(readyT T.2 (upto n k).toList==[k] && (upto n k).toList.set k true==(upto n k').toList)=true) (hd:k ∉ ds)
  (h:∀ K:Act→World→Prop,Shut (∀ a' w',S w'→(S w'→wpAnyLast P md ops Q S ds fuel (upto n k') a' w')→K a' w')→if Region.wanted ⟨N,op,ty,pos,af,gu⟩ (yielded ops a.tmps)=true then Oper.wp P ⟨N,op,ty,pos,af,gu⟩ a w K Q else K (a.put N undef) w):wpAnyLast P md ops Q S ds (fuel+1) (upto n k) a w :=
 one_ (upto n k') hi rfl (one_of hT hc) hd h
end
end Go.Proofs.YtpdnabhpkdchjaaDoor.P
namespace Go.Proofs.YtpdnabhpkdchjaaDoor.P
open Go.RowKit Go.Proofs.YtpdnabhpkdchjaaDoorW.PrintWords Go.Proofs.YtpdnabhpkdchjaaDoorW.PrintLast Go.Proofs.YtpdnabhpkdchjaaDoorW.PrintMore
attribute [local go_sem] max2_int min2_int max_two min_two max_three min_three max_four min_four
set_option linter.unusedVariables false
set_option linter.unusedSimpArgs false
mutual
def dec4.l0:Nat→Int→Bool→ByteArray→Option (ByteArray)
 | 0,_,_,_=>none
 | k+1,x0,x3,x4=>if x0 > 0 then ((some (([(wrap64 (48+(Int.tmod x0 10))) % 256]:List Int):List Int)).bind fun y115=>(if (strOfNums y115).size+x4.size≤9223372036854775807 then (dec4.l0 k (wrap64 (Int.tdiv x0 10)) x3 ((strOfNums y115) ++ x4)) else (none))) else (if x3=true then (if 1+x4.size≤9223372036854775807 then (some ((⟨#[45]⟩:ByteArray) ++ x4)) else (none)) else (some x4))
end
set_option maxHeartbeats 8000000 in
set_option maxRecDepth 100000 in
theorem dec4.calls (k:Nat) (a0:Int) (h0:0<a0) (r:ByteArray) (w:World) (h:dec4.l0 k a0 false ⟨#[]⟩=some r) :
  Calls Tryd.prog 44 #[.int .i64 a0] w fun e w'=>e=.returned (.string r)∧Below w.heap.size w w':=by
 have HB:=Aside0.mk (Below.refl w.heap.size w)
 have c2b0:(a0==0)=false:=beq_false_of_ne (by omega)
 have c4b0:decide (a0<0)=false:=decide_eq_false (by omega)
 have H':=Aside0.mk h
 clear h h0
 go_enter Tryd.func44,Tryd.ntmps44
 go_wp2
 clear c2b0 c4b0
 go_loopg [0,4] k (fun kq v0 v4 w'=>∃ (x0_2:Int) (x4_2:ByteArray),v0=.int .i64 x0_2∧v4=.string x4_2∧Aside0 (dec4.l0 kq x0_2 false x4_2=some r)∧Aside0 (kq≤k)∧Aside0 (Below w.heap.size w w'))
 case atStart=>exact ⟨a0,(⟨#[]⟩:ByteArray),rfl,rfl,H',⟨Nat.le_refl _⟩,HB⟩
 case round =>
  clear H'
  obtain ⟨x0_2,x4_2,rfl,rfl,HA,HK2,HB⟩:=hrel
  cases gk with
  | zero=>exact absurd HA.out (by simp [dec4.l0])
  | succ k2 =>
   have H:=HA.out
   clear HA
   simp only [dec4.l0] at H
   by_cases c5:x0_2 > 0
   ·rw [if_pos c5] at H
    have c5b0:decide (0<x0_2)=true:=decide_eq_true c5
    clear c5
    obtain ⟨y115,hy115⟩:∃ y_:List Int,y_=(([(wrap64 (48+(Int.tmod x0_2 10))) % 256]:List Int)):=⟨_,rfl⟩
    replace H:(if (strOfNums y115).size+x4_2.size≤9223372036854775807 then (dec4.l0 k2 (wrap64 (Int.tdiv x0_2 10)) false ((strOfNums y115) ++ x4_2)) else (none))=some r:=by first|(rw [hy115];with_reducible exact H)|(have H2_:=(Option.bind_some _ _).symm.trans H;rw [hy115];with_reducible exact H2_)|(have H2_:=(Option.bind_some _ _).symm.trans H;with_reducible exact H2_)|with_reducible exact H|(rw [hy115];exact H)|exact H
    have Ny115:=Aside0.mk hy115
    clear hy115
    by_cases c6:(strOfNums y115).size+x4_2.size≤9223372036854775807
    ·rw [if_pos c6] at H
     have c6b0:=eq_true c6
     have c6b1:decide ((strOfNums y115).size+x4_2.size≤9223372036854775807)=true:=decide_eq_true c6
     try have c6b2:(9223372036854775807<(strOfNums y115).size+x4_2.size)=False:=eq_false (Nat.not_lt.2 c6)
     have H':=Aside0.mk H
     clear H
     go_wp2_with (first|((with_reducible refine gate_dst (N:=18) rfl ?_);refine Kd.R_lit (Kd.int .u8) _ 5 ?hg (N:=18) ?hd (xs:=([(wrap64 (48+(Int.tmod x0_2 10))) % 256]:List Int)) (inner:=[.int .u8 ((wrap64 (48+(Int.tmod x0_2 10))) % 256)]) (ok:=fun _=>True) (okp:=fun _=>True) ?hr ?hp (fun _ hk=>hk) trivial (Below.refl _ _) (Nat.le_refl _) (by simp) ?_;(case hd=>rfl);(case hg=>rfl);(case hr=>first|(go_simp;done)|(go_simp;rfl));(case hp=>exact (Reps.one (show Kd.M (Kd.int .u8) _ _ _ ((wrap64 (48+(Int.tmod x0_2 10))) % 256) [.int .u8 ((wrap64 (48+(Int.tmod x0_2 10))) % 256)] from rfl) (Reps.none _ _)));intro v116 w7 ho8 hb hg_ hnew_;clear hg_ hnew_;(first|rw [← Ny115.out] at ho8|(simp only [Int.reduceToNat] at ho8;rw [← Ny115.out] at ho8));have n0_:=Aside0.mk (Kd.R_lower ho8 (below_size (by repeat (first|(with_reducible first|exact HB.out|apply below_alloc|apply pw_below_drewN|apply below_drew1)|exact HB.out))));have n1_:=Aside0.mk (below_step (by repeat (first|(with_reducible first|exact HB.out|apply below_alloc|apply pw_below_drewN|apply below_drew1)|exact HB.out)) hb);clear HB;have HO117:=n0_;have HB:=n1_;clear n0_ n1_;clear hb ho8;have hcv9:=own_string (P:=Tryd.prog) Tryd.underlying46 Tryd.underlying5 Tryd.underlying9 (Kd.own_of_R HO117.out)))
     go_roundg k2
     case measure=>have:=HK2.out;omega
     case rel=>exact ⟨(wrap64 (Int.tdiv x0_2 10)),((strOfNums y115) ++ x4_2),(by first|rfl|(simp;done)|(simp [*];done)),(by first|rfl|(simp;done)|(simp [*];done)),H',⟨by have:=HK2.out;omega⟩,⟨by repeat (first|(with_reducible first|exact HB.out|apply below_alloc|apply pw_below_drewN|apply below_drew1)|exact HB.out)⟩⟩
    rw [if_neg c6] at H
    exact absurd H (by simp)
   rw [if_neg c5] at H
   have c5b0:decide (0<x0_2)=false:=decide_eq_false c5
   clear c5
   rw [if_neg (by decide)] at H
   obtain rfl:=Option.some.inj H
   go_wp2
   go_ret
   exact ⟨rfl,HB.out⟩
theorem bytes_app (a b:List UInt8):(⟨a.toArray⟩:ByteArray) ++ ⟨b.toArray⟩=⟨(a ++ b).toArray⟩:=by
 apply ByteArray.ext
 simp [ByteArray.data_append]
theorem one_num (m:Nat):strOfNums ([(wrap64 (48+(Int.tmod (m:Int) 10))) % 256]:List Int)=(⟨[UInt8.ofNat (48+m % 10)].toArray⟩:ByteArray):=by
 have h:Int.tmod (m:Int) 10=((m % 10:Nat):Int):=by rw [Int.tmod_eq_emod_of_nonneg (by omega)];omega
 have h2:wrap64 (48+((m % 10:Nat):Int)) % 256=((48+m % 10:Nat):Int):=by rw [wrap_id (by omega) (by omega)];omega
 rw [h,h2]
 rfl
theorem dec4_l0 (m:Nat):∀ acc:List UInt8,m≤1000000000→acc.length+m≤2000000000→Ev (fun k=>dec4.l0 k (m:Int) false ⟨acc.toArray⟩) ⟨((if m=0 then [] else Go.Lib.decDigits m) ++ acc).toArray⟩:=by
 induction m using Nat.strongRecOn with
 | ind m ih =>
  intro acc hm hl
  by_cases h0:m=0
  ·subst h0
   refine Ev.step1 fun k=>?_
   simp [dec4.l0]
  have hq:wrap64 (Int.tdiv (m:Int) 10)=((m / 10:Nat):Int):=by
   rw [show Int.tdiv (m:Int) 10=((m / 10:Nat):Int) from by rw [Int.tdiv_eq_ediv_of_nonneg (by omega)];omega,wrap_id (by omega) (by omega)]
  have hsz:(⟨[UInt8.ofNat (48+m % 10)].toArray⟩:ByteArray).size+(⟨acc.toArray⟩:ByteArray).size≤9223372036854775807:=by
   show 1+acc.length≤_
   omega
  refine Ev.step (fun k=>by simp only [dec4.l0,Option.bind_some,one_num,hq,bytes_app];rw [if_pos (by omega),if_pos hsz]) ?_
  have:=ih (m / 10) (by omega) ([UInt8.ofNat (48+m % 10)] ++ acc) (by omega) (by simp;omega)
  rw [if_neg h0]
  rw [show Go.Lib.decDigits m ++ acc=(if m / 10=0 then [] else Go.Lib.decDigits (m / 10)) ++ ([UInt8.ofNat (48+m % 10)] ++ acc) from by
   conv=>lhs;rw [Go.Lib.decDigits]
   by_cases h10:m<10
   ·rw [dif_pos h10,if_pos (by omega),show m % 10=m by omega];rfl
   rw [dif_neg h10,if_neg (by omega),List.append_assoc]]
  exact this
def spec_l4decimal.f (a0:Int):Option ByteArray:=if 0≤a0∧a0≤1000000000 then some ⟨(Go.Lib.decDigits a0.toNat).toArray⟩ else none
theorem spec_l4decimal.calls (a0:Int) (r:ByteArray) (w:World) (h:spec_l4decimal.f a0=some r) :
  Calls Tryd.prog 44 #[.int .i64 a0] w fun e w'=>e=.returned (.string r)∧Below w.heap.size w w':=by
 unfold spec_l4decimal.f at h
 split at h
 ·rename_i hh
  obtain ⟨m,rfl⟩:=Int.eq_ofNat_of_zero_le hh.1
  obtain rfl:=Option.some.inj h
  by_cases h0:m=0
  ·subst h0
   rw [show (⟨(Go.Lib.decDigits (((0:Nat):Int)).toNat).toArray⟩:ByteArray)=⟨#[48]⟩ by rw [show (((0:Nat):Int)).toNat=0 from rfl,Go.Lib.decDigits];rfl]
   go_enter Tryd.func44,Tryd.ntmps44
   go_wp2
   go_ret
   exact ⟨rfl,Below.refl _ _⟩
  have hz:=dec4_l0 m [] (by omega) (by simp;omega)
  rw [if_neg h0,List.append_nil] at hz
  obtain ⟨k,hk⟩:=hz.rounds
  exact dec4.calls k _ (by omega) _ w hk
 cases h
end Go.Proofs.YtpdnabhpkdchjaaDoor.P
namespace Go.Proofs.YtpdnabhpkdchjaaDoor.P
open Go Go.RowKit Go.Proofs.YtpdnabhpkdchjaaDoorW.PrintWords Go.Proofs.YtpdnabhpkdchjaaDoorW.PrintLast Go.Proofs.YtpdnabhpkdchjaaDoorW.PrintMore
set_option linter.unusedVariables false
set_option linter.unusedSimpArgs false
def wordL:List (List UInt8):=[[],[112,97,115,115],[103,104,111,115,116],[100,101,97,100],[97,108,105,118,101],[114,101,115,101,116]]
def wordB (i:Nat):List UInt8:=wordL.getD i []
structure Tabs (A : Addr) (c : Nat) (w : World) : Prop where
 names : w.cell? ⟨0, 0, none⟩ = some (.slice (some A) 6 c)
 words : ∀ i : Nat, i < 6 → w.cell? (A.add i) = some (.string ⟨(wordB i).toArray⟩)
 tab : Lib.TabIs Tryd.prog w "internal/strconv.uint64pow10" .u64 Lib.pow10Tab
theorem Tabs.nx {A:Addr} {c:Nat} {w w':World} (h:Tabs A c w) (hb:Below w.heap.size w w'):Tabs A c w' :=
 ⟨pw_cell_below hb h.names,fun i hi=>pw_cell_below hb (h.words i hi),Joins.tab_stays (g:=2) (by kernel_rfl) h.tab hb (Nat.le_refl _)⟩
def dirB (dir:Int):List UInt8:=if dir=1 then [32,43] else if dir=-1 then [32,45] else []
def lineB (op of dir:Int):List UInt8:=(wordB op.toNat ++ [32] ++ Lib.decDigits of.toNat ++ dirB dir) ++ [10]
theorem word_len (i:Nat):(wordB i).length≤5:=by
 unfold wordB wordL
 match i with
 | 0=>decide
 | 1=>decide
 | 2=>decide
 | 3=>decide
 | 4=>decide
 | 5=>decide
 | n+6=>simp
theorem digits_len (n:Nat):(Lib.decDigits n).length≤n+1:=by
 induction n using Nat.strongRecOn with
 | ind n ih =>
  rw [Lib.decDigits]
  by_cases h:n<10
  ·rw [dif_pos h];simp
  rw [dif_neg h,List.length_append]
  have:=ih (n / 10) (by omega)
  simp only [List.length_singleton]
  omega
theorem itoa_at {A:Addr} {c:Nat} {n:Int} (h0:0≤n) (h1:n≤1000000000) {w:World} (hT:Tabs A c w):Calls Tryd.prog 46 #[.int .i64 n] w fun e w'=>e=.returned (.string ⟨(Lib.decDigits n.toNat).toArray⟩)∧Below w.heap.size w w':=by
 refine (Tryd.strconv_Itoa n (by omega) (by omega) w hT.tab).mono ?_
 rintro e w' ⟨rfl,k,os,rfl⟩
 obtain ⟨m,rfl⟩:=Int.eq_ofNat_of_zero_le h0
 rw [Lib.itoa_nonneg]
 exact ⟨rfl,Lib.below_grow _ _ (Nat.le_refl _) k os⟩
end Go.Proofs.YtpdnabhpkdchjaaDoor.P
namespace Go.Proofs.YtpdnabhpkdchjaaDoor.P
open Go Go.RowKit Go.Proofs.YtpdnabhpkdchjaaDoorW.PrintWords Go.Proofs.YtpdnabhpkdchjaaDoorW.PrintLast Go.Proofs.YtpdnabhpkdchjaaDoorW.PrintMore
set_option linter.unusedVariables false
set_option linter.unusedSimpArgs false
def dl_T1:Bool × List (List Nat × List Nat):=(true,[([],[]),([],[]),([1],[1]),([0,2],[0,2]),([3],[3]),([4],[4]),([],[]),([6],[6]),([7],[7]),([5,8],[5,8]),([9,8,0,1,2,3,4,5,6,7,8,9],[9])])
def dl_B1:List Nat:=[0,0,2,7,15,31,0,64,192,511,1023]
theorem dl_tab1:rtab .any (opsOf Tryd.f33 1)=dl_T1:=by kernel_rfl
theorem dl_bits1:waitsOk dl_T1.2 dl_B1=true:=by kernel_rfl
set_option maxHeartbeats 8000000 in
set_option maxRecDepth 100000 in
theorem line_bytes {A:Addr} {c:Nat} (o:Nat) (of dir:Int) (wd dg:ByteArray) (w:World) (ho:o<6) (hwd:wd.size≤5) (hdg:dg.size≤1000000001) (hw:wd=⟨(wordB o).toArray⟩) (hd:dg=⟨(Lib.decDigits of.toNat).toArray⟩) (h0:0≤of) (h1:of≤1000000000) (hT:Tabs A c w) :
  Calls Tryd.prog 33 #[.agg #[.int .i64 (o:Int),.int .i64 of,.int .i64 dir]] w fun e w'=>e=.returned (.string ((if dir=1 then ((wd ++ ⟨#[32]⟩) ++ dg) ++ ⟨#[32,43]⟩ else if dir=-1 then ((wd ++ ⟨#[32]⟩) ++ dg) ++ ⟨#[32,45]⟩ else (wd ++ ⟨#[32]⟩) ++ dg) ++ ⟨#[10]⟩))∧Below w.heap.size w w':=by
 have HT:=Aside0.mk hT
 have HOF:=Aside0.mk (And.intro h0 h1)
 have WD:=Aside0.mk hw
 have DG:=Aside0.mk hd
 have sa0:(wd.size+1≤9223372036854775807)=True:=eq_true (by omega)
 have sa1:decide (wd.size+1≤9223372036854775807)=true:=decide_eq_true (by omega)
 have sa2:(9223372036854775807<wd.size+1)=False:=eq_false (by omega)
 have sb0:(wd.size+1+dg.size≤9223372036854775807)=True:=eq_true (by omega)
 have sb1:decide (wd.size+1+dg.size≤9223372036854775807)=true:=decide_eq_true (by omega)
 have sb2:(9223372036854775807<wd.size+1+dg.size)=False:=eq_false (by omega)
 have r0:(0:Int)≤(o:Int):=by omega
 have r1:(o:Int)<6:=by omega
 have HO:=Aside0.mk ho
 have SZ:=Aside0.mk (And.intro hwd hdg)
 clear hT h0 h1 hw hd hwd hdg ho
 go_enter Tryd.func33,Tryd.ntmps33
 go_upto_region 1 with ((with_reducible refine gate_dst (N:=1) rfl ?_);refine box_event ?hg (N:=1) ?hd (cs:=#[.int .i64 (o:Int),.int .i64 of,.int .i64 dir]) (t:=52) ?hr ?_;(case hd=>rfl);(case hg=>rfl);(case hr=>first|(go_simp;done)|(go_simp;rfl));intro ge ee we ke be;have EE:=Aside0.mk ee;have KE:=Aside0.mk ke;have BE:=Aside0.mk be;clear ee ke be;have ke0:we.cell? ⟨ge,0,none⟩=some (.int .i64 (o:Int)):=(blk_cell KE.out 0).trans rfl;have zke0:=blk_frozen KE.out 0;have ke1:we.cell? ⟨ge,1,none⟩=some (.int .i64 of):=(blk_cell KE.out 1).trans rfl;have zke1:=blk_frozen KE.out 1;have ke2:we.cell? ⟨ge,2,none⟩=some (.int .i64 dir):=(blk_cell KE.out 2).trans rfl;have zke2:=blk_frozen KE.out 2)
 have HT:=Aside0.mk (HT.out.nx BE.out)
 clear ke0 zke0 ke1 zke1 ke2 zke2
 go_upto_region 1 with fail
 have HT:=Aside0.mk (HT.out.nx (below_drew1 (Below.refl we.heap.size we)))
 have KE:=Aside0.mk (blk_below KE.out (below_drew1 (Below.refl we.heap.size we)))
 have BE:=Aside0.mk (below_step BE.out (below_drew1 (Below.refl we.heap.size we)))
 refine startK 11 (S:=fun w'=>w'.cell? ⟨0,0,none⟩=some (.slice (some A) 6 c)∧w'.cell? (A.add o)=some (.string wd)∧w'.cell? ⟨ge,0,none⟩=some (.int .i64 (o:Int))∧w'.cell? ⟨ge,1,none⟩=some (.int .i64 of)∧w'.cell? ⟨ge,2,none⟩=some (.int .i64 dir)) (ds:=[]) (by kernel_rfl) rfl ⟨HT.out.names,by rw [WD.out];exact HT.out.words o HO.out,(blk_cell KE.out 0).trans rfl,(blk_cell KE.out 1).trans rfl,(blk_cell KE.out 2).trans rfl⟩ (fun hHeld=>?_)
 refine with_tabW dl_tab1 dl_bits1 (fun HT_ HW_=>?_)
 generalize we.drew=w95 at HT KE BE hHeld ⊢
 repeat (first
  | (refine take0 (v:=?_) (a':=?_) (by simp only [Nat.reduceAdd];rfl) (by rfl) HT_.out HW_.out (by kernel_rfl) (by exact fun _ _ _ h=>h) hHeld ?_ ?_ ?_;rotate_left 2;(· rintro w' ⟨s0,s1,s2,s3,s4⟩;go_simp;with_reducible rfl);(· simp only [Act.put,List.setIfInBounds_toArray,List.set_cons_zero,List.set_cons_succ,i64_w,i32_w];rfl))
  | (refine oneK (by simp only [Nat.reduceAdd];rfl) (by rfl) HT_.out (by kernel_rfl) (by decide) (fun K hK=>?_);refine goes_ Tryd.func46 (by kernel_rfl) rfl #[.int .i64 of] (by rfl) rfl rfl (by (try simp only [List.map_toArray,List.map_cons,List.map_nil]);first|done|rfl) ?_;((with_reducible refine (itoa_at HOF.out.1 HOF.out.2 HT.out).mono ?_);rintro e w1 ⟨rfl,hb⟩);refine ⟨_,rfl,?_⟩;rw [← DG.out];have HT:=Aside0.mk (HT.out.nx hb);have KE:=Aside0.mk (blk_below KE.out hb);have BE:=Aside0.mk (below_step BE.out hb);refine hK.out _ _ ⟨pw_cell_below hb hHeld.1,pw_cell_below hb hHeld.2.1,pw_cell_below hb hHeld.2.2.1,pw_cell_below hb hHeld.2.2.2.1,pw_cell_below hb hHeld.2.2.2.2⟩ (fun hHeld=>?_);clear hb hK K;refine norm_ (a':=?_) ?_ ?_;rotate_left;· simp only [Act.put,List.setIfInBounds_toArray,List.set_cons_zero,List.set_cons_succ,i64_w,i32_w];rfl))
 refine done_ (done_of HT_.out (by kernel_rfl)) ?_
 have ke2:=hHeld.2.2.2.2
 clear hHeld HT_ HW_ sa0 sa1 sa2 sb0 sb1 sb2 r0 r1
 obtain ⟨X,hX⟩:∃ X,X=(wd ++ (⟨#[32]⟩:ByteArray)) ++ dg:=⟨_,rfl⟩
 rw [← hX]
 have SX:=Aside0.mk (show X.size≤1000000007 by rw [hX,ByteArray.size_append,ByteArray.size_append];have:=SZ.out;show wd.size+1+dg.size≤_;omega)
 have sc0:(X.size+2≤9223372036854775807)=True:=eq_true (by have:=SX.out;omega)
 have sc1:decide (X.size+2≤9223372036854775807)=true:=decide_eq_true (by have:=SX.out;omega)
 have sc2:(9223372036854775807<X.size+2)=False:=eq_false (by have:=SX.out;omega)
 have sd0:(X.size+1≤9223372036854775807)=True:=eq_true (by have:=SX.out;omega)
 have sd1:decide (X.size+1≤9223372036854775807)=true:=decide_eq_true (by have:=SX.out;omega)
 have sd2:(9223372036854775807<X.size+1)=False:=eq_false (by have:=SX.out;omega)
 have se0:(X.size+2+1≤9223372036854775807)=True:=eq_true (by have:=SX.out;omega)
 have se1:decide (X.size+2+1≤9223372036854775807)=true:=decide_eq_true (by have:=SX.out;omega)
 have se2:(9223372036854775807<X.size+2+1)=False:=eq_false (by have:=SX.out;omega)
 have sf0:(X.size+3≤9223372036854775807)=True:=eq_true (by have:=SX.out;omega)
 have sf1:decide (X.size+3≤9223372036854775807)=true:=decide_eq_true (by have:=SX.out;omega)
 have sf2:(9223372036854775807<X.size+3)=False:=eq_false (by have:=SX.out;omega)
 have HX:=Aside0.mk hX
 clear hX
 by_cases d1:dir=1
 ·subst d1
  go_wp2_with fail
  go_ret
  refine ⟨?_,BE.out⟩
  rw [← HX.out]
  rfl
 have e1:(dir==1)=false:=beq_false_of_ne d1
 by_cases d2:dir=-1
 ·subst d2
  go_wp2_with fail
  go_ret
  refine ⟨?_,BE.out⟩
  rw [← HX.out]
  rfl
 have e2:(dir==-1)=false:=beq_false_of_ne d2
 go_wp2_with fail
 go_ret
 refine ⟨?_,BE.out⟩
 rw [← HX.out]
 first|rfl|(rw [if_neg d1,if_neg d2];rfl)
theorem line_is {A:Addr} {c:Nat} {op of dir:Int} {w:World} (ho:0≤op) (ho5:op≤5) (h0:0≤of) (h1:of≤1000000000) (hT:Tabs A c w) :
  Calls Tryd.prog 33 #[.agg #[.int .i64 op,.int .i64 of,.int .i64 dir]] w fun e w'=>e=.returned (.string ⟨(lineB op of dir).toArray⟩)∧Below w.heap.size w w':=by
 obtain ⟨o,rfl⟩:=Int.eq_ofNat_of_zero_le ho
 have h2:=digits_len of.toNat
 have h3:=word_len o
 refine (line_bytes o of dir ⟨(wordB o).toArray⟩ ⟨(Lib.decDigits of.toNat).toArray⟩ w (by omega) h3 (show (Lib.decDigits of.toNat).length≤_ by omega) rfl rfl h0 h1 hT).mono ?_
 rintro e w' ⟨rfl,hb⟩
 refine ⟨?_,hb⟩
 congr 2
 have e1:(⟨#[32]⟩:ByteArray)=⟨([32]:List UInt8).toArray⟩:=rfl
 have e2:(⟨#[32,43]⟩:ByteArray)=⟨([32,43]:List UInt8).toArray⟩:=rfl
 have e3:(⟨#[32,45]⟩:ByteArray)=⟨([32,45]:List UInt8).toArray⟩:=rfl
 have e4:(⟨#[10]⟩:ByteArray)=⟨([10]:List UInt8).toArray⟩:=rfl
 rw [e1,e2,e3,e4,lineB,dirB]
 by_cases d1:dir=1
 ·simp only [if_pos d1,bytes_app];rfl
 by_cases d2:dir=-1
 ·simp only [if_neg d1,if_pos d2,bytes_app];rfl
 simp only [if_neg d1,if_neg d2,bytes_app,List.append_nil];rfl
end Go.Proofs.YtpdnabhpkdchjaaDoor.P
namespace Go.Proofs.YtpdnabhpkdchjaaDoor.P
open Go.RowKit Go.Proofs.YtpdnabhpkdchjaaDoorW.PrintWords Go.Proofs.YtpdnabhpkdchjaaDoorW.PrintLast Go.Proofs.YtpdnabhpkdchjaaDoorW.PrintMore
attribute [local go_sem] max2_int min2_int max_two min_two max_three min_three max_four min_four
set_option linter.unusedVariables false
set_option linter.unusedSimpArgs false
mutual
def spec_EventOk.j0:Nat→Int→Bool→Int→List (S98)→Int→Int→Int→Option (Bool)
 | 0,_,_,_,_,_,_,_=>none
 | k+1,x9,x10,x110000,x110001,x111000,x111001,x111002=>if x10=true then ((spec_l1in.f x111001 0 (wrap64 ((x110001.length:Int) - 1))).bind fun t112=>(if t112=true then (if x111002=1 then (some true) else (some (x111002==(-1)))) else (some false))) else (if x9=3 then (spec_EventOk.j1 k x9 (x9==3) x110000 x110001 x111000 x111001 x111002) else (spec_EventOk.j1 k x9 (x9==4) x110000 x110001 x111000 x111001 x111002))
def spec_EventOk.j1:Nat→Int→Bool→Int→List (S98)→Int→Int→Int→Option (Bool)
 | 0,_,_,_,_,_,_,_=>none
 | k+1,x9,x30,x110000,x110001,x111000,x111001,x111002=>if x30=true then ((spec_l1in.f x111001 0 (wrap64 ((x110001.length:Int) - 1))).bind fun t113=>(if t113=true then (some (x111002==0)) else (some false))) else (if x9=5 then ((spec_l1in.f x111001 0 (wrap64 (x110000 - 1))).bind fun t114=>(if t114=true then (some (x111002==0)) else (some false))) else (some false))
end
def spec_EventOk.f (k:Nat) (a0_0:Int) (l0_1:List (S98)) (a1_0:Int) (a1_1:Int) (a1_2:Int):Option (Bool):=(spec_LayoutOk.f k a0_0 l0_1).bind fun t111=>(if t111=0 then (if a1_0=1 then (spec_EventOk.j0 k a1_0 (a1_0==1) a0_0 l0_1 a1_0 a1_1 a1_2) else (spec_EventOk.j0 k a1_0 (a1_0==2) a0_0 l0_1 a1_0 a1_1 a1_2)) else (some false))
set_option maxHeartbeats 8000000 in
set_option maxRecDepth 100000 in
theorem spec_EventOk.calls (k:Nat) (a0_0:Int) (A0_1:Option Addr) (c0_1:Nat) (l0_1:List (S98)) (a1_0:Int) (a1_1:Int) (a1_2:Int) (r:Bool) (w:World) (hr0_1:Kd.C k98 w A0_1 l0_1.length l0_1) (hc0_1:l0_1.length≤c0_1) (h:spec_EventOk.f k a0_0 l0_1 a1_0 a1_1 a1_2=some r) :
  Calls Tryd.prog 26 #[.agg #[.int .i64 a0_0,.slice A0_1 l0_1.length c0_1],.agg #[.int .i64 a1_0,.int .i64 a1_1,.int .i64 a1_2]] w fun e w'=>e=.returned (.bool r)∧Below w.heap.size w w':=by
 have hu31:=Tryd.underlying31
 have hu52:=Tryd.underlying52
 have HR0_1:=Aside0.mk hr0_1
 have HC0_1:=Aside0.mk hc0_1
 clear hr0_1 hc0_1
 have HB:=Aside0.mk (Below.refl w.heap.size w)
 have H:((spec_LayoutOk.f k a0_0 l0_1).bind fun t111=>(if t111=0 then (if a1_0=1 then (spec_EventOk.j0 k a1_0 (a1_0==1) a0_0 l0_1 a1_0 a1_1 a1_2) else (spec_EventOk.j0 k a1_0 (a1_0==2) a0_0 l0_1 a1_0 a1_1 a1_2)) else (some false)))=some r:=h
 clear h
 replace H:=Option.bind_eq_some_iff.mp H
 obtain ⟨t111,A30,H⟩:=H
 replace H:(if t111=0 then (if a1_0=1 then (spec_EventOk.j0 k a1_0 (a1_0==1) a0_0 l0_1 a1_0 a1_1 a1_2) else (spec_EventOk.j0 k a1_0 (a1_0==2) a0_0 l0_1 a1_0 a1_1 a1_2)) else (some false))=some r:=H
 have A3:=Aside0.mk A30
 clear A30
 by_cases c4:t111=0
 ·rw [if_pos c4] at H
  have c4b0:(t111==0)=true:=beq_iff_eq.mpr c4
  have c4b1:(t111 != 0)=false:=bne_eq_false_iff_eq.mpr c4
  clear c4
  have HC5:=Aside0.mk H
  clear H
  go_enter Tryd.func26,Tryd.ntmps26
  go_upto_if 10 with (first|((with_reducible refine gate_dst (N:=2) rfl ?_);refine box_event ?hg (N:=2) ?hd (cs:=#[.int .i64 a0_0,.slice A0_1 l0_1.length c0_1]) (t:=31) ?hr ?_;(case hd=>rfl);(case hg=>rfl);(case hr=>first|(go_simp;done)|(go_simp;rfl));intro gb109 hg w6 hbox hb;have n0_:=Aside0.mk (below_step (by exact HB.out) hb);have n1_:=Aside0.mk (hbox);have n2_:=Aside0.mk ((by rw [hg];exact (below_size (by exact HB.out)):w.heap.size≤gb109));have n3_:=Aside0.mk ((by rw [hg];exact (below_size (by exact HB.out)):w.heap.size≤gb109));clear HB;have HB:=n0_;have BK109:=n1_;have GW109:=n2_;have GE109:=n3_;clear n0_ n1_ n2_ n3_;clear hb hbox hg)|((with_reducible refine gate_dst (N:=3) rfl ?_);refine box_event ?hg (N:=3) ?hd (cs:=#[.int .i64 a1_0,.int .i64 a1_1,.int .i64 a1_2]) (t:=52) ?hr ?_;(case hd=>rfl);(case hg=>rfl);(case hr=>first|(go_simp;done)|(go_simp;rfl));intro gb110 hg w7 hbox hb;have n0_:=Aside0.mk (blk_below (g:=gb109) (o:=.cells #[.int .i64 a0_0,.slice A0_1 l0_1.length c0_1] 31 (0,0)) (by exact BK109.out) hb);have n1_:=Aside0.mk (below_step (by exact HB.out) hb);have n2_:=Aside0.mk (hbox);have n3_:=Aside0.mk ((by rw [hg];exact (below_size (by exact HB.out)):w.heap.size≤gb110));have n4_:=Aside0.mk ((by rw [hg];exact (below_size (by exact HB.out)):w.heap.size≤gb110));have n5_:=Aside0.mk ((by rw [hg];exact Nat.ne_of_lt (blk_lt (g:=gb109) (o:=.cells #[.int .i64 a0_0,.slice A0_1 l0_1.length c0_1] 31 (0,0)) (by exact BK109.out)):gb109 ≠ gb110));have n6_:=Aside0.mk ((by rw [hg];exact Nat.ne_of_gt (blk_lt (g:=gb109) (o:=.cells #[.int .i64 a0_0,.slice A0_1 l0_1.length c0_1] 31 (0,0)) (by exact BK109.out)):gb110 ≠ gb109));clear BK109;clear HB;have BK109:=n0_;have HB:=n1_;have BK110:=n2_;have GW110:=n3_;have GE110:=n4_;have NB109_110:=n5_;have NB110_109:=n6_;clear n0_ n1_ n2_ n3_ n4_ n5_ n6_;clear hb hbox hg;have hnb8:=NB109_110.out;have hnc8:=NB110_109.out;have hcz9_0:w7.cell? ⟨gb109,0,none⟩=some (.int .i64 a0_0):=(blk_cell BK109.out 0).trans rfl;have hcz9_1:w7.cell? ⟨gb109,1,none⟩=some (.slice A0_1 l0_1.length c0_1):=(blk_cell BK109.out 1).trans rfl;have hfz9_0:=blk_frozen BK109.out 0;have hfz9_1:=blk_frozen BK109.out 1)|((with_reducible refine gate_callee (f:=38) rfl ?_);refine goesL_ (some 6) rfl rfl Tryd.func38 (by kernel_rfl) rfl #[.agg #[.int .i64 a0_0,.slice A0_1 l0_1.length c0_1]] rfl (by (try simp only [List.map_toArray,List.map_cons,List.map_nil]);first|done|rfl|(simp only [List.length_drop,List.length_take];rfl)) ?_;(with_reducible refine (spec_LayoutOk.calls k a0_0 _ _ l0_1 t111 _ ?side1 ?side2 A3.out).mono ?_);(case side1=>repeat (first|exact (Kd.C_below HR0_1.out HB.out)|(with_reducible refine Kd.C_alloc ?_ _)|(with_reducible refine Kd.C_drewN ?_ _)|(with_reducible refine Kd.C_drew ?_)));(case side2=>exact HC0_1.out);rintro e w10 ⟨rfl,hb⟩;refine ⟨_,rfl,?_⟩;have n0_:=Aside0.mk (blk_below (g:=gb109) (o:=.cells #[.int .i64 a0_0,.slice A0_1 l0_1.length c0_1] 31 (0,0)) (by exact BK109.out) hb);have n1_:=Aside0.mk (blk_below (g:=gb110) (o:=.cells #[.int .i64 a1_0,.int .i64 a1_1,.int .i64 a1_2] 52 (0,0)) (by exact BK110.out) hb);have n2_:=Aside0.mk (below_step (by exact HB.out) hb);clear BK109;clear BK110;clear HB;have BK109:=n0_;have BK110:=n1_;have HB:=n2_;clear n0_ n1_ n2_;(try clear hb);(try clear hb2);(try clear hk);(try clear hi);have hcz11_0:w10.cell? ⟨gb110,0,none⟩=some (.int .i64 a1_0):=(blk_cell BK110.out 0).trans rfl;have hcz11_1:w10.cell? ⟨gb110,1,none⟩=some (.int .i64 a1_1):=(blk_cell BK110.out 1).trans rfl;have hcz11_2:w10.cell? ⟨gb110,2,none⟩=some (.int .i64 a1_2):=(blk_cell BK110.out 2).trans rfl;have hfz11_0:=blk_frozen BK110.out 0;have hfz11_1:=blk_frozen BK110.out 1;have hfz11_2:=blk_frozen BK110.out 2))
  (try simp only [Act.put,List.setIfInBounds_toArray,List.set_cons_zero,List.set_cons_succ])
  go_cut [10] (fun v10 wc=>∃ (kq:Nat) (x10_4:Bool),v10=.bool x10_4∧Aside0 (spec_EventOk.j0 kq a1_0 x10_4 a0_0 l0_1 a1_0 a1_1 a1_2=some r)∧Aside0 (kq≤k)∧Aside0 (wc.heap[gb109]?=some (.cells #[.int .i64 a0_0,(.slice A0_1 l0_1.length c0_1)] 31 (0,0)))∧Aside0 (wc.heap[gb110]?=some (.cells #[.int .i64 a1_0,.int .i64 a1_1,.int .i64 a1_2] 52 (0,0)))∧Aside0 (Below w.heap.size w wc))
  case first =>
   have H:=HC5.out
   clear HC5
   by_cases c12:a1_0=1
   ·rw [if_pos c12] at H
    have c12b0:(a1_0==1)=true:=beq_iff_eq.mpr c12
    have c12b1:(a1_0 != 1)=false:=bne_eq_false_iff_eq.mpr c12
    clear c12
    (first|rw [c12b0]|(simp only [i64_w,i32_w];rw [c12b0])|skip)
    have H':=Aside0.mk H
    clear H
    go_wp2
    go_meet
    case rel=>exact ⟨_,((a1_0==1)),(by first|rfl|(simp;done)|(simp [*];done)),H',⟨by first|omega|exact Nat.le_refl _⟩,⟨by exact BK109.out⟩,⟨by exact BK110.out⟩,⟨by exact HB.out⟩⟩
   rw [if_neg c12] at H
   have c12b0:(a1_0==1)=false:=beq_eq_false_iff_ne.mpr c12
   have c12b1:(a1_0 != 1)=true:=bne_iff_ne.mpr c12
   (first|rw [c12b0]|(simp only [i64_w,i32_w];rw [c12b0])|skip)
   have H':=Aside0.mk H
   clear H
   go_wp2
   go_meet
   case rel=>exact ⟨_,((a1_0==2)),(by first|rfl|(simp;done)|(simp [*];done)),H',⟨by first|omega|exact Nat.le_refl _⟩,⟨by exact BK109.out⟩,⟨by exact BK110.out⟩,⟨by exact HB.out⟩⟩
  case rest =>
   clear HC5
   try clear c1
   try clear c2
   try clear p2
   try clear c3
   try clear c4
   try clear c4b0
   try clear c4b1
   try clear c8
   try clear c12
   try clear c12b0
   try clear c12b1
   try clear hcz11_0
   try clear hcz11_1
   try clear hcz11_2
   try clear hcz9_0
   try clear hcz9_1
   try clear hfz11_0
   try clear hfz11_1
   try clear hfz11_2
   try clear hfz9_0
   try clear hfz9_1
   obtain ⟨kq,x10_4,rfl,HA,HJ4,BK109,BK110,HB⟩:=hcut
   cases kq with
   | zero=>exact absurd HA.out (by simp [spec_EventOk.j0])
   | succ kj4 =>
    have H:=HA.out
    clear HA
    simp only [spec_EventOk.j0] at H
    by_cases c13:x10_4=true
    ·subst c13
     have H1:((spec_l1in.f a1_1 0 (wrap64 ((l0_1.length:Int) - 1))).bind fun t112=>(if t112=true then (if a1_2=1 then (some true) else (some (a1_2==(-1)))) else (some false)))=some r:=by rw [if_pos rfl] at H;exact H
     clear H
     have H:=H1
     clear H1
     replace H:=Option.bind_eq_some_iff.mp H
     obtain ⟨t112,A140,H⟩:=H
     replace H:(if t112=true then (if a1_2=1 then (some true) else (some (a1_2==(-1)))) else (some false))=some r:=H
     have A14:=Aside0.mk A140
     clear A140
     by_cases c15:t112=true
     ·subst c15
      have H1:(if a1_2=1 then (some true) else (some (a1_2==(-1))))=some r:=by rw [if_pos rfl] at H;exact H
      clear H
      have H:=H1
      clear H1
      by_cases c16:a1_2=1
      ·rw [if_pos c16] at H
       have c16b0:(a1_2==1)=true:=beq_iff_eq.mpr c16
       have c16b1:(a1_2 != 1)=false:=bne_eq_false_iff_eq.mpr c16
       clear c16
       obtain rfl:=Option.some.inj H
       have hnb17:=NB110_109.out
       have hnc17:=NB109_110.out
       have hcz18_0:wc.cell? ⟨gb110,0,none⟩=some (.int .i64 a1_0):=(blk_cell BK110.out 0).trans rfl
       have hcz18_1:wc.cell? ⟨gb110,1,none⟩=some (.int .i64 a1_1):=(blk_cell BK110.out 1).trans rfl
       have hcz18_2:wc.cell? ⟨gb110,2,none⟩=some (.int .i64 a1_2):=(blk_cell BK110.out 2).trans rfl
       have hfz18_0:=blk_frozen BK110.out 0
       have hfz18_1:=blk_frozen BK110.out 1
       have hfz18_2:=blk_frozen BK110.out 2
       have hcz19_0:wc.cell? ⟨gb109,0,none⟩=some (.int .i64 a0_0):=(blk_cell BK109.out 0).trans rfl
       have hcz19_1:wc.cell? ⟨gb109,1,none⟩=some (.slice A0_1 l0_1.length c0_1):=(blk_cell BK109.out 1).trans rfl
       have hfz19_0:=blk_frozen BK109.out 0
       have hfz19_1:=blk_frozen BK109.out 1
       go_wp2_with (first|((with_reducible refine gate_callee (f:=51) rfl ?_);refine goesL_ (some 19) rfl rfl Tryd.func51 (by kernel_rfl) rfl #[.int .i64 a1_1,.int .i64 0,.int .i64 (wrap64 ((l0_1.length:Int) - 1))] rfl (by (try simp only [List.map_toArray,List.map_cons,List.map_nil]);first|done|rfl|(simp only [List.length_drop,List.length_take];rfl)) ?_;(with_reducible refine (spec_l1in.calls a1_1 0 (wrap64 ((l0_1.length:Int) - 1)) true _ A14.out).mono ?_);rintro e w' ⟨rfl,⟨nd,rfl⟩⟩;refine ⟨_,rfl,?_⟩))
       go_ret
       exact ⟨by first|rfl|(simp [errW_none,errW_some] <;> rfl)|(simp [*,errW_none,errW_some] <;> rfl),by repeat (first|(with_reducible first|exact HB.out|apply below_alloc|apply pw_below_drewN|apply below_drew1|refine below_set ?_ GE109.out|refine below_set ?_ GE110.out)|exact HB.out)⟩
      rw [if_neg c16] at H
      have c16b0:(a1_2==1)=false:=beq_eq_false_iff_ne.mpr c16
      have c16b1:(a1_2 != 1)=true:=bne_iff_ne.mpr c16
      obtain rfl:=Option.some.inj H
      have hnb20:=NB110_109.out
      have hnc20:=NB109_110.out
      have hcz21_0:wc.cell? ⟨gb110,0,none⟩=some (.int .i64 a1_0):=(blk_cell BK110.out 0).trans rfl
      have hcz21_1:wc.cell? ⟨gb110,1,none⟩=some (.int .i64 a1_1):=(blk_cell BK110.out 1).trans rfl
      have hcz21_2:wc.cell? ⟨gb110,2,none⟩=some (.int .i64 a1_2):=(blk_cell BK110.out 2).trans rfl
      have hfz21_0:=blk_frozen BK110.out 0
      have hfz21_1:=blk_frozen BK110.out 1
      have hfz21_2:=blk_frozen BK110.out 2
      have hcz22_0:wc.cell? ⟨gb109,0,none⟩=some (.int .i64 a0_0):=(blk_cell BK109.out 0).trans rfl
      have hcz22_1:wc.cell? ⟨gb109,1,none⟩=some (.slice A0_1 l0_1.length c0_1):=(blk_cell BK109.out 1).trans rfl
      have hfz22_0:=blk_frozen BK109.out 0
      have hfz22_1:=blk_frozen BK109.out 1
      go_wp2_with (first|((with_reducible refine gate_callee (f:=51) rfl ?_);refine goesL_ (some 19) rfl rfl Tryd.func51 (by kernel_rfl) rfl #[.int .i64 a1_1,.int .i64 0,.int .i64 (wrap64 ((l0_1.length:Int) - 1))] rfl (by (try simp only [List.map_toArray,List.map_cons,List.map_nil]);first|done|rfl|(simp only [List.length_drop,List.length_take];rfl)) ?_;(with_reducible refine (spec_l1in.calls a1_1 0 (wrap64 ((l0_1.length:Int) - 1)) true _ A14.out).mono ?_);rintro e w' ⟨rfl,⟨nd,rfl⟩⟩;refine ⟨_,rfl,?_⟩))
      go_ret
      exact ⟨by first|rfl|(simp [errW_none,errW_some] <;> rfl)|(simp [*,errW_none,errW_some] <;> rfl),by repeat (first|(with_reducible first|exact HB.out|apply below_alloc|apply pw_below_drewN|apply below_drew1|refine below_set ?_ GE109.out|refine below_set ?_ GE110.out)|exact HB.out)⟩
     replace c15:=Bool.eq_false_iff.mpr c15
     subst c15
     have H1:(some false)=some r:=by rw [if_neg (show ¬ (false=true) by decide)] at H;exact H
     clear H
     have H:=H1
     clear H1
     obtain rfl:=Option.some.inj H
     have hnb23:=NB110_109.out
     have hnc23:=NB109_110.out
     have hcz24_0:wc.cell? ⟨gb110,0,none⟩=some (.int .i64 a1_0):=(blk_cell BK110.out 0).trans rfl
     have hcz24_1:wc.cell? ⟨gb110,1,none⟩=some (.int .i64 a1_1):=(blk_cell BK110.out 1).trans rfl
     have hcz24_2:wc.cell? ⟨gb110,2,none⟩=some (.int .i64 a1_2):=(blk_cell BK110.out 2).trans rfl
     have hfz24_0:=blk_frozen BK110.out 0
     have hfz24_1:=blk_frozen BK110.out 1
     have hfz24_2:=blk_frozen BK110.out 2
     have hcz25_0:wc.cell? ⟨gb109,0,none⟩=some (.int .i64 a0_0):=(blk_cell BK109.out 0).trans rfl
     have hcz25_1:wc.cell? ⟨gb109,1,none⟩=some (.slice A0_1 l0_1.length c0_1):=(blk_cell BK109.out 1).trans rfl
     have hfz25_0:=blk_frozen BK109.out 0
     have hfz25_1:=blk_frozen BK109.out 1
     go_wp2_with (first|((with_reducible refine gate_callee (f:=51) rfl ?_);refine goesL_ (some 19) rfl rfl Tryd.func51 (by kernel_rfl) rfl #[.int .i64 a1_1,.int .i64 0,.int .i64 (wrap64 ((l0_1.length:Int) - 1))] rfl (by (try simp only [List.map_toArray,List.map_cons,List.map_nil]);first|done|rfl|(simp only [List.length_drop,List.length_take];rfl)) ?_;(with_reducible refine (spec_l1in.calls a1_1 0 (wrap64 ((l0_1.length:Int) - 1)) false _ A14.out).mono ?_);rintro e w' ⟨rfl,⟨nd,rfl⟩⟩;refine ⟨_,rfl,?_⟩))
     go_ret
     exact ⟨by first|rfl|(simp [errW_none,errW_some] <;> rfl)|(simp [*,errW_none,errW_some] <;> rfl),by repeat (first|(with_reducible first|exact HB.out|apply below_alloc|apply pw_below_drewN|apply below_drew1|refine below_set ?_ GE109.out|refine below_set ?_ GE110.out)|exact HB.out)⟩
    replace c13:=Bool.eq_false_iff.mpr c13
    subst c13
    have H1:(if a1_0=3 then (spec_EventOk.j1 kj4 a1_0 (a1_0==3) a0_0 l0_1 a1_0 a1_1 a1_2) else (spec_EventOk.j1 kj4 a1_0 (a1_0==4) a0_0 l0_1 a1_0 a1_1 a1_2))=some r:=by rw [if_neg (show ¬ (false=true) by decide)] at H;exact H
    clear H
    have H:=H1
    clear H1
    have HC26:=Aside0.mk H
    clear H
    go_upto_if 30 with (fail)
    go_cut [30] (fun v30 wc=>∃ (kq:Nat) (x30_25:Bool),v30=.bool x30_25∧Aside0 (spec_EventOk.j1 kq a1_0 x30_25 a0_0 l0_1 a1_0 a1_1 a1_2=some r)∧Aside0 (kq≤kj4)∧Aside0 (wc.heap[gb109]?=some (.cells #[.int .i64 a0_0,(.slice A0_1 l0_1.length c0_1)] 31 (0,0)))∧Aside0 (wc.heap[gb110]?=some (.cells #[.int .i64 a1_0,.int .i64 a1_1,.int .i64 a1_2] 52 (0,0)))∧Aside0 (Below w.heap.size w wc))
    case first =>
     have H:=HC26.out
     clear HC26
     by_cases c27:a1_0=3
     ·rw [if_pos c27] at H
      have c27b0:(a1_0==3)=true:=beq_iff_eq.mpr c27
      have c27b1:(a1_0 != 3)=false:=bne_eq_false_iff_eq.mpr c27
      clear c27
      (first|rw [c27b0]|(simp only [i64_w,i32_w];rw [c27b0])|skip)
      have H':=Aside0.mk H
      clear H
      go_wp2
      go_meet
      case rel=>exact ⟨_,((a1_0==3)),(by first|rfl|(simp;done)|(simp [*];done)),H',⟨by have:=HJ4.out;first|omega|exact Nat.le_refl _⟩,⟨by exact BK109.out⟩,⟨by exact BK110.out⟩,⟨by exact HB.out⟩⟩
     rw [if_neg c27] at H
     have c27b0:(a1_0==3)=false:=beq_eq_false_iff_ne.mpr c27
     have c27b1:(a1_0 != 3)=true:=bne_iff_ne.mpr c27
     (first|rw [c27b0]|(simp only [i64_w,i32_w];rw [c27b0])|skip)
     have H':=Aside0.mk H
     clear H
     go_wp2
     go_meet
     case rel=>exact ⟨_,((a1_0==4)),(by first|rfl|(simp;done)|(simp [*];done)),H',⟨by have:=HJ4.out;first|omega|exact Nat.le_refl _⟩,⟨by exact BK109.out⟩,⟨by exact BK110.out⟩,⟨by exact HB.out⟩⟩
    case rest =>
     clear HC26
     try clear c1
     try clear c2
     try clear p2
     try clear c3
     try clear c4
     try clear c4b0
     try clear c4b1
     try clear c5
     try clear p6
     try clear c8
     try clear c12
     try clear c12b0
     try clear c12b1
     try clear c13
     try clear c15
     try clear c16
     try clear c16b0
     try clear c16b1
     try clear c17
     try clear c20
     try clear c23
     try clear c26
     try clear c27
     try clear c27b0
     try clear c27b1
     try clear hcz11_0
     try clear hcz11_1
     try clear hcz11_2
     try clear hcz18_0
     try clear hcz18_1
     try clear hcz18_2
     try clear hcz19_0
     try clear hcz19_1
     try clear hcz21_0
     try clear hcz21_1
     try clear hcz21_2
     try clear hcz22_0
     try clear hcz22_1
     try clear hcz24_0
     try clear hcz24_1
     try clear hcz24_2
     try clear hcz25_0
     try clear hcz25_1
     try clear hcz9_0
     try clear hcz9_1
     try clear hfz11_0
     try clear hfz11_1
     try clear hfz11_2
     try clear hfz18_0
     try clear hfz18_1
     try clear hfz18_2
     try clear hfz19_0
     try clear hfz19_1
     try clear hfz21_0
     try clear hfz21_1
     try clear hfz21_2
     try clear hfz22_0
     try clear hfz22_1
     try clear hfz24_0
     try clear hfz24_1
     try clear hfz24_2
     try clear hfz25_0
     try clear hfz25_1
     try clear hfz9_0
     try clear hfz9_1
     try clear p2
     obtain ⟨kq,x30_25,rfl,HA,HJ25,BK109,BK110,HB⟩:=hcut
     cases kq with
     | zero=>exact absurd HA.out (by simp [spec_EventOk.j1])
     | succ kj25 =>
      have H:=HA.out
      clear HA
      simp only [spec_EventOk.j1] at H
      by_cases c28:x30_25=true
      ·subst c28
       have H1:((spec_l1in.f a1_1 0 (wrap64 ((l0_1.length:Int) - 1))).bind fun t113=>(if t113=true then (some (a1_2==0)) else (some false)))=some r:=by rw [if_pos rfl] at H;exact H
       clear H
       have H:=H1
       clear H1
       replace H:=Option.bind_eq_some_iff.mp H
       obtain ⟨t113,A290,H⟩:=H
       replace H:(if t113=true then (some (a1_2==0)) else (some false))=some r:=H
       have A29:=Aside0.mk A290
       clear A290
       by_cases c30:t113=true
       ·subst c30
        have H1:(some (a1_2==0))=some r:=by rw [if_pos rfl] at H;exact H
        clear H
        have H:=H1
        clear H1
        obtain rfl:=Option.some.inj H
        have hnb31:=NB110_109.out
        have hnc31:=NB109_110.out
        have hcz32_0:wc.cell? ⟨gb110,0,none⟩=some (.int .i64 a1_0):=(blk_cell BK110.out 0).trans rfl
        have hcz32_1:wc.cell? ⟨gb110,1,none⟩=some (.int .i64 a1_1):=(blk_cell BK110.out 1).trans rfl
        have hcz32_2:wc.cell? ⟨gb110,2,none⟩=some (.int .i64 a1_2):=(blk_cell BK110.out 2).trans rfl
        have hfz32_0:=blk_frozen BK110.out 0
        have hfz32_1:=blk_frozen BK110.out 1
        have hfz32_2:=blk_frozen BK110.out 2
        have hcz33_0:wc.cell? ⟨gb109,0,none⟩=some (.int .i64 a0_0):=(blk_cell BK109.out 0).trans rfl
        have hcz33_1:wc.cell? ⟨gb109,1,none⟩=some (.slice A0_1 l0_1.length c0_1):=(blk_cell BK109.out 1).trans rfl
        have hfz33_0:=blk_frozen BK109.out 0
        have hfz33_1:=blk_frozen BK109.out 1
        go_wp2_with (first|((with_reducible refine gate_callee (f:=51) rfl ?_);refine goesL_ (some 39) rfl rfl Tryd.func51 (by kernel_rfl) rfl #[.int .i64 a1_1,.int .i64 0,.int .i64 (wrap64 ((l0_1.length:Int) - 1))] rfl (by (try simp only [List.map_toArray,List.map_cons,List.map_nil]);first|done|rfl|(simp only [List.length_drop,List.length_take];rfl)) ?_;(with_reducible refine (spec_l1in.calls a1_1 0 (wrap64 ((l0_1.length:Int) - 1)) true _ A29.out).mono ?_);rintro e w' ⟨rfl,⟨nd,rfl⟩⟩;refine ⟨_,rfl,?_⟩))
        go_ret
        exact ⟨by first|rfl|(simp [errW_none,errW_some] <;> rfl)|(simp [*,errW_none,errW_some] <;> rfl),by repeat (first|(with_reducible first|exact HB.out|apply below_alloc|apply pw_below_drewN|apply below_drew1|refine below_set ?_ GE109.out|refine below_set ?_ GE110.out)|exact HB.out)⟩
       replace c30:=Bool.eq_false_iff.mpr c30
       subst c30
       have H1:(some false)=some r:=by rw [if_neg (show ¬ (false=true) by decide)] at H;exact H
       clear H
       have H:=H1
       clear H1
       obtain rfl:=Option.some.inj H
       have hnb34:=NB110_109.out
       have hnc34:=NB109_110.out
       have hcz35_0:wc.cell? ⟨gb110,0,none⟩=some (.int .i64 a1_0):=(blk_cell BK110.out 0).trans rfl
       have hcz35_1:wc.cell? ⟨gb110,1,none⟩=some (.int .i64 a1_1):=(blk_cell BK110.out 1).trans rfl
       have hcz35_2:wc.cell? ⟨gb110,2,none⟩=some (.int .i64 a1_2):=(blk_cell BK110.out 2).trans rfl
       have hfz35_0:=blk_frozen BK110.out 0
       have hfz35_1:=blk_frozen BK110.out 1
       have hfz35_2:=blk_frozen BK110.out 2
       have hcz36_0:wc.cell? ⟨gb109,0,none⟩=some (.int .i64 a0_0):=(blk_cell BK109.out 0).trans rfl
       have hcz36_1:wc.cell? ⟨gb109,1,none⟩=some (.slice A0_1 l0_1.length c0_1):=(blk_cell BK109.out 1).trans rfl
       have hfz36_0:=blk_frozen BK109.out 0
       have hfz36_1:=blk_frozen BK109.out 1
       go_wp2_with (first|((with_reducible refine gate_callee (f:=51) rfl ?_);refine goesL_ (some 39) rfl rfl Tryd.func51 (by kernel_rfl) rfl #[.int .i64 a1_1,.int .i64 0,.int .i64 (wrap64 ((l0_1.length:Int) - 1))] rfl (by (try simp only [List.map_toArray,List.map_cons,List.map_nil]);first|done|rfl|(simp only [List.length_drop,List.length_take];rfl)) ?_;(with_reducible refine (spec_l1in.calls a1_1 0 (wrap64 ((l0_1.length:Int) - 1)) false _ A29.out).mono ?_);rintro e w' ⟨rfl,⟨nd,rfl⟩⟩;refine ⟨_,rfl,?_⟩))
       go_ret
       exact ⟨by first|rfl|(simp [errW_none,errW_some] <;> rfl)|(simp [*,errW_none,errW_some] <;> rfl),by repeat (first|(with_reducible first|exact HB.out|apply below_alloc|apply pw_below_drewN|apply below_drew1|refine below_set ?_ GE109.out|refine below_set ?_ GE110.out)|exact HB.out)⟩
      replace c28:=Bool.eq_false_iff.mpr c28
      subst c28
      have H1:(if a1_0=5 then ((spec_l1in.f a1_1 0 (wrap64 (a0_0 - 1))).bind fun t114=>(if t114=true then (some (a1_2==0)) else (some false))) else (some false))=some r:=by rw [if_neg (show ¬ (false=true) by decide)] at H;exact H
      clear H
      have H:=H1
      clear H1
      by_cases c37:a1_0=5
      ·rw [if_pos c37] at H
       have c37b0:(a1_0==5)=true:=beq_iff_eq.mpr c37
       have c37b1:(a1_0 != 5)=false:=bne_eq_false_iff_eq.mpr c37
       clear c37
       replace H:=Option.bind_eq_some_iff.mp H
       obtain ⟨t114,A380,H⟩:=H
       replace H:(if t114=true then (some (a1_2==0)) else (some false))=some r:=H
       have A38:=Aside0.mk A380
       clear A380
       by_cases c39:t114=true
       ·subst c39
        have H1:(some (a1_2==0))=some r:=by rw [if_pos rfl] at H;exact H
        clear H
        have H:=H1
        clear H1
        obtain rfl:=Option.some.inj H
        have hnb40:=NB110_109.out
        have hnc40:=NB109_110.out
        have hcz41_0:wc.cell? ⟨gb110,0,none⟩=some (.int .i64 a1_0):=(blk_cell BK110.out 0).trans rfl
        have hcz41_1:wc.cell? ⟨gb110,1,none⟩=some (.int .i64 a1_1):=(blk_cell BK110.out 1).trans rfl
        have hcz41_2:wc.cell? ⟨gb110,2,none⟩=some (.int .i64 a1_2):=(blk_cell BK110.out 2).trans rfl
        have hfz41_0:=blk_frozen BK110.out 0
        have hfz41_1:=blk_frozen BK110.out 1
        have hfz41_2:=blk_frozen BK110.out 2
        have hcz42_0:wc.cell? ⟨gb109,0,none⟩=some (.int .i64 a0_0):=(blk_cell BK109.out 0).trans rfl
        have hcz42_1:wc.cell? ⟨gb109,1,none⟩=some (.slice A0_1 l0_1.length c0_1):=(blk_cell BK109.out 1).trans rfl
        have hfz42_0:=blk_frozen BK109.out 0
        have hfz42_1:=blk_frozen BK109.out 1
        go_wp2_with (first|((with_reducible refine gate_callee (f:=51) rfl ?_);refine goesL_ (some 52) rfl rfl Tryd.func51 (by kernel_rfl) rfl #[.int .i64 a1_1,.int .i64 0,.int .i64 (wrap64 (a0_0 - 1))] rfl (by (try simp only [List.map_toArray,List.map_cons,List.map_nil]);first|done|rfl|(simp only [List.length_drop,List.length_take];rfl)) ?_;(with_reducible refine (spec_l1in.calls a1_1 0 (wrap64 (a0_0 - 1)) true _ A38.out).mono ?_);rintro e w' ⟨rfl,⟨nd,rfl⟩⟩;refine ⟨_,rfl,?_⟩))
        go_ret
        exact ⟨by first|rfl|(simp [errW_none,errW_some] <;> rfl)|(simp [*,errW_none,errW_some] <;> rfl),by repeat (first|(with_reducible first|exact HB.out|apply below_alloc|apply pw_below_drewN|apply below_drew1|refine below_set ?_ GE109.out|refine below_set ?_ GE110.out)|exact HB.out)⟩
       replace c39:=Bool.eq_false_iff.mpr c39
       subst c39
       have H1:(some false)=some r:=by rw [if_neg (show ¬ (false=true) by decide)] at H;exact H
       clear H
       have H:=H1
       clear H1
       obtain rfl:=Option.some.inj H
       have hnb43:=NB110_109.out
       have hnc43:=NB109_110.out
       have hcz44_0:wc.cell? ⟨gb110,0,none⟩=some (.int .i64 a1_0):=(blk_cell BK110.out 0).trans rfl
       have hcz44_1:wc.cell? ⟨gb110,1,none⟩=some (.int .i64 a1_1):=(blk_cell BK110.out 1).trans rfl
       have hcz44_2:wc.cell? ⟨gb110,2,none⟩=some (.int .i64 a1_2):=(blk_cell BK110.out 2).trans rfl
       have hfz44_0:=blk_frozen BK110.out 0
       have hfz44_1:=blk_frozen BK110.out 1
       have hfz44_2:=blk_frozen BK110.out 2
       have hcz45_0:wc.cell? ⟨gb109,0,none⟩=some (.int .i64 a0_0):=(blk_cell BK109.out 0).trans rfl
       have hcz45_1:wc.cell? ⟨gb109,1,none⟩=some (.slice A0_1 l0_1.length c0_1):=(blk_cell BK109.out 1).trans rfl
       have hfz45_0:=blk_frozen BK109.out 0
       have hfz45_1:=blk_frozen BK109.out 1
       go_wp2_with (first|((with_reducible refine gate_callee (f:=51) rfl ?_);refine goesL_ (some 52) rfl rfl Tryd.func51 (by kernel_rfl) rfl #[.int .i64 a1_1,.int .i64 0,.int .i64 (wrap64 (a0_0 - 1))] rfl (by (try simp only [List.map_toArray,List.map_cons,List.map_nil]);first|done|rfl|(simp only [List.length_drop,List.length_take];rfl)) ?_;(with_reducible refine (spec_l1in.calls a1_1 0 (wrap64 (a0_0 - 1)) false _ A38.out).mono ?_);rintro e w' ⟨rfl,⟨nd,rfl⟩⟩;refine ⟨_,rfl,?_⟩))
       go_ret
       exact ⟨by first|rfl|(simp [errW_none,errW_some] <;> rfl)|(simp [*,errW_none,errW_some] <;> rfl),by repeat (first|(with_reducible first|exact HB.out|apply below_alloc|apply pw_below_drewN|apply below_drew1|refine below_set ?_ GE109.out|refine below_set ?_ GE110.out)|exact HB.out)⟩
      rw [if_neg c37] at H
      have c37b0:(a1_0==5)=false:=beq_eq_false_iff_ne.mpr c37
      have c37b1:(a1_0 != 5)=true:=bne_iff_ne.mpr c37
      obtain rfl:=Option.some.inj H
      go_wp2
      go_ret
      exact ⟨by first|rfl|(simp [errW_none,errW_some] <;> rfl)|(simp [*,errW_none,errW_some] <;> rfl),by exact HB.out⟩
 rw [if_neg c4] at H
 have c4b0:(t111==0)=false:=beq_eq_false_iff_ne.mpr c4
 have c4b1:(t111 != 0)=true:=bne_iff_ne.mpr c4
 obtain rfl:=Option.some.inj H
 go_enter Tryd.func26,Tryd.ntmps26
 go_wp2_with (first|((with_reducible refine gate_dst (N:=2) rfl ?_);refine box_event ?hg (N:=2) ?hd (cs:=#[.int .i64 a0_0,.slice A0_1 l0_1.length c0_1]) (t:=31) ?hr ?_;(case hd=>rfl);(case hg=>rfl);(case hr=>first|(go_simp;done)|(go_simp;rfl));intro gb109 hg w46 hbox hb;have n0_:=Aside0.mk (below_step (by exact HB.out) hb);have n1_:=Aside0.mk (hbox);have n2_:=Aside0.mk ((by rw [hg];exact (below_size (by exact HB.out)):w.heap.size≤gb109));have n3_:=Aside0.mk ((by rw [hg];exact (below_size (by exact HB.out)):w.heap.size≤gb109));clear HB;have HB:=n0_;have BK109:=n1_;have GW109:=n2_;have GE109:=n3_;clear n0_ n1_ n2_ n3_;clear hb hbox hg)|((with_reducible refine gate_dst (N:=3) rfl ?_);refine box_event ?hg (N:=3) ?hd (cs:=#[.int .i64 a1_0,.int .i64 a1_1,.int .i64 a1_2]) (t:=52) ?hr ?_;(case hd=>rfl);(case hg=>rfl);(case hr=>first|(go_simp;done)|(go_simp;rfl));intro gb110 hg w47 hbox hb;have n0_:=Aside0.mk (blk_below (g:=gb109) (o:=.cells #[.int .i64 a0_0,.slice A0_1 l0_1.length c0_1] 31 (0,0)) (by exact BK109.out) hb);have n1_:=Aside0.mk (below_step (by exact HB.out) hb);have n2_:=Aside0.mk (hbox);have n3_:=Aside0.mk ((by rw [hg];exact (below_size (by exact HB.out)):w.heap.size≤gb110));have n4_:=Aside0.mk ((by rw [hg];exact (below_size (by exact HB.out)):w.heap.size≤gb110));have n5_:=Aside0.mk ((by rw [hg];exact Nat.ne_of_lt (blk_lt (g:=gb109) (o:=.cells #[.int .i64 a0_0,.slice A0_1 l0_1.length c0_1] 31 (0,0)) (by exact BK109.out)):gb109 ≠ gb110));have n6_:=Aside0.mk ((by rw [hg];exact Nat.ne_of_gt (blk_lt (g:=gb109) (o:=.cells #[.int .i64 a0_0,.slice A0_1 l0_1.length c0_1] 31 (0,0)) (by exact BK109.out)):gb110 ≠ gb109));clear BK109;clear HB;have BK109:=n0_;have HB:=n1_;have BK110:=n2_;have GW110:=n3_;have GE110:=n4_;have NB109_110:=n5_;have NB110_109:=n6_;clear n0_ n1_ n2_ n3_ n4_ n5_ n6_;clear hb hbox hg;have hnb48:=NB109_110.out;have hnc48:=NB110_109.out;have hcz49_0:w47.cell? ⟨gb109,0,none⟩=some (.int .i64 a0_0):=(blk_cell BK109.out 0).trans rfl;have hcz49_1:w47.cell? ⟨gb109,1,none⟩=some (.slice A0_1 l0_1.length c0_1):=(blk_cell BK109.out 1).trans rfl;have hfz49_0:=blk_frozen BK109.out 0;have hfz49_1:=blk_frozen BK109.out 1)|((with_reducible refine gate_callee (f:=38) rfl ?_);refine goesL_ (some 6) rfl rfl Tryd.func38 (by kernel_rfl) rfl #[.agg #[.int .i64 a0_0,.slice A0_1 l0_1.length c0_1]] rfl (by (try simp only [List.map_toArray,List.map_cons,List.map_nil]);first|done|rfl|(simp only [List.length_drop,List.length_take];rfl)) ?_;(with_reducible refine (spec_LayoutOk.calls k a0_0 _ _ l0_1 t111 _ ?side1 ?side2 A3.out).mono ?_);(case side1=>repeat (first|exact (Kd.C_below HR0_1.out HB.out)|(with_reducible refine Kd.C_alloc ?_ _)|(with_reducible refine Kd.C_drewN ?_ _)|(with_reducible refine Kd.C_drew ?_)));(case side2=>exact HC0_1.out);rintro e w50 ⟨rfl,hb⟩;refine ⟨_,rfl,?_⟩;have n0_:=Aside0.mk (blk_below (g:=gb109) (o:=.cells #[.int .i64 a0_0,.slice A0_1 l0_1.length c0_1] 31 (0,0)) (by exact BK109.out) hb);have n1_:=Aside0.mk (blk_below (g:=gb110) (o:=.cells #[.int .i64 a1_0,.int .i64 a1_1,.int .i64 a1_2] 52 (0,0)) (by exact BK110.out) hb);have n2_:=Aside0.mk (below_step (by exact HB.out) hb);clear BK109;clear BK110;clear HB;have BK109:=n0_;have BK110:=n1_;have HB:=n2_;clear n0_ n1_ n2_;(try clear hb);(try clear hb2);(try clear hk);(try clear hi)))
 go_ret
 exact ⟨by first|rfl|(simp [errW_none,errW_some] <;> rfl)|(simp [*,errW_none,errW_some] <;> rfl),by exact HB.out⟩
end Go.Proofs.YtpdnabhpkdchjaaDoor.P
namespace Go.Proofs.YtpdnabhpkdchjaaDoor.P
open Go.RowKit Go.Proofs.YtpdnabhpkdchjaaDoorW.PrintWords Go.Proofs.YtpdnabhpkdchjaaDoorW.PrintLast Go.Proofs.YtpdnabhpkdchjaaDoorW.PrintMore
attribute [local go_sem] max2_int min2_int max_two min_two max_three min_three max_four min_four
set_option linter.unusedVariables false
set_option linter.unusedSimpArgs false
mutual
def impl_EventOk.j0:Nat→Bool→Int→List (S98)→Int→Int→Int→Option (Bool)
 | 0,_,_,_,_,_,_=>none
 | k+1,x5,x162000,x162001,x163000,x163001,x163002=>if x163000=1 then (impl_EventOk.j1 k x5 x163000 (x163000==1) x162000 x162001 x163000 x163001 x163002) else (impl_EventOk.j1 k x5 x163000 (x163000==2) x162000 x162001 x163000 x163001 x163002)
def impl_EventOk.j1:Nat→Bool→Int→Bool→Int→List (S98)→Int→Int→Int→Option (Bool)
 | 0,_,_,_,_,_,_,_,_=>none
 | k+1,x5,x21,x22,x162000,x162001,x163000,x163001,x163002=>if x22=true then (if x5=true then (if x163002=1 then (some true) else (some (x163002==(-1)))) else (some false)) else (if x21=3 then (impl_EventOk.j2 k x5 x21 (x21==3) x162000 x162001 x163000 x163001 x163002) else (impl_EventOk.j2 k x5 x21 (x21==4) x162000 x162001 x163000 x163001 x163002))
def impl_EventOk.j2:Nat→Bool→Int→Bool→Int→List (S98)→Int→Int→Int→Option (Bool)
 | 0,_,_,_,_,_,_,_,_=>none
 | k+1,x5,x21,x36,x162000,x162001,x163000,x163001,x163002=>if x36=true then (if x5=true then (some (x163002==0)) else (some false)) else (if x21=5 then (if x163001 ≥ 0 then (if x163001<x162000 then (some (x163002==0)) else (some false)) else (some false)) else (some false))
end
def impl_EventOk.f (k:Nat) (a0_0:Int) (l0_1:List (S98)) (a1_0:Int) (a1_1:Int) (a1_2:Int):Option (Bool):=(impl_LayoutOk.f a0_0 l0_1).bind fun t163=>(if t163=0 then (if a1_1 ≥ 0 then (impl_EventOk.j0 k (decide (a1_1<(l0_1.length:Int))) a0_0 l0_1 a1_0 a1_1 a1_2) else (impl_EventOk.j0 k false a0_0 l0_1 a1_0 a1_1 a1_2)) else (some false))
set_option maxHeartbeats 8000000 in
set_option maxRecDepth 100000 in
theorem impl_EventOk.calls (k:Nat) (a0_0:Int) (A0_1:Option Addr) (c0_1:Nat) (l0_1:List (S98)) (a1_0:Int) (a1_1:Int) (a1_2:Int) (r:Bool) (w:World) (hr0_1:Kd.C k98 w A0_1 l0_1.length l0_1) (hc0_1:l0_1.length≤c0_1) (h:impl_EventOk.f k a0_0 l0_1 a1_0 a1_1 a1_2=some r) :
  Calls Tryd.prog 31 #[.agg #[.int .i64 a0_0,.slice A0_1 l0_1.length c0_1],.agg #[.int .i64 a1_0,.int .i64 a1_1,.int .i64 a1_2]] w fun e w'=>e=.returned (.bool r)∧Below w.heap.size w w':=by
 have hu31:=Tryd.underlying31
 have hu52:=Tryd.underlying52
 have HR0_1:=Aside0.mk hr0_1
 have HC0_1:=Aside0.mk hc0_1
 clear hr0_1 hc0_1
 have HB:=Aside0.mk (Below.refl w.heap.size w)
 have H:((impl_LayoutOk.f a0_0 l0_1).bind fun t163=>(if t163=0 then (if a1_1 ≥ 0 then (impl_EventOk.j0 k (decide (a1_1<(l0_1.length:Int))) a0_0 l0_1 a1_0 a1_1 a1_2) else (impl_EventOk.j0 k false a0_0 l0_1 a1_0 a1_1 a1_2)) else (some false)))=some r:=h
 clear h
 replace H:=Option.bind_eq_some_iff.mp H
 obtain ⟨t163,A30,H⟩:=H
 replace H:(if t163=0 then (if a1_1 ≥ 0 then (impl_EventOk.j0 k (decide (a1_1<(l0_1.length:Int))) a0_0 l0_1 a1_0 a1_1 a1_2) else (impl_EventOk.j0 k false a0_0 l0_1 a1_0 a1_1 a1_2)) else (some false))=some r:=H
 have A3:=Aside0.mk A30
 clear A30
 by_cases c4:t163=0
 ·rw [if_pos c4] at H
  have c4b0:(t163==0)=true:=beq_iff_eq.mpr c4
  have c4b1:(t163 != 0)=false:=bne_eq_false_iff_eq.mpr c4
  clear c4
  have HC5:=Aside0.mk H
  clear H
  go_enter Tryd.func31,Tryd.ntmps31
  go_upto_region 3 with (first|((with_reducible refine gate_dst (N:=2) rfl ?_);(try (refine gate_guard (by rfl) ?_;dsimp only));refine box_event ?hg (N:=2) ?hd (cs:=#[.int .i64 a0_0,.slice A0_1 l0_1.length c0_1]) (t:=31) ?hr ?_;(case hd=>rfl);(case hg=>rfl);(case hr=>first|(go_simp;done)|(go_simp;rfl));intro gb161 hg w6 hbox hb;have n0_:=Aside0.mk (below_step (by exact HB.out) hb);have n1_:=Aside0.mk (hbox);have n2_:=Aside0.mk ((by rw [hg];exact (below_size (by exact HB.out)):w.heap.size≤gb161));have n3_:=Aside0.mk ((by rw [hg];exact (below_size (by exact HB.out)):w.heap.size≤gb161));clear HB;have HB:=n0_;have BK161:=n1_;have GW161:=n2_;have GE161:=n3_;clear n0_ n1_ n2_ n3_;clear hb hbox hg)|((with_reducible refine gate_dst (N:=3) rfl ?_);(try (refine gate_guard (by rfl) ?_;dsimp only));refine box_event ?hg (N:=3) ?hd (cs:=#[.int .i64 a1_0,.int .i64 a1_1,.int .i64 a1_2]) (t:=52) ?hr ?_;(case hd=>rfl);(case hg=>rfl);(case hr=>first|(go_simp;done)|(go_simp;rfl));intro gb162 hg w7 hbox hb;have n0_:=Aside0.mk (blk_below (g:=gb161) (o:=.cells #[.int .i64 a0_0,.slice A0_1 l0_1.length c0_1] 31 (0,0)) (by exact BK161.out) hb);have n1_:=Aside0.mk (below_step (by exact HB.out) hb);have n2_:=Aside0.mk (hbox);have n3_:=Aside0.mk ((by rw [hg];exact (below_size (by exact HB.out)):w.heap.size≤gb162));have n4_:=Aside0.mk ((by rw [hg];exact (below_size (by exact HB.out)):w.heap.size≤gb162));have n5_:=Aside0.mk ((by rw [hg];exact Nat.ne_of_lt (blk_lt (g:=gb161) (o:=.cells #[.int .i64 a0_0,.slice A0_1 l0_1.length c0_1] 31 (0,0)) (by exact BK161.out)):gb161 ≠ gb162));have n6_:=Aside0.mk ((by rw [hg];exact Nat.ne_of_gt (blk_lt (g:=gb161) (o:=.cells #[.int .i64 a0_0,.slice A0_1 l0_1.length c0_1] 31 (0,0)) (by exact BK161.out)):gb162 ≠ gb161));clear BK161;clear HB;have BK161:=n0_;have HB:=n1_;have BK162:=n2_;have GW162:=n3_;have GE162:=n4_;have NB161_162:=n5_;have NB162_161:=n6_;clear n0_ n1_ n2_ n3_ n4_ n5_ n6_;clear hb hbox hg;have hnb8:=NB161_162.out;have hnc8:=NB162_161.out;have hcz9_0:w7.cell? ⟨gb161,0,none⟩=some (.int .i64 a0_0):=(blk_cell BK161.out 0).trans rfl;have hcz9_1:w7.cell? ⟨gb161,1,none⟩=some (.slice A0_1 l0_1.length c0_1):=(blk_cell BK161.out 1).trans rfl;have hfz9_0:=blk_frozen BK161.out 0;have hfz9_1:=blk_frozen BK161.out 1)|((with_reducible refine gate_callee (f:=30) rfl ?_);refine goesL_ (some 7) rfl rfl Tryd.func30 (by kernel_rfl) rfl #[.agg #[.int .i64 a0_0,.slice A0_1 l0_1.length c0_1]] rfl (by (try simp only [List.map_toArray,List.map_cons,List.map_nil]);first|done|rfl|(simp only [List.length_drop,List.length_take];rfl)) ?_;(with_reducible refine (impl_LayoutOk.calls a0_0 _ _ l0_1 t163 _ ?side1 ?side2 A3.out).mono ?_);(case side1=>repeat (first|exact (Kd.C_below HR0_1.out HB.out)|(with_reducible refine Kd.C_alloc ?_ _)|(with_reducible refine Kd.C_drewN ?_ _)|(with_reducible refine Kd.C_drew ?_)));(case side2=>exact HC0_1.out);rintro e w10 ⟨rfl,hb⟩;refine ⟨_,rfl,?_⟩;have n0_:=Aside0.mk (blk_below (g:=gb161) (o:=.cells #[.int .i64 a0_0,.slice A0_1 l0_1.length c0_1] 31 (0,0)) (by exact BK161.out) hb);have n1_:=Aside0.mk (blk_below (g:=gb162) (o:=.cells #[.int .i64 a1_0,.int .i64 a1_1,.int .i64 a1_2] 52 (0,0)) (by exact BK162.out) hb);have n2_:=Aside0.mk (below_step (by exact HB.out) hb);clear BK161;clear BK162;clear HB;have BK161:=n0_;have BK162:=n1_;have HB:=n2_;clear n0_ n1_ n2_;(try clear hb);(try clear hb2);(try clear hk);(try clear hi)))
  (try simp only [Act.put,List.setIfInBounds_toArray,List.set_cons_zero,List.set_cons_succ])
  go_cut [5] (fun v5 wc=>∃ (kq:Nat) (x5_4:Bool),v5=.bool x5_4∧Aside0 (impl_EventOk.j0 kq x5_4 a0_0 l0_1 a1_0 a1_1 a1_2=some r)∧Aside0 (kq≤k)∧Aside0 (wc.heap[gb161]?=some (.cells #[.int .i64 a0_0,(.slice A0_1 l0_1.length c0_1)] 31 (0,0)))∧Aside0 (wc.heap[gb162]?=some (.cells #[.int .i64 a1_0,.int .i64 a1_1,.int .i64 a1_2] 52 (0,0)))∧Aside0 (Below w.heap.size w wc))
  case first =>
   have H:=HC5.out
   clear HC5
   by_cases c11:a1_1 ≥ 0
   ·rw [if_pos c11] at H
    have c11b0:decide (0≤a1_1)=true:=decide_eq_true c11
    clear c11
    (first|rw [c11b0]|(simp only [i64_w,i32_w];rw [c11b0])|skip)
    have H':=Aside0.mk H
    clear H
    have hnb12:=NB162_161.out
    have hnc12:=NB161_162.out
    have hcz13_0:w10.cell? ⟨gb162,0,none⟩=some (.int .i64 a1_0):=(blk_cell BK162.out 0).trans rfl
    have hcz13_1:w10.cell? ⟨gb162,1,none⟩=some (.int .i64 a1_1):=(blk_cell BK162.out 1).trans rfl
    have hcz13_2:w10.cell? ⟨gb162,2,none⟩=some (.int .i64 a1_2):=(blk_cell BK162.out 2).trans rfl
    have hfz13_0:=blk_frozen BK162.out 0
    have hfz13_1:=blk_frozen BK162.out 1
    have hfz13_2:=blk_frozen BK162.out 2
    have hcz14_0:w10.cell? ⟨gb161,0,none⟩=some (.int .i64 a0_0):=(blk_cell BK161.out 0).trans rfl
    have hcz14_1:w10.cell? ⟨gb161,1,none⟩=some (.slice A0_1 l0_1.length c0_1):=(blk_cell BK161.out 1).trans rfl
    have hfz14_0:=blk_frozen BK161.out 0
    have hfz14_1:=blk_frozen BK161.out 1
    go_wp2
    go_meet
    case rel=>exact ⟨_,(decide (a1_1<(l0_1.length:Int))),(by first|rfl|(simp;done)|(simp [*];done)),H',⟨by first|omega|exact Nat.le_refl _⟩,⟨by exact BK161.out⟩,⟨by exact BK162.out⟩,⟨by exact HB.out⟩⟩
   rw [if_neg c11] at H
   have c11b0:decide (0≤a1_1)=false:=decide_eq_false c11
   clear c11
   (first|rw [c11b0]|(simp only [i64_w,i32_w];rw [c11b0])|skip)
   have H':=Aside0.mk H
   clear H
   have hnb15:=NB162_161.out
   have hnc15:=NB161_162.out
   have hcz16_0:w10.cell? ⟨gb162,0,none⟩=some (.int .i64 a1_0):=(blk_cell BK162.out 0).trans rfl
   have hcz16_1:w10.cell? ⟨gb162,1,none⟩=some (.int .i64 a1_1):=(blk_cell BK162.out 1).trans rfl
   have hcz16_2:w10.cell? ⟨gb162,2,none⟩=some (.int .i64 a1_2):=(blk_cell BK162.out 2).trans rfl
   have hfz16_0:=blk_frozen BK162.out 0
   have hfz16_1:=blk_frozen BK162.out 1
   have hfz16_2:=blk_frozen BK162.out 2
   go_wp2
   go_meet
   case rel=>exact ⟨_,(false),(by first|rfl|(simp;done)|(simp [*];done)),H',⟨by first|omega|exact Nat.le_refl _⟩,⟨by exact BK161.out⟩,⟨by exact BK162.out⟩,⟨by exact HB.out⟩⟩
  case rest =>
   clear HC5
   try clear c1
   try clear p2
   try clear c3
   try clear c4
   try clear c4b0
   try clear c4b1
   try clear c8
   try clear c11
   try clear c11b0
   try clear c12
   try clear c15
   try clear hcz13_0
   try clear hcz13_1
   try clear hcz13_2
   try clear hcz14_0
   try clear hcz14_1
   try clear hcz16_0
   try clear hcz16_1
   try clear hcz16_2
   try clear hcz9_0
   try clear hcz9_1
   try clear hfz13_0
   try clear hfz13_1
   try clear hfz13_2
   try clear hfz14_0
   try clear hfz14_1
   try clear hfz16_0
   try clear hfz16_1
   try clear hfz16_2
   try clear hfz9_0
   try clear hfz9_1
   obtain ⟨kq,x5_4,rfl,HA,HJ4,BK161,BK162,HB⟩:=hcut
   cases kq with
   | zero=>exact absurd HA.out (by simp [impl_EventOk.j0])
   | succ kj4 =>
    have H:=HA.out
    clear HA
    simp only [impl_EventOk.j0] at H
    have HC17:=Aside0.mk H
    clear H
    have hnb18:=NB162_161.out
    have hnc18:=NB161_162.out
    have hcz19_0:wc.cell? ⟨gb162,0,none⟩=some (.int .i64 a1_0):=(blk_cell BK162.out 0).trans rfl
    have hcz19_1:wc.cell? ⟨gb162,1,none⟩=some (.int .i64 a1_1):=(blk_cell BK162.out 1).trans rfl
    have hcz19_2:wc.cell? ⟨gb162,2,none⟩=some (.int .i64 a1_2):=(blk_cell BK162.out 2).trans rfl
    have hfz19_0:=blk_frozen BK162.out 0
    have hfz19_1:=blk_frozen BK162.out 1
    have hfz19_2:=blk_frozen BK162.out 2
    go_upto_if 22 with (fail)
    go_cut [22] (fun v22 wc=>∃ (kq:Nat) (x22_16:Bool),v22=.bool x22_16∧Aside0 (impl_EventOk.j1 kq x5_4 a1_0 x22_16 a0_0 l0_1 a1_0 a1_1 a1_2=some r)∧Aside0 (kq≤kj4)∧Aside0 (wc.heap[gb161]?=some (.cells #[.int .i64 a0_0,(.slice A0_1 l0_1.length c0_1)] 31 (0,0)))∧Aside0 (wc.heap[gb162]?=some (.cells #[.int .i64 a1_0,.int .i64 a1_1,.int .i64 a1_2] 52 (0,0)))∧Aside0 (Below w.heap.size w wc))
    case first =>
     have H:=HC17.out
     clear HC17
     by_cases c20:a1_0=1
     ·rw [if_pos c20] at H
      have c20b0:(a1_0==1)=true:=beq_iff_eq.mpr c20
      have c20b1:(a1_0 != 1)=false:=bne_eq_false_iff_eq.mpr c20
      clear c20
      (first|rw [c20b0]|(simp only [i64_w,i32_w];rw [c20b0])|skip)
      have H':=Aside0.mk H
      clear H
      go_wp2
      go_meet
      case rel=>exact ⟨_,((a1_0==1)),(by first|rfl|(simp;done)|(simp [*];done)),H',⟨by have:=HJ4.out;first|omega|exact Nat.le_refl _⟩,⟨by exact BK161.out⟩,⟨by exact BK162.out⟩,⟨by exact HB.out⟩⟩
     rw [if_neg c20] at H
     have c20b0:(a1_0==1)=false:=beq_eq_false_iff_ne.mpr c20
     have c20b1:(a1_0 != 1)=true:=bne_iff_ne.mpr c20
     (first|rw [c20b0]|(simp only [i64_w,i32_w];rw [c20b0])|skip)
     have H':=Aside0.mk H
     clear H
     go_wp2
     go_meet
     case rel=>exact ⟨_,((a1_0==2)),(by first|rfl|(simp;done)|(simp [*];done)),H',⟨by have:=HJ4.out;first|omega|exact Nat.le_refl _⟩,⟨by exact BK161.out⟩,⟨by exact BK162.out⟩,⟨by exact HB.out⟩⟩
    case rest =>
     clear HC17
     try clear c1
     try clear c2
     try clear p2
     try clear c3
     try clear c4
     try clear c4b0
     try clear c4b1
     try clear c8
     try clear c11
     try clear c11b0
     try clear c12
     try clear c15
     try clear c18
     try clear c20
     try clear c20b0
     try clear c20b1
     try clear hcz13_0
     try clear hcz13_1
     try clear hcz13_2
     try clear hcz14_0
     try clear hcz14_1
     try clear hcz16_0
     try clear hcz16_1
     try clear hcz16_2
     try clear hcz19_0
     try clear hcz19_1
     try clear hcz19_2
     try clear hcz9_0
     try clear hcz9_1
     try clear hfz13_0
     try clear hfz13_1
     try clear hfz13_2
     try clear hfz14_0
     try clear hfz14_1
     try clear hfz16_0
     try clear hfz16_1
     try clear hfz16_2
     try clear hfz19_0
     try clear hfz19_1
     try clear hfz19_2
     try clear hfz9_0
     try clear hfz9_1
     try clear p2
     obtain ⟨kq,x22_16,rfl,HA,HJ16,BK161,BK162,HB⟩:=hcut
     cases kq with
     | zero=>exact absurd HA.out (by simp [impl_EventOk.j1])
     | succ kj16 =>
      have H:=HA.out
      clear HA
      simp only [impl_EventOk.j1] at H
      by_cases c21:x22_16=true
      ·subst c21
       have H1:(if x5_4=true then (if a1_2=1 then (some true) else (some (a1_2==(-1)))) else (some false))=some r:=by rw [if_pos rfl] at H;exact H
       clear H
       have H:=H1
       clear H1
       by_cases c22:x5_4=true
       ·subst c22
        have H1:(if a1_2=1 then (some true) else (some (a1_2==(-1))))=some r:=by rw [if_pos rfl] at H;exact H
        clear H
        have H:=H1
        clear H1
        by_cases c23:a1_2=1
        ·rw [if_pos c23] at H
         have c23b0:(a1_2==1)=true:=beq_iff_eq.mpr c23
         have c23b1:(a1_2 != 1)=false:=bne_eq_false_iff_eq.mpr c23
         clear c23
         obtain rfl:=Option.some.inj H
         have hnb24:=NB162_161.out
         have hnc24:=NB161_162.out
         have hcz25_0:wc.cell? ⟨gb162,0,none⟩=some (.int .i64 a1_0):=(blk_cell BK162.out 0).trans rfl
         have hcz25_1:wc.cell? ⟨gb162,1,none⟩=some (.int .i64 a1_1):=(blk_cell BK162.out 1).trans rfl
         have hcz25_2:wc.cell? ⟨gb162,2,none⟩=some (.int .i64 a1_2):=(blk_cell BK162.out 2).trans rfl
         have hfz25_0:=blk_frozen BK162.out 0
         have hfz25_1:=blk_frozen BK162.out 1
         have hfz25_2:=blk_frozen BK162.out 2
         go_wp2
         go_ret
         exact ⟨by first|rfl|(simp [errW_none,errW_some] <;> rfl)|(simp [*,errW_none,errW_some] <;> rfl),by exact HB.out⟩
        rw [if_neg c23] at H
        have c23b0:(a1_2==1)=false:=beq_eq_false_iff_ne.mpr c23
        have c23b1:(a1_2 != 1)=true:=bne_iff_ne.mpr c23
        obtain rfl:=Option.some.inj H
        have hnb26:=NB162_161.out
        have hnc26:=NB161_162.out
        have hcz27_0:wc.cell? ⟨gb162,0,none⟩=some (.int .i64 a1_0):=(blk_cell BK162.out 0).trans rfl
        have hcz27_1:wc.cell? ⟨gb162,1,none⟩=some (.int .i64 a1_1):=(blk_cell BK162.out 1).trans rfl
        have hcz27_2:wc.cell? ⟨gb162,2,none⟩=some (.int .i64 a1_2):=(blk_cell BK162.out 2).trans rfl
        have hfz27_0:=blk_frozen BK162.out 0
        have hfz27_1:=blk_frozen BK162.out 1
        have hfz27_2:=blk_frozen BK162.out 2
        go_wp2
        go_ret
        exact ⟨by first|rfl|(simp [errW_none,errW_some] <;> rfl)|(simp [*,errW_none,errW_some] <;> rfl),by exact HB.out⟩
       replace c22:=Bool.eq_false_iff.mpr c22
       subst c22
       have H1:(some false)=some r:=by rw [if_neg (show ¬ (false=true) by decide)] at H;exact H
       clear H
       have H:=H1
       clear H1
       obtain rfl:=Option.some.inj H
       go_wp2
       go_ret
       exact ⟨by first|rfl|(simp [errW_none,errW_some] <;> rfl)|(simp [*,errW_none,errW_some] <;> rfl),by exact HB.out⟩
      replace c21:=Bool.eq_false_iff.mpr c21
      subst c21
      have H1:(if a1_0=3 then (impl_EventOk.j2 kj16 x5_4 a1_0 (a1_0==3) a0_0 l0_1 a1_0 a1_1 a1_2) else (impl_EventOk.j2 kj16 x5_4 a1_0 (a1_0==4) a0_0 l0_1 a1_0 a1_1 a1_2))=some r:=by rw [if_neg (show ¬ (false=true) by decide)] at H;exact H
      clear H
      have H:=H1
      clear H1
      have HC28:=Aside0.mk H
      clear H
      go_upto_if 36 with (fail)
      go_cut [36] (fun v36 wc=>∃ (kq:Nat) (x36_27:Bool),v36=.bool x36_27∧Aside0 (impl_EventOk.j2 kq x5_4 a1_0 x36_27 a0_0 l0_1 a1_0 a1_1 a1_2=some r)∧Aside0 (kq≤kj16)∧Aside0 (wc.heap[gb161]?=some (.cells #[.int .i64 a0_0,(.slice A0_1 l0_1.length c0_1)] 31 (0,0)))∧Aside0 (wc.heap[gb162]?=some (.cells #[.int .i64 a1_0,.int .i64 a1_1,.int .i64 a1_2] 52 (0,0)))∧Aside0 (Below w.heap.size w wc))
      case first =>
       have H:=HC28.out
       clear HC28
       by_cases c29:a1_0=3
       ·rw [if_pos c29] at H
        have c29b0:(a1_0==3)=true:=beq_iff_eq.mpr c29
        have c29b1:(a1_0 != 3)=false:=bne_eq_false_iff_eq.mpr c29
        clear c29
        (first|rw [c29b0]|(simp only [i64_w,i32_w];rw [c29b0])|skip)
        have H':=Aside0.mk H
        clear H
        go_wp2
        go_meet
        case rel=>exact ⟨_,((a1_0==3)),(by first|rfl|(simp;done)|(simp [*];done)),H',⟨by have:=HJ4.out;have:=HJ16.out;first|omega|exact Nat.le_refl _⟩,⟨by exact BK161.out⟩,⟨by exact BK162.out⟩,⟨by exact HB.out⟩⟩
       rw [if_neg c29] at H
       have c29b0:(a1_0==3)=false:=beq_eq_false_iff_ne.mpr c29
       have c29b1:(a1_0 != 3)=true:=bne_iff_ne.mpr c29
       (first|rw [c29b0]|(simp only [i64_w,i32_w];rw [c29b0])|skip)
       have H':=Aside0.mk H
       clear H
       go_wp2
       go_meet
       case rel=>exact ⟨_,((a1_0==4)),(by first|rfl|(simp;done)|(simp [*];done)),H',⟨by have:=HJ4.out;have:=HJ16.out;first|omega|exact Nat.le_refl _⟩,⟨by exact BK161.out⟩,⟨by exact BK162.out⟩,⟨by exact HB.out⟩⟩
      case rest =>
       clear HC28
       try clear c1
       try clear c2
       try clear p2
       try clear c3
       try clear c4
       try clear c4b0
       try clear c4b1
       try clear c8
       try clear c11
       try clear c11b0
       try clear c12
       try clear c15
       try clear c18
       try clear c20
       try clear c20b0
       try clear c20b1
       try clear c21
       try clear c22
       try clear c23
       try clear c23b0
       try clear c23b1
       try clear c24
       try clear c26
       try clear c29
       try clear c29b0
       try clear c29b1
       try clear hcz13_0
       try clear hcz13_1
       try clear hcz13_2
       try clear hcz14_0
       try clear hcz14_1
       try clear hcz16_0
       try clear hcz16_1
       try clear hcz16_2
       try clear hcz19_0
       try clear hcz19_1
       try clear hcz19_2
       try clear hcz25_0
       try clear hcz25_1
       try clear hcz25_2
       try clear hcz27_0
       try clear hcz27_1
       try clear hcz27_2
       try clear hcz9_0
       try clear hcz9_1
       try clear hfz13_0
       try clear hfz13_1
       try clear hfz13_2
       try clear hfz14_0
       try clear hfz14_1
       try clear hfz16_0
       try clear hfz16_1
       try clear hfz16_2
       try clear hfz19_0
       try clear hfz19_1
       try clear hfz19_2
       try clear hfz25_0
       try clear hfz25_1
       try clear hfz25_2
       try clear hfz27_0
       try clear hfz27_1
       try clear hfz27_2
       try clear hfz9_0
       try clear hfz9_1
       try clear p2
       obtain ⟨kq,x36_27,rfl,HA,HJ27,BK161,BK162,HB⟩:=hcut
       cases kq with
       | zero=>exact absurd HA.out (by simp [impl_EventOk.j2])
       | succ kj27 =>
        have H:=HA.out
        clear HA
        simp only [impl_EventOk.j2] at H
        by_cases c30:x36_27=true
        ·subst c30
         have H1:(if x5_4=true then (some (a1_2==0)) else (some false))=some r:=by rw [if_pos rfl] at H;exact H
         clear H
         have H:=H1
         clear H1
         by_cases c31:x5_4=true
         ·subst c31
          have H1:(some (a1_2==0))=some r:=by rw [if_pos rfl] at H;exact H
          clear H
          have H:=H1
          clear H1
          obtain rfl:=Option.some.inj H
          have hnb32:=NB162_161.out
          have hnc32:=NB161_162.out
          have hcz33_0:wc.cell? ⟨gb162,0,none⟩=some (.int .i64 a1_0):=(blk_cell BK162.out 0).trans rfl
          have hcz33_1:wc.cell? ⟨gb162,1,none⟩=some (.int .i64 a1_1):=(blk_cell BK162.out 1).trans rfl
          have hcz33_2:wc.cell? ⟨gb162,2,none⟩=some (.int .i64 a1_2):=(blk_cell BK162.out 2).trans rfl
          have hfz33_0:=blk_frozen BK162.out 0
          have hfz33_1:=blk_frozen BK162.out 1
          have hfz33_2:=blk_frozen BK162.out 2
          go_wp2
          go_ret
          exact ⟨by first|rfl|(simp [errW_none,errW_some] <;> rfl)|(simp [*,errW_none,errW_some] <;> rfl),by exact HB.out⟩
         replace c31:=Bool.eq_false_iff.mpr c31
         subst c31
         have H1:(some false)=some r:=by rw [if_neg (show ¬ (false=true) by decide)] at H;exact H
         clear H
         have H:=H1
         clear H1
         obtain rfl:=Option.some.inj H
         go_wp2
         go_ret
         exact ⟨by first|rfl|(simp [errW_none,errW_some] <;> rfl)|(simp [*,errW_none,errW_some] <;> rfl),by exact HB.out⟩
        replace c30:=Bool.eq_false_iff.mpr c30
        subst c30
        have H1:(if a1_0=5 then (if a1_1 ≥ 0 then (if a1_1<a0_0 then (some (a1_2==0)) else (some false)) else (some false)) else (some false))=some r:=by rw [if_neg (show ¬ (false=true) by decide)] at H;exact H
        clear H
        have H:=H1
        clear H1
        by_cases c34:a1_0=5
        ·rw [if_pos c34] at H
         have c34b0:(a1_0==5)=true:=beq_iff_eq.mpr c34
         have c34b1:(a1_0 != 5)=false:=bne_eq_false_iff_eq.mpr c34
         clear c34
         by_cases c35:a1_1 ≥ 0
         ·rw [if_pos c35] at H
          have c35b0:decide (0≤a1_1)=true:=decide_eq_true c35
          clear c35
          by_cases c36:a1_1<a0_0
          ·rw [if_pos c36] at H
           have c36b0:decide (a1_1<a0_0)=true:=decide_eq_true c36
           clear c36
           obtain rfl:=Option.some.inj H
           have hnb37:=NB162_161.out
           have hnc37:=NB161_162.out
           have hcz38_0:wc.cell? ⟨gb162,0,none⟩=some (.int .i64 a1_0):=(blk_cell BK162.out 0).trans rfl
           have hcz38_1:wc.cell? ⟨gb162,1,none⟩=some (.int .i64 a1_1):=(blk_cell BK162.out 1).trans rfl
           have hcz38_2:wc.cell? ⟨gb162,2,none⟩=some (.int .i64 a1_2):=(blk_cell BK162.out 2).trans rfl
           have hfz38_0:=blk_frozen BK162.out 0
           have hfz38_1:=blk_frozen BK162.out 1
           have hfz38_2:=blk_frozen BK162.out 2
           have hcz39_0:wc.cell? ⟨gb161,0,none⟩=some (.int .i64 a0_0):=(blk_cell BK161.out 0).trans rfl
           have hcz39_1:wc.cell? ⟨gb161,1,none⟩=some (.slice A0_1 l0_1.length c0_1):=(blk_cell BK161.out 1).trans rfl
           have hfz39_0:=blk_frozen BK161.out 0
           have hfz39_1:=blk_frozen BK161.out 1
           go_wp2
           go_ret
           exact ⟨by first|rfl|(simp [errW_none,errW_some] <;> rfl)|(simp [*,errW_none,errW_some] <;> rfl),by exact HB.out⟩
          rw [if_neg c36] at H
          have c36b0:decide (a1_1<a0_0)=false:=decide_eq_false c36
          clear c36
          obtain rfl:=Option.some.inj H
          have hnb40:=NB162_161.out
          have hnc40:=NB161_162.out
          have hcz41_0:wc.cell? ⟨gb162,0,none⟩=some (.int .i64 a1_0):=(blk_cell BK162.out 0).trans rfl
          have hcz41_1:wc.cell? ⟨gb162,1,none⟩=some (.int .i64 a1_1):=(blk_cell BK162.out 1).trans rfl
          have hcz41_2:wc.cell? ⟨gb162,2,none⟩=some (.int .i64 a1_2):=(blk_cell BK162.out 2).trans rfl
          have hfz41_0:=blk_frozen BK162.out 0
          have hfz41_1:=blk_frozen BK162.out 1
          have hfz41_2:=blk_frozen BK162.out 2
          have hcz42_0:wc.cell? ⟨gb161,0,none⟩=some (.int .i64 a0_0):=(blk_cell BK161.out 0).trans rfl
          have hcz42_1:wc.cell? ⟨gb161,1,none⟩=some (.slice A0_1 l0_1.length c0_1):=(blk_cell BK161.out 1).trans rfl
          have hfz42_0:=blk_frozen BK161.out 0
          have hfz42_1:=blk_frozen BK161.out 1
          go_wp2
          go_ret
          exact ⟨by first|rfl|(simp [errW_none,errW_some] <;> rfl)|(simp [*,errW_none,errW_some] <;> rfl),by exact HB.out⟩
         rw [if_neg c35] at H
         have c35b0:decide (0≤a1_1)=false:=decide_eq_false c35
         clear c35
         obtain rfl:=Option.some.inj H
         have hnb43:=NB162_161.out
         have hnc43:=NB161_162.out
         have hcz44_0:wc.cell? ⟨gb162,0,none⟩=some (.int .i64 a1_0):=(blk_cell BK162.out 0).trans rfl
         have hcz44_1:wc.cell? ⟨gb162,1,none⟩=some (.int .i64 a1_1):=(blk_cell BK162.out 1).trans rfl
         have hcz44_2:wc.cell? ⟨gb162,2,none⟩=some (.int .i64 a1_2):=(blk_cell BK162.out 2).trans rfl
         have hfz44_0:=blk_frozen BK162.out 0
         have hfz44_1:=blk_frozen BK162.out 1
         have hfz44_2:=blk_frozen BK162.out 2
         go_wp2
         go_ret
         exact ⟨by first|rfl|(simp [errW_none,errW_some] <;> rfl)|(simp [*,errW_none,errW_some] <;> rfl),by exact HB.out⟩
        rw [if_neg c34] at H
        have c34b0:(a1_0==5)=false:=beq_eq_false_iff_ne.mpr c34
        have c34b1:(a1_0 != 5)=true:=bne_iff_ne.mpr c34
        obtain rfl:=Option.some.inj H
        go_wp2
        go_ret
        exact ⟨by first|rfl|(simp [errW_none,errW_some] <;> rfl)|(simp [*,errW_none,errW_some] <;> rfl),by exact HB.out⟩
 rw [if_neg c4] at H
 have c4b0:(t163==0)=false:=beq_eq_false_iff_ne.mpr c4
 have c4b1:(t163 != 0)=true:=bne_iff_ne.mpr c4
 obtain rfl:=Option.some.inj H
 go_enter Tryd.func31,Tryd.ntmps31
 go_wp2_with (first|((with_reducible refine gate_dst (N:=2) rfl ?_);(try (refine gate_guard (by rfl) ?_;dsimp only));refine box_event ?hg (N:=2) ?hd (cs:=#[.int .i64 a0_0,.slice A0_1 l0_1.length c0_1]) (t:=31) ?hr ?_;(case hd=>rfl);(case hg=>rfl);(case hr=>first|(go_simp;done)|(go_simp;rfl));intro gb161 hg w45 hbox hb;have n0_:=Aside0.mk (below_step (by exact HB.out) hb);have n1_:=Aside0.mk (hbox);have n2_:=Aside0.mk ((by rw [hg];exact (below_size (by exact HB.out)):w.heap.size≤gb161));have n3_:=Aside0.mk ((by rw [hg];exact (below_size (by exact HB.out)):w.heap.size≤gb161));clear HB;have HB:=n0_;have BK161:=n1_;have GW161:=n2_;have GE161:=n3_;clear n0_ n1_ n2_ n3_;clear hb hbox hg)|((with_reducible refine gate_dst (N:=3) rfl ?_);(try (refine gate_guard (by rfl) ?_;dsimp only));refine box_event ?hg (N:=3) ?hd (cs:=#[.int .i64 a1_0,.int .i64 a1_1,.int .i64 a1_2]) (t:=52) ?hr ?_;(case hd=>rfl);(case hg=>rfl);(case hr=>first|(go_simp;done)|(go_simp;rfl));intro gb162 hg w46 hbox hb;have n0_:=Aside0.mk (blk_below (g:=gb161) (o:=.cells #[.int .i64 a0_0,.slice A0_1 l0_1.length c0_1] 31 (0,0)) (by exact BK161.out) hb);have n1_:=Aside0.mk (below_step (by exact HB.out) hb);have n2_:=Aside0.mk (hbox);have n3_:=Aside0.mk ((by rw [hg];exact (below_size (by exact HB.out)):w.heap.size≤gb162));have n4_:=Aside0.mk ((by rw [hg];exact (below_size (by exact HB.out)):w.heap.size≤gb162));have n5_:=Aside0.mk ((by rw [hg];exact Nat.ne_of_lt (blk_lt (g:=gb161) (o:=.cells #[.int .i64 a0_0,.slice A0_1 l0_1.length c0_1] 31 (0,0)) (by exact BK161.out)):gb161 ≠ gb162));have n6_:=Aside0.mk ((by rw [hg];exact Nat.ne_of_gt (blk_lt (g:=gb161) (o:=.cells #[.int .i64 a0_0,.slice A0_1 l0_1.length c0_1] 31 (0,0)) (by exact BK161.out)):gb162 ≠ gb161));clear BK161;clear HB;have BK161:=n0_;have HB:=n1_;have BK162:=n2_;have GW162:=n3_;have GE162:=n4_;have NB161_162:=n5_;have NB162_161:=n6_;clear n0_ n1_ n2_ n3_ n4_ n5_ n6_;clear hb hbox hg;have hnb47:=NB161_162.out;have hnc47:=NB162_161.out;have hcz48_0:w46.cell? ⟨gb161,0,none⟩=some (.int .i64 a0_0):=(blk_cell BK161.out 0).trans rfl;have hcz48_1:w46.cell? ⟨gb161,1,none⟩=some (.slice A0_1 l0_1.length c0_1):=(blk_cell BK161.out 1).trans rfl;have hfz48_0:=blk_frozen BK161.out 0;have hfz48_1:=blk_frozen BK161.out 1)|((with_reducible refine gate_callee (f:=30) rfl ?_);refine goesL_ (some 7) rfl rfl Tryd.func30 (by kernel_rfl) rfl #[.agg #[.int .i64 a0_0,.slice A0_1 l0_1.length c0_1]] rfl (by (try simp only [List.map_toArray,List.map_cons,List.map_nil]);first|done|rfl|(simp only [List.length_drop,List.length_take];rfl)) ?_;(with_reducible refine (impl_LayoutOk.calls a0_0 _ _ l0_1 t163 _ ?side1 ?side2 A3.out).mono ?_);(case side1=>repeat (first|exact (Kd.C_below HR0_1.out HB.out)|(with_reducible refine Kd.C_alloc ?_ _)|(with_reducible refine Kd.C_drewN ?_ _)|(with_reducible refine Kd.C_drew ?_)));(case side2=>exact HC0_1.out);rintro e w49 ⟨rfl,hb⟩;refine ⟨_,rfl,?_⟩;have n0_:=Aside0.mk (blk_below (g:=gb161) (o:=.cells #[.int .i64 a0_0,.slice A0_1 l0_1.length c0_1] 31 (0,0)) (by exact BK161.out) hb);have n1_:=Aside0.mk (blk_below (g:=gb162) (o:=.cells #[.int .i64 a1_0,.int .i64 a1_1,.int .i64 a1_2] 52 (0,0)) (by exact BK162.out) hb);have n2_:=Aside0.mk (below_step (by exact HB.out) hb);clear BK161;clear BK162;clear HB;have BK161:=n0_;have BK162:=n1_;have HB:=n2_;clear n0_ n1_ n2_;(try clear hb);(try clear hb2);(try clear hk);(try clear hi)))
 go_ret
 exact ⟨by first|rfl|(simp [errW_none,errW_some] <;> rfl)|(simp [*,errW_none,errW_some] <;> rfl),by exact HB.out⟩
end Go.Proofs.YtpdnabhpkdchjaaDoor.P
namespace Go.Proofs.YtpdnabhpkdchjaaDoor.P
open Go.RowKit Go.Proofs.YtpdnabhpkdchjaaDoorW.PrintWords Go.Proofs.YtpdnabhpkdchjaaDoorW.PrintLast
set_option linter.unusedVariables false
set_option linter.unusedSimpArgs false
def eventOk (n:Int) (l:List S98) (op of dir:Int):Bool :=
 if layoutOk n l=0 then
  if op=1 ∨ op=2 then decide (0≤of) && decide (of<l.length) && (decide (dir=1) || decide (dir=-1))
  else if op=3 ∨ op=4 then decide (0≤of) && decide (of<l.length) && decide (dir=0)
  else if op=5 then decide (0≤of) && decide (of<n) && decide (dir=0)
  else false
 else false
theorem beq_dec (a b:Int):(a==b)=decide (a=b):=by by_cases h:a=b <;> simp [h]
theorem lay_n {n:Int} {l:List S98} (h:layoutOk n l=0):1≤n∧n≤60∧l.length≤120:=by
 unfold layoutOk at h
 split at h
 ·cases h
 split at h
 ·cases h
 split at h
 ·cases h
 omega
theorem dec_le_pred (a b:Int):decide (a≤b - 1)=decide (a<b):=by
 by_cases h:a<b
 ·rw [decide_eq_true h,decide_eq_true (by omega)]
 rw [decide_eq_false h,decide_eq_false (by omega)]
theorem specEventOk_ev (n:Int) (l:List S98) (op of dir:Int):Ev (fun k=>spec_EventOk.f k n l op of dir) (eventOk n l op of dir):=by
 unfold spec_EventOk.f
 refine Ev.bind (specLayoutOk_ev n l) ?_
 by_cases hl:layoutOk n l=0
 ·refine Ev.ite_pos hl ?_
  obtain ⟨hn1,hn2,hc⟩:=lay_n hl
  have w1:wrap64 ((l.length:Int) - 1)=l.length - 1:=wrap_id (by omega) (by omega)
  have w2:wrap64 (n - 1)=n - 1:=wrap_id (by omega) (by omega)
  have key:∀ b:Bool,(b=true ↔ (op=1 ∨ op=2))→Ev (fun k=>spec_EventOk.j0 k op b n l op of dir) (eventOk n l op of dir):=by
   intro b hb
   by_cases h12:op=1 ∨ op=2
   ·refine Ev.step1 fun k=>?_
    simp only [spec_EventOk.j0,l1in_eq,Option.bind_some,w1,w2,dec_le_pred]
    rw [if_pos (hb.2 h12),eventOk,if_pos hl,if_pos h12]
    by_cases hr:(decide (0≤of) && decide (of<l.length))=true
    ·rw [if_pos hr,hr]
     by_cases hd:dir=1
     ·simp [hd]
     rw [if_neg hd];simp [hd,beq_dec]
    have hr':(decide (0≤of) && decide (of<l.length))=false:=by simpa using hr
    rw [if_neg hr,hr'];rfl
   have key2:∀ b2:Bool,(b2=true ↔ (op=3 ∨ op=4))→Ev (fun k=>spec_EventOk.j1 k op b2 n l op of dir) (eventOk n l op of dir):=by
    intro b2 hb2
    refine Ev.step1 fun k=>?_
    simp only [spec_EventOk.j1,l1in_eq,Option.bind_some,w1,w2,dec_le_pred]
    rw [eventOk,if_pos hl,if_neg h12]
    by_cases h34:op=3 ∨ op=4
    ·rw [if_pos (hb2.2 h34),if_pos h34]
     by_cases hr:(decide (0≤of) && decide (of<l.length))=true
     ·rw [if_pos hr,hr];simp [beq_dec]
     have hr':(decide (0≤of) && decide (of<l.length))=false:=by simpa using hr
     rw [if_neg hr,hr'];rfl
    rw [if_neg (fun h=>h34 (hb2.1 h)),if_neg h34]
    by_cases h5:op=5
    ·rw [if_pos h5,if_pos h5]
     by_cases hr:(decide (0≤of) && decide (of<n))=true
     ·rw [if_pos hr,hr];simp [beq_dec]
     have hr':(decide (0≤of) && decide (of<n))=false:=by simpa using hr
     rw [if_neg hr,hr'];rfl
    rw [if_neg h5,if_neg h5]
   by_cases h3:op=3
   ·refine Ev.step (fun k=>?_) (key2 (op==3) (by simp [h3]))
    simp only [spec_EventOk.j0]
    rw [if_neg (fun h=>h12 (hb.1 h)),if_pos h3]
   refine Ev.step (fun k=>?_) (key2 (op==4) (by simp [h3]))
   simp only [spec_EventOk.j0]
   rw [if_neg (fun h=>h12 (hb.1 h)),if_neg h3]
  by_cases h1:op=1
  ·exact Ev.ite_pos h1 (key _ (by simp [h1]))
  exact Ev.ite_neg h1 (key _ (by simp [h1]))
 refine Ev.ite_neg hl ?_
 rw [eventOk,if_neg hl]
 exact Ev.now _
theorem implEventOk_ev (n:Int) (l:List S98) (op of dir:Int):Ev (fun k=>impl_EventOk.f k n l op of dir) (eventOk n l op of dir):=by
 unfold impl_EventOk.f
 refine Ev.call (a:=layoutOk n l) rfl ?_
 by_cases hl:layoutOk n l=0
 ·refine Ev.ite_pos hl ?_
  have key:∀ b:Bool,b=(decide (0≤of) && decide (of<l.length))→Ev (fun k=>impl_EventOk.j0 k b n l op of dir) (eventOk n l op of dir):=by
   intro b hb
   have k1:∀ b1:Bool,(b1=true ↔ (op=1 ∨ op=2))→Ev (fun k=>impl_EventOk.j1 k b op b1 n l op of dir) (eventOk n l op of dir):=by
    intro b1 hb1
    by_cases h12:op=1 ∨ op=2
    ·refine Ev.step1 fun k=>?_
     simp only [impl_EventOk.j1]
     rw [if_pos (hb1.2 h12),eventOk,if_pos hl,if_pos h12,← hb]
     cases b with
     | true =>
      by_cases hd:dir=1
      ·simp [hd]
      simp [hd,beq_dec]
     | false=>rfl
    have k2:∀ b2:Bool,(b2=true ↔ (op=3 ∨ op=4))→Ev (fun k=>impl_EventOk.j2 k b op b2 n l op of dir) (eventOk n l op of dir):=by
     intro b2 hb2
     refine Ev.step1 fun k=>?_
     simp only [impl_EventOk.j2]
     rw [eventOk,if_pos hl,if_neg h12,← hb]
     by_cases h34:op=3 ∨ op=4
     ·rw [if_pos (hb2.2 h34),if_pos h34]
      cases b <;> simp [beq_dec]
     rw [if_neg (fun h=>h34 (hb2.1 h)),if_neg h34]
     by_cases h5:op=5
     ·rw [if_pos h5,if_pos h5]
      by_cases h0:of ≥ 0
      ·rw [if_pos h0]
       by_cases h6:of<n
       ·rw [if_pos h6];simp [beq_dec,h6,h0]
       rw [if_neg h6];simp [h6]
      rw [if_neg h0];simp [show ¬ 0≤of from h0]
     rw [if_neg h5,if_neg h5]
    by_cases h3:op=3
    ·refine Ev.step (fun k=>?_) (k2 (op==3) (by simp [h3]))
     simp only [impl_EventOk.j1]
     rw [if_neg (fun h=>h12 (hb1.1 h)),if_pos h3]
    refine Ev.step (fun k=>?_) (k2 (op==4) (by simp [h3]))
    simp only [impl_EventOk.j1]
    rw [if_neg (fun h=>h12 (hb1.1 h)),if_neg h3]
   by_cases h1:op=1
   ·refine Ev.step (fun k=>?_) (k1 (op==1) (by simp [h1]))
    simp only [impl_EventOk.j0]
    rw [if_pos h1]
   refine Ev.step (fun k=>?_) (k1 (op==2) (by simp [h1]))
   simp only [impl_EventOk.j0]
   rw [if_neg h1]
  by_cases h0:of ≥ 0
  ·exact Ev.ite_pos h0 (key _ (by simp [show (0:Int)≤of from h0]))
  exact Ev.ite_neg h0 (key _ (by simp [show ¬ (0:Int)≤of from h0]))
 refine Ev.ite_neg hl ?_
 rw [eventOk,if_neg hl]
 exact Ev.now _
end Go.Proofs.YtpdnabhpkdchjaaDoor.P
namespace Go.Proofs.YtpdnabhpkdchjaaDoor.P
open Go Go.RowKit Go.Proofs.YtpdnabhpkdchjaaDoorW.PrintWords Go.Proofs.YtpdnabhpkdchjaaDoorW.PrintLast
set_option linter.unusedVariables false
set_option linter.unusedSimpArgs false
def evB (e:S52):List UInt8:=lineB e.f0 e.f1 e.f2
def textB (es:List S52):List UInt8:=(es.map evB).flatten
def evsOk (n:Int) (l:List S98) (es:List S52):Bool:=es.all (fun e=>eventOk n l e.f0 e.f1 e.f2)
def writeE (n:Int) (l:List S98) (es:List S52):List UInt8:=if layoutOk n l=0∧es.length≤2000∧evsOk n l es=true∧(textB es).length≤20000 then textB es else []
theorem textB_snoc (es:List S52) (i:Nat) (h:i<es.length):textB (es.take (i+1))=textB (es.take i) ++ evB es[i]:=by
 rw [textB,List.take_succ_eq_append_getElem h,List.map_append,List.flatten_append]
 simp [textB]
theorem ev_parts {n:Int} {l:List S98} {op of dir:Int} (h:eventOk n l op of dir=true):layoutOk n l=0∧(1≤op∧op≤5)∧(0≤of∧of≤119)∧(-1≤dir∧dir≤1)∧((op=1 ∨ op=2)∧(dir=1 ∨ dir=-1) ∨ (op=3 ∨ op=4 ∨ op=5)∧dir=0):=by
 unfold eventOk at h
 split at h
 ·rename_i hl
  have hn:=lay_n hl
  split at h
  ·simp at h;omega
  split at h
  ·simp at h;omega
  split at h
  ·simp at h;omega
  cases h
 cases h
theorem evB_len {n:Int} {l:List S98} {e:S52} (h:eventOk n l e.f0 e.f1 e.f2=true):(evB e).length≤130:=by
 have hp:=ev_parts h
 have h1:=word_len e.f0.toNat
 have h2:=digits_len e.f1.toNat
 have h3:(dirB e.f2).length≤2:=by unfold dirB;split <;> (try split) <;> simp
 unfold evB lineB
 simp only [List.length_append,List.length_singleton]
 omega
theorem textB_len {n:Int} {l:List S98}:∀ {es:List S52},evsOk n l es=true→(textB es).length≤es.length * 130
 | [],_=>by simp [textB]
 | e :: es,h=>by
  rw [evsOk,List.all_cons,Bool.and_eq_true] at h
  have h1:=evB_len h.1
  have h2:=textB_len (es:=es) h.2
  have e1:textB (e :: es)=evB e ++ textB es:=by simp [textB]
  rw [e1,List.length_append,List.length_cons]
  omega
theorem evsOk_take {n:Int} {l:List S98} {es:List S52} (i:Nat) (h:i<es.length):evsOk n l (es.take (i+1))=(evsOk n l (es.take i) && eventOk n l es[i].f0 es[i].f1 es[i].f2):=by
 rw [evsOk,List.take_succ_eq_append_getElem h,List.all_append]
 simp [evsOk]
theorem rd52 (l:List S52) (i:Nat) (h:i<l.length):rd_T52 l (i:Int)=l[i]:=by simp [rd_T52,h]
end Go.Proofs.YtpdnabhpkdchjaaDoor.P
namespace Go.Proofs.YtpdnabhpkdchjaaDoor.P
open Go.RowKit Go.Proofs.YtpdnabhpkdchjaaDoorW.PrintWords Go.Proofs.YtpdnabhpkdchjaaDoorW.PrintLast
set_option linter.unusedVariables false
set_option linter.unusedSimpArgs false
theorem lay_ctr {n:Int} {l:List S98} (h:layoutOk n l=0):∀ x ∈ l,-1≤x.f0∧x.f0<n∧-1≤x.f1∧x.f1<n∧x.f0 ≠ x.f1:=by
 unfold layoutOk at h
 split at h
 ·cases h
 split at h
 ·cases h
 split at h
 ·cases h
 split at h
 ·rename_i hall
  intro x hx
  have:=List.all_eq_true.1 hall x hx
  simp only [ctrOk,inB,Bool.and_eq_true,decide_eq_true_eq,Bool.not_eq_true',beq_eq_false_iff_ne] at this
  exact ⟨this.1.1.1,this.1.1.2,this.1.2.1,this.1.2.2,this.2⟩
 cases h
theorem lay_rd {n:Int} {l:List S98} (h:layoutOk n l=0) (i:Int) (h0:0≤i) (h1:i<l.length):-1≤(rd_T98 l i).f0∧(rd_T98 l i).f0<n∧-1≤(rd_T98 l i).f1∧(rd_T98 l i).f1<n∧(rd_T98 l i).f0 ≠ (rd_T98 l i).f1:=by
 refine lay_ctr h _ ?_
 have hlt:i.toNat<l.length:=by omega
 have:rd_T98 l i=l[i.toNat]:=by simp [rd_T98,hlt]
 rw [this]
 exact List.getElem_mem hlt
end Go.Proofs.YtpdnabhpkdchjaaDoor.P
namespace Go.Proofs.YtpdnabhpkdchjaaDoor.P
open Go.RowKit Go.Proofs.YtpdnabhpkdchjaaDoorW.PrintWords Go.Proofs.YtpdnabhpkdchjaaDoorW.PrintLast Go.Proofs.YtpdnabhpkdchjaaDoorW.PrintMore
attribute [local go_sem] max2_int min2_int max_two min_two max_three min_three max_four min_four
set_option linter.unusedVariables false
set_option linter.unusedSimpArgs false
mutual
def spec_l5Cur_layout.l0:Nat→Int→List Int→Int→Int→Int→List (S98)→Option (Int × (List (S98)) × Int × Int)
 | 0,_,_,_,_,_,_=>none
 | k+1,x4,x1000,x1001,x1002,x449000,x449001=>if x4≤x449000 then (if x4=x449000 then ((spec_l5Cur_pick.f x1000 x1001 x1002 12).bind fun bt450=>(if bt450.1 > 0 then (if x449001.length<8796093022208 then (spec_l5Cur_layout.l0 k (wrap64 (x4+1)) x1000 bt450.2.1 bt450.2.2 x449000 (x449001 ++ [(⟨wrap64 (x4 - 1),(-1)⟩:S98)])) else (none)) else (spec_l5Cur_layout.l0 k (wrap64 (x4+1)) x1000 bt450.2.1 bt450.2.2 x449000 x449001))) else ((spec_l5Cur_pick.f x1000 x1001 x1002 12).bind fun bt456=>(if bt456.1 > 0 then (if x449001.length<8796093022208 then (spec_l5Cur_layout.l0 k (wrap64 (x4+1)) x1000 bt456.2.1 bt456.2.2 x449000 (x449001 ++ [(⟨wrap64 (x4 - 1),x4⟩:S98)])) else (none)) else (spec_l5Cur_layout.l0 k (wrap64 (x4+1)) x1000 bt456.2.1 bt456.2.2 x449000 x449001)))) else ((spec_l5Cur_pick.f x1000 x1001 x1002 3).bind fun bt462=>(spec_l5Cur_layout.l1 k bt462.1 x1000 bt462.2.1 bt462.2.2 x449000 x449001))
def spec_l5Cur_layout.l1:Nat→Int→List Int→Int→Int→Int→List (S98)→Option (Int × (List (S98)) × Int × Int)
 | 0,_,_,_,_,_,_=>none
 | k+1,x6,x1000,x1001,x1002,x449000,x449001=>if x6 > 0 then ((spec_l5Cur_pick.f x1000 x1001 x1002 (wrap64 (x449000+1))).bind fun bt465=>((spec_l5Cur_pick.f x1000 bt465.2.1 bt465.2.2 (wrap64 (x449000+1))).bind fun bt468=>(if (wrap64 (bt465.1 - 1))=(wrap64 (bt468.1 - 1)) then (spec_l5Cur_layout.l1 k (wrap64 (x6 - 1)) x1000 bt468.2.1 bt468.2.2 x449000 x449001) else (if x449001.length<8796093022208 then (spec_l5Cur_layout.l1 k (wrap64 (x6 - 1)) x1000 bt468.2.1 bt468.2.2 x449000 (x449001 ++ [(⟨wrap64 (bt465.1 - 1),wrap64 (bt468.1 - 1)⟩:S98)])) else (none))))) else (some (x449000,x449001,x1001,x1002))
end
def spec_l5Cur_layout.f (k:Nat) (s0_0:List Int) (s0_1:Int) (s0_2:Int):Option (Int × (List (S98)) × Int × Int):=(spec_l5Cur_pick.f s0_0 s0_1 s0_2 5).bind fun bt445=>(spec_l5Cur_layout.l0 k 0 s0_0 bt445.2.1 bt445.2.2 (wrap64 (1+bt445.1)) ([]:List (S98)))
set_option maxHeartbeats 8000000 in
set_option maxRecDepth 100000 in
theorem spec_l5Cur_layout.calls (k:Nat) (g:Nat) (s0_0:List Int) (s0_1:Int) (s0_2:Int) (r1:Int) (r2:List (S98)) (r3:Int) (r4:Int) (w0 w:World) (hI:IsS92 w0 w g s0_0 s0_1 s0_2) (hB:Below w0.heap.size w0 w) (h:spec_l5Cur_layout.f k s0_0 s0_1 s0_2=some (r1,r2,r3,r4)) :
  Calls Tryd.prog 49 #[.pointer (some ⟨g,0,none⟩)] w fun e w'=>∃ v1_:Value,e=.returned (.agg #[.int .i64 r1,v1_])∧Kd.R k98 98 w' w.heap.size (fun _=>True) v1_ r2∧IsS92 w0 w' g s0_0 r3 r4∧Below w0.heap.size w0 w'∧KeepBut w w' g none:=by
 have hu31:=Tryd.underlying31
 have hu98:=Tryd.underlying98
 have HI0:=Aside0.mk hI
 have HK:=Aside0.mk (KeepBut.refl w g none)
 have HL:=Aside0.mk hB.size
 clear hI
 have HW0:=Aside0.mk hB.size
 have HB:=Aside0.mk hB
 clear hB
 have H:((spec_l5Cur_pick.f s0_0 s0_1 s0_2 5).bind fun bt445=>(spec_l5Cur_layout.l0 k 0 s0_0 bt445.2.1 bt445.2.2 (wrap64 (1+bt445.1)) ([]:List (S98))))=some (r1,r2,r3,r4):=h
 clear h
 replace H:=Option.bind_eq_some_iff.mp H
 obtain ⟨⟨t445,t446,t447⟩,A20,H⟩:=H
 replace H:(spec_l5Cur_layout.l0 k 0 s0_0 t446 t447 (wrap64 (1+t445)) ([]:List (S98)))=some (r1,r2,r3,r4):=H
 have A2:=Aside0.mk A20
 clear A20
 have H':=Aside0.mk H
 clear H
 go_enter Tryd.func49,Tryd.ntmps49
 go_wp2_with (first|((with_reducible refine gate_dst (N:=2) rfl ?_);refine box_event ?hg (N:=2) ?hd (cs:=#[.int .i64 0,.slice none 0 0]) (t:=31) ?hr ?_;(case hd=>rfl);(case hg=>rfl);(case hr=>first|(go_simp;done)|(go_simp;rfl));intro gb444 hg w3 hbox hb;have n0_:=Aside0.mk (IsS92.below (by repeat (first|(with_reducible first|exact HI0.out|apply IsS92.alloc|apply IsS92.drewN|apply IsS92.drew|apply IsS92.set_1|apply IsS92.set_2)|exact HI0.out)) hb);have n1_:=Aside0.mk (KeepBut.trans (by exact HK.out) (KeepBut.of_below hb g none) (.inl rfl));have n2_:=Aside0.mk (below_step (by repeat (first|(with_reducible first|exact HB.out|apply below_alloc|apply pw_below_drewN|apply below_drew1|refine below_set ?_ (IsS92.ge HI0.out))|exact HB.out)) hb);have n3_:=Aside0.mk (hbox);have n4_:=Aside0.mk ((by rw [hg];exact (keep_size (w:=w) (g:=g) (row:=none) (by exact HK.out)):w.heap.size≤gb444));have n5_:=Aside0.mk ((Nat.le_trans HW0.out (by rw [hg];exact (keep_size (w:=w) (g:=g) (row:=none) (by exact HK.out)):w.heap.size≤gb444):w0.heap.size≤gb444));have n6_:=Aside0.mk ((by rw [hg];exact Nat.ne_of_lt (IsS92.lt (show IsS92 w0 _ g s0_0 s0_1 s0_2 from by repeat (first|(with_reducible first|exact HI0.out|apply IsS92.alloc|apply IsS92.drewN|apply IsS92.drew|apply IsS92.set_1|apply IsS92.set_2)|exact HI0.out))):g ≠ gb444));have n7_:=Aside0.mk ((by rw [hg];exact Nat.ne_of_gt (IsS92.lt (show IsS92 w0 _ g s0_0 s0_1 s0_2 from by repeat (first|(with_reducible first|exact HI0.out|apply IsS92.alloc|apply IsS92.drewN|apply IsS92.drew|apply IsS92.set_1|apply IsS92.set_2)|exact HI0.out))):gb444 ≠ g));clear HI0;clear HK;clear HB;have HI0:=n0_;have HK:=n1_;have HB:=n2_;have BK444:=n3_;have GW444:=n4_;have GE444:=n5_;have NB0_444:=n6_;have NB444_0:=n7_;clear n0_ n1_ n2_ n3_ n4_ n5_ n6_ n7_;clear hb hbox hg)|((with_reducible refine gate_callee (f:=66) rfl ?_);refine goesL_ (some 10) rfl rfl Tryd.func66 (by kernel_rfl) rfl #[.pointer (some ⟨g,0,none⟩),.int .i64 5] rfl (by (try simp only [List.map_toArray,List.map_cons,List.map_nil]);first|done|rfl|(simp only [List.length_drop,List.length_take];rfl)) ?_;(with_reducible refine (spec_l5Cur_pick.calls g s0_0 s0_1 s0_2 5 t445 t446 t447 w0 _ ?side1 ?side2 A2.out).mono ?_);(case side1=>repeat (first|(with_reducible first|exact HI0.out|apply IsS92.alloc|apply IsS92.drewN|apply IsS92.drew|apply IsS92.set_1|apply IsS92.set_2|refine IsS92.far ?_ NB0_444.out _)|exact HI0.out));(case side2=>repeat (first|(with_reducible first|exact HB.out|apply below_alloc|apply pw_below_drewN|apply below_drew1|refine below_set ?_ (IsS92.ge HI0.out)|refine below_set ?_ GE444.out)|exact HB.out));rintro e w4 ⟨rfl,hi,hb,hk⟩;refine ⟨_,rfl,?_⟩;have n0_:=Aside0.mk (KeepBut.blk hk (g':=gb444) (o:=.cells #[.int .i64 0,.slice none 0 0] 31 (0,0)) (by exact BK444.out) NB444_0.out (by simp));have n1_:=Aside0.mk (KeepBut.trans (by repeat (first|(with_reducible first|exact HK.out|apply KeepBut.set_|apply keep_drewN|apply keep_drew|apply keep_alloc|refine keep_far ?_ GW444.out _)|exact HK.out)) hk (.inl rfl));have n2_:=Aside0.mk (hb);have n3_:=Aside0.mk (hi);clear BK444;clear HK;clear HB;clear HI0;have BK444:=n0_;have HK:=n1_;have HB:=n2_;have HI0:=n3_;clear n0_ n1_ n2_ n3_;(try clear hb);(try clear hb2);(try clear hk);(try clear hi))|((with_reducible refine gate_dst (N:=3) rfl ?_);refine box_event ?hg (N:=3) ?hd (cs:=#[.int .i64 0,.slice none 0 0]) (t:=31) ?hr ?_;(case hd=>rfl);(case hg=>rfl);(case hr=>first|(go_simp;done)|(go_simp;rfl));intro gb448 hg w5 hbox hb;have n0_:=Aside0.mk (IsS92.below (by repeat (first|(with_reducible first|exact HI0.out|apply IsS92.alloc|apply IsS92.drewN|apply IsS92.drew|apply IsS92.set_1|apply IsS92.set_2|refine IsS92.far ?_ NB0_444.out _)|exact HI0.out)) hb);have n1_:=Aside0.mk (blk_below (g:=gb444) (o:=.cells #[.int .i64 0,.slice none 0 0] 31 (0,0)) (by exact BK444.out) hb);have n2_:=Aside0.mk (KeepBut.trans (by repeat (first|(with_reducible first|exact HK.out|apply KeepBut.set_|apply keep_drewN|apply keep_drew|apply keep_alloc|refine keep_far ?_ GW444.out _)|exact HK.out)) (KeepBut.of_below hb g none) (.inl rfl));have n3_:=Aside0.mk (below_step (by repeat (first|(with_reducible first|exact HB.out|apply below_alloc|apply pw_below_drewN|apply below_drew1|refine below_set ?_ (IsS92.ge HI0.out)|refine below_set ?_ GE444.out)|exact HB.out)) hb);have n4_:=Aside0.mk (hbox);have n5_:=Aside0.mk ((by rw [hg];exact (keep_size (w:=w) (g:=g) (row:=none) (by repeat (first|(with_reducible first|exact HK.out|apply KeepBut.set_|apply keep_drewN|apply keep_drew|apply keep_alloc|refine keep_far ?_ GW444.out _)|exact HK.out))):w.heap.size≤gb448));have n6_:=Aside0.mk ((Nat.le_trans HW0.out (by rw [hg];exact (keep_size (w:=w) (g:=g) (row:=none) (by repeat (first|(with_reducible first|exact HK.out|apply KeepBut.set_|apply keep_drewN|apply keep_drew|apply keep_alloc|refine keep_far ?_ GW444.out _)|exact HK.out))):w.heap.size≤gb448):w0.heap.size≤gb448));have n7_:=Aside0.mk ((by rw [hg];exact Nat.ne_of_lt (blk_lt (g:=gb444) (o:=.cells #[.int .i64 0,.slice none 0 0] 31 (0,0)) (by exact BK444.out)):gb444 ≠ gb448));have n8_:=Aside0.mk ((by rw [hg];exact Nat.ne_of_gt (blk_lt (g:=gb444) (o:=.cells #[.int .i64 0,.slice none 0 0] 31 (0,0)) (by exact BK444.out)):gb448 ≠ gb444));have n9_:=Aside0.mk ((by rw [hg];exact Nat.ne_of_lt (IsS92.lt (show IsS92 w0 _ g s0_0 t446 t447 from by repeat (first|(with_reducible first|exact HI0.out|apply IsS92.alloc|apply IsS92.drewN|apply IsS92.drew|apply IsS92.set_1|apply IsS92.set_2|refine IsS92.far ?_ NB0_444.out _)|exact HI0.out))):g ≠ gb448));have n10_:=Aside0.mk ((by rw [hg];exact Nat.ne_of_gt (IsS92.lt (show IsS92 w0 _ g s0_0 t446 t447 from by repeat (first|(with_reducible first|exact HI0.out|apply IsS92.alloc|apply IsS92.drewN|apply IsS92.drew|apply IsS92.set_1|apply IsS92.set_2|refine IsS92.far ?_ NB0_444.out _)|exact HI0.out))):gb448 ≠ g));clear HI0;clear BK444;clear HK;clear HB;have HI0:=n0_;have BK444:=n1_;have HK:=n2_;have HB:=n3_;have BK448:=n4_;have GW448:=n5_;have GE448:=n6_;have NB444_448:=n7_;have NB448_444:=n8_;have NB0_448:=n9_;have NB448_0:=n10_;clear n0_ n1_ n2_ n3_ n4_ n5_ n6_ n7_ n8_ n9_ n10_;clear hb hbox hg;have hnb6:=NB448_444.out;have hnc6:=NB444_448.out;have hnb7:=NB448_0.out;have hnc7:=NB0_448.out;have hcz8_0:w5.cell? ⟨gb448,0,none⟩=some (.int .i64 0):=(blk_cell BK448.out 0).trans rfl;have hcz8_1:w5.cell? ⟨gb448,1,none⟩=some (.slice none 0 0):=(blk_cell BK448.out 1).trans rfl;have hfz8_0:=blk_frozen BK448.out 0;have hfz8_1:=blk_frozen BK448.out 1))
 go_loopg [4] k (fun kq v4 w'=>∃ (x4_1:Int) (x1001_1:Int) (x1002_1:Int) (x449001_1:List (S98)) (u449001:Value),v4=.int .i64 x4_1∧Aside0 (spec_l5Cur_layout.l0 kq x4_1 s0_0 x1001_1 x1002_1 (wrap64 (1+t445)) x449001_1=some (r1,r2,r3,r4))∧Aside0 (kq≤k)∧Aside0 (Kd.R k98 98 w' w.heap.size (fun _=>True) u449001 x449001_1)∧Aside0 (w'.heap[gb444]?=some (.cells #[.int .i64 0,(.slice none 0 0)] 31 (0,0)))∧Aside0 (w'.heap[gb448]?=some (.cells #[.int .i64 (wrap64 (1+t445)),u449001] 31 (0,0)))∧Aside0 (IsS92 w0 w' g s0_0 x1001_1 x1002_1)∧Aside0 (KeepBut w w' g none)∧Aside0 (Below w0.heap.size w0 w'))
 case atStart=>exact ⟨(0),(t446),(t447),(([]:List (S98))),(.slice none 0 0),(by first|rfl|(simp;done)|(simp [*];done)),H',⟨Nat.le_refl _⟩,⟨by first|exact Kd.R_nil _ _ _ _ _|exact Kd.N_nil _ _ _ _ _|exact Kd.V_nil _ _ _ _ _|exact Kd.Q_nil _ _ _ _ _|exact Kd.S_nil _ _ _ _ _⟩,⟨by refine blk_far ?_ NB444_448.out _;refine blk_far ?_ NB444_448.out _;exact BK444.out⟩,⟨by refine blk_put (cs:=#[.int .i64 (wrap64 (1+t445)),.slice none 0 0]) ?_ 1 _ rfl;refine blk_put (cs:=#[.int .i64 0,.slice none 0 0]) ?_ 0 _ rfl;exact BK448.out⟩,⟨by repeat (first|(with_reducible first|exact HI0.out|apply IsS92.alloc|apply IsS92.drewN|apply IsS92.drew|apply IsS92.set_1|apply IsS92.set_2|refine IsS92.far ?_ NB0_444.out _|refine IsS92.far ?_ NB0_448.out _)|exact HI0.out)⟩,⟨by repeat (first|(with_reducible first|exact HK.out|apply KeepBut.set_|apply keep_drewN|apply keep_drew|apply keep_alloc|refine keep_far ?_ GW444.out _|refine keep_far ?_ GW448.out _)|exact HK.out)⟩,⟨by repeat (first|(with_reducible first|exact HB.out|apply below_alloc|apply pw_below_drewN|apply below_drew1|refine below_set ?_ (IsS92.ge HI0.out)|refine below_set ?_ GE444.out|refine below_set ?_ GE448.out)|exact HB.out)⟩⟩
 case round =>
  clear H'
  try clear p2
  try clear c4
  try clear c6
  try clear p6
  try clear c7
  try clear hcz8_0
  try clear hcz8_1
  try clear hfz8_0
  try clear hfz8_1
  obtain ⟨x4_1,x1001_1,x1002_1,x449001_1,u449001,rfl,HA,HK1,HO_449001,BK444,BK448,HI0,HK,HB⟩:=hrel
  cases gk with
  | zero=>exact absurd HA.out (by simp [spec_l5Cur_layout.l0])
  | succ k1 =>
   have H:=HA.out
   clear HA
   simp only [spec_l5Cur_layout.l0] at H
   by_cases c9:x4_1≤(wrap64 (1+t445))
   ·rw [if_pos c9] at H
    have c9b0:decide (x4_1≤(wrap64 (1+t445)))=true:=decide_eq_true c9
    clear c9
    by_cases c10:x4_1=(wrap64 (1+t445))
    ·rw [if_pos c10] at H
     have c10b0:(x4_1==(wrap64 (1+t445)))=true:=beq_iff_eq.mpr c10
     have c10b1:(x4_1 != (wrap64 (1+t445)))=false:=bne_eq_false_iff_eq.mpr c10
     clear c10
     replace H:=Option.bind_eq_some_iff.mp H
     obtain ⟨⟨t450,t451,t452⟩,A110,H⟩:=H
     replace H:(if t450 > 0 then (if x449001_1.length<8796093022208 then (spec_l5Cur_layout.l0 k1 (wrap64 (x4_1+1)) s0_0 t451 t452 (wrap64 (1+t445)) (x449001_1 ++ [(⟨wrap64 (x4_1 - 1),(-1)⟩:S98)])) else (none)) else (spec_l5Cur_layout.l0 k1 (wrap64 (x4_1+1)) s0_0 t451 t452 (wrap64 (1+t445)) x449001_1))=some (r1,r2,r3,r4):=H
     have A11:=Aside0.mk A110
     clear A110
     by_cases c12:t450 > 0
     ·rw [if_pos c12] at H
      have c12b0:decide (0<t450)=true:=decide_eq_true c12
      clear c12
      by_cases c13:x449001_1.length<8796093022208
      ·rw [if_pos c13] at H
       have LMc13:=Aside0.mk c13
       clear c13
       obtain ⟨y453,hy453⟩:∃ y_:List (S98),y_=(x449001_1 ++ [(⟨wrap64 (x4_1 - 1),(-1)⟩:S98)]):=⟨_,rfl⟩
       replace H:(spec_l5Cur_layout.l0 k1 (wrap64 (x4_1+1)) s0_0 t451 t452 (wrap64 (1+t445)) y453)=some (r1,r2,r3,r4):=by first|(rw [hy453];with_reducible exact H)|(have H2_:=(Option.bind_some _ _).symm.trans H;rw [hy453];with_reducible exact H2_)|(have H2_:=(Option.bind_some _ _).symm.trans H;with_reducible exact H2_)|with_reducible exact H|(rw [hy453];exact H)|exact H
       have Ny453:=Aside0.mk hy453
       clear hy453
       have H':=Aside0.mk H
       clear H
       have hnb14:=NB448_444.out
       have hnc14:=NB444_448.out
       have hnb15:=NB448_0.out
       have hnc15:=NB0_448.out
       have hcz16_0:wr.cell? ⟨gb448,0,none⟩=some (.int .i64 (wrap64 (1+t445))):=(blk_cell BK448.out 0).trans rfl
       have hcz16_1:wr.cell? ⟨gb448,1,none⟩=some (u449001):=(blk_cell BK448.out 1).trans rfl
       have hfz16_0:=blk_frozen BK448.out 0
       have hfz16_1:=blk_frozen BK448.out 1
       go_wp2_with (first|((with_reducible refine gate_dst (N:=5) rfl ?_);refine box_event ?hg (N:=5) ?hd (cs:=#[.int .i64 0,.int .i64 0]) (t:=98) ?hr ?_;(case hd=>rfl);(case hg=>rfl);(case hr=>first|(go_simp;done)|(go_simp;rfl));intro gb449 hg w17 hbox hb;have n0_:=Aside0.mk (Kd.R_below (Kd.R_elderB (by exact HO_449001.out) gb449 (Nat.le_of_eq hg.symm)) hb);have n1_:=Aside0.mk (blk_below (g:=gb444) (o:=.cells #[.int .i64 0,.slice none 0 0] 31 (0,0)) (by exact BK444.out) hb);have n2_:=Aside0.mk (blk_below (g:=gb448) (o:=.cells #[.int .i64 (wrap64 (1+t445)),u449001] 31 (0,0)) (by exact BK448.out) hb);have n3_:=Aside0.mk (IsS92.below (by repeat (first|(with_reducible first|exact HI0.out|apply IsS92.alloc|apply IsS92.drewN|apply IsS92.drew|apply IsS92.set_1|apply IsS92.set_2|refine IsS92.far ?_ NB0_444.out _|refine IsS92.far ?_ NB0_448.out _)|exact HI0.out)) hb);have n4_:=Aside0.mk (KeepBut.trans (by repeat (first|(with_reducible first|exact HK.out|apply KeepBut.set_|apply keep_drewN|apply keep_drew|apply keep_alloc|refine keep_far ?_ GW444.out _|refine keep_far ?_ GW448.out _)|exact HK.out)) (KeepBut.of_below hb g none) (.inl rfl));have n5_:=Aside0.mk (below_step (by repeat (first|(with_reducible first|exact HB.out|apply below_alloc|apply pw_below_drewN|apply below_drew1|refine below_set ?_ (IsS92.ge HI0.out)|refine below_set ?_ GE444.out|refine below_set ?_ GE448.out)|exact HB.out)) hb);have n6_:=Aside0.mk (hbox);have n7_:=Aside0.mk ((by rw [hg];exact (keep_size (w:=w) (g:=g) (row:=none) (by repeat (first|(with_reducible first|exact HK.out|apply KeepBut.set_|apply keep_drewN|apply keep_drew|apply keep_alloc|refine keep_far ?_ GW444.out _|refine keep_far ?_ GW448.out _)|exact HK.out))):w.heap.size≤gb449));have n8_:=Aside0.mk ((Nat.le_trans HW0.out (by rw [hg];exact (keep_size (w:=w) (g:=g) (row:=none) (by repeat (first|(with_reducible first|exact HK.out|apply KeepBut.set_|apply keep_drewN|apply keep_drew|apply keep_alloc|refine keep_far ?_ GW444.out _|refine keep_far ?_ GW448.out _)|exact HK.out))):w.heap.size≤gb449):w0.heap.size≤gb449));have n9_:=Aside0.mk ((by rw [hg];exact Nat.ne_of_lt (blk_lt (g:=gb444) (o:=.cells #[.int .i64 0,.slice none 0 0] 31 (0,0)) (by exact BK444.out)):gb444 ≠ gb449));have n10_:=Aside0.mk ((by rw [hg];exact Nat.ne_of_gt (blk_lt (g:=gb444) (o:=.cells #[.int .i64 0,.slice none 0 0] 31 (0,0)) (by exact BK444.out)):gb449 ≠ gb444));have n11_:=Aside0.mk ((by rw [hg];exact Nat.ne_of_lt (blk_lt (g:=gb448) (o:=.cells #[.int .i64 (wrap64 (1+t445)),u449001] 31 (0,0)) (by exact BK448.out)):gb448 ≠ gb449));have n12_:=Aside0.mk ((by rw [hg];exact Nat.ne_of_gt (blk_lt (g:=gb448) (o:=.cells #[.int .i64 (wrap64 (1+t445)),u449001] 31 (0,0)) (by exact BK448.out)):gb449 ≠ gb448));have n13_:=Aside0.mk ((by rw [hg];exact Nat.ne_of_lt (IsS92.lt (show IsS92 w0 _ g s0_0 x1001_1 x1002_1 from by repeat (first|(with_reducible first|exact HI0.out|apply IsS92.alloc|apply IsS92.drewN|apply IsS92.drew|apply IsS92.set_1|apply IsS92.set_2|refine IsS92.far ?_ NB0_444.out _|refine IsS92.far ?_ NB0_448.out _)|exact HI0.out))):g ≠ gb449));have n14_:=Aside0.mk ((by rw [hg];exact Nat.ne_of_gt (IsS92.lt (show IsS92 w0 _ g s0_0 x1001_1 x1002_1 from by repeat (first|(with_reducible first|exact HI0.out|apply IsS92.alloc|apply IsS92.drewN|apply IsS92.drew|apply IsS92.set_1|apply IsS92.set_2|refine IsS92.far ?_ NB0_444.out _|refine IsS92.far ?_ NB0_448.out _)|exact HI0.out))):gb449 ≠ g));clear HO_449001;clear BK444;clear BK448;clear HI0;clear HK;clear HB;have HO_449001:=n0_;have BK444:=n1_;have BK448:=n2_;have HI0:=n3_;have HK:=n4_;have HB:=n5_;have BK449:=n6_;have GW449:=n7_;have GE449:=n8_;have NB444_449:=n9_;have NB449_444:=n10_;have NB448_449:=n11_;have NB449_448:=n12_;have NB0_449:=n13_;have NB449_0:=n14_;clear n0_ n1_ n2_ n3_ n4_ n5_ n6_ n7_ n8_ n9_ n10_ n11_ n12_ n13_ n14_;clear hb hbox hg;have hnb18:=NB449_444.out;have hnc18:=NB444_449.out;have hnb19:=NB449_448.out;have hnc19:=NB448_449.out;have hnb20:=NB449_0.out;have hnc20:=NB0_449.out;have hcz21_0:w17.cell? ⟨gb449,0,none⟩=some (.int .i64 0):=(blk_cell BK449.out 0).trans rfl;have hcz21_1:w17.cell? ⟨gb449,1,none⟩=some (.int .i64 0):=(blk_cell BK449.out 1).trans rfl;have hfz21_0:=blk_frozen BK449.out 0;have hfz21_1:=blk_frozen BK449.out 1;have hcz22_0:w17.cell? ⟨gb448,0,none⟩=some (.int .i64 (wrap64 (1+t445))):=(blk_cell BK448.out 0).trans rfl;have hcz22_1:w17.cell? ⟨gb448,1,none⟩=some (u449001):=(blk_cell BK448.out 1).trans rfl;have hfz22_0:=blk_frozen BK448.out 0;have hfz22_1:=blk_frozen BK448.out 1)|((with_reducible refine gate_callee (f:=66) rfl ?_);refine goesL_ (some 29) rfl rfl Tryd.func66 (by kernel_rfl) rfl #[.pointer (some ⟨g,0,none⟩),.int .i64 12] rfl (by (try simp only [List.map_toArray,List.map_cons,List.map_nil]);first|done|rfl|(simp only [List.length_drop,List.length_take];rfl)) ?_;(with_reducible refine (spec_l5Cur_pick.calls g s0_0 x1001_1 x1002_1 12 t450 t451 t452 w0 _ ?side1 ?side2 A11.out).mono ?_);(case side1=>repeat (first|(with_reducible first|exact HI0.out|apply IsS92.alloc|apply IsS92.drewN|apply IsS92.drew|apply IsS92.set_1|apply IsS92.set_2|refine IsS92.far ?_ NB0_444.out _|refine IsS92.far ?_ NB0_448.out _|refine IsS92.far ?_ NB0_449.out _)|exact HI0.out));(case side2=>repeat (first|(with_reducible first|exact HB.out|apply below_alloc|apply pw_below_drewN|apply below_drew1|refine below_set ?_ (IsS92.ge HI0.out)|refine below_set ?_ GE444.out|refine below_set ?_ GE448.out|refine below_set ?_ GE449.out)|exact HB.out));rintro e w23 ⟨rfl,hi,hb,hk⟩;refine ⟨_,rfl,?_⟩;have n0_:=Aside0.mk (Kd.R_mono (Kd.R_keep (IsS92.apart (show IsS92 w0 _ g s0_0 x1001_1 x1002_1 from by repeat (first|(with_reducible first|exact HI0.out|apply IsS92.alloc|apply IsS92.drewN|apply IsS92.drew|apply IsS92.set_1|apply IsS92.set_2|refine IsS92.far ?_ NB0_444.out _|refine IsS92.far ?_ NB0_448.out _|refine IsS92.far ?_ NB0_449.out _)|exact HI0.out)) (by exact (Kd.R_mono (Kd.R_far (p:=⟨gb449,1,none⟩) (Kd.R_far (p:=⟨gb449,1,none⟩) (Kd.R_far (p:=⟨gb449,0,none⟩) (Kd.R_mono HO_449001.out (fun k_ hk=>(⟨hk,hk.2⟩:_∧k_ ≠ gb449))) (fun _ hk=>hk.2) (.int .i64 (wrap64 (x4_1 - 1)))) (fun _ hk=>hk.2) (.int .i64 x4_1)) (fun _ hk=>hk.2) (.int .i64 (-1))) (fun _ h_=>h_.1))) (by decide)) hk (fun _ h=>h.2)) (fun _ h=>h.1));have n1_:=Aside0.mk (KeepBut.blk hk (g':=gb444) (o:=.cells #[.int .i64 0,.slice none 0 0] 31 (0,0)) (by refine blk_far ?_ NB444_449.out _;refine blk_far ?_ NB444_449.out _;refine blk_far ?_ NB444_449.out _;exact BK444.out) NB444_0.out (by simp));have n2_:=Aside0.mk (KeepBut.blk hk (g':=gb448) (o:=.cells #[.int .i64 (wrap64 (1+t445)),u449001] 31 (0,0)) (by refine blk_far ?_ NB448_449.out _;refine blk_far ?_ NB448_449.out _;refine blk_far ?_ NB448_449.out _;exact BK448.out) NB448_0.out (by simp));have n3_:=Aside0.mk (KeepBut.blk hk (g':=gb449) (o:=.cells #[.int .i64 (wrap64 (x4_1 - 1)),.int .i64 (-1)] 98 (0,0)) (by refine blk_put (cs:=#[.int .i64 (wrap64 (x4_1 - 1)),.int .i64 x4_1]) ?_ 1 _ rfl;refine blk_put (cs:=#[.int .i64 (wrap64 (x4_1 - 1)),.int .i64 0]) ?_ 1 _ rfl;refine blk_put (cs:=#[.int .i64 0,.int .i64 0]) ?_ 0 _ rfl;exact BK449.out) NB449_0.out (by simp));have n4_:=Aside0.mk (KeepBut.trans (by repeat (first|(with_reducible first|exact HK.out|apply KeepBut.set_|apply keep_drewN|apply keep_drew|apply keep_alloc|refine keep_far ?_ GW444.out _|refine keep_far ?_ GW448.out _|refine keep_far ?_ GW449.out _)|exact HK.out)) hk (.inl rfl));have n5_:=Aside0.mk (hb);have n6_:=Aside0.mk (hi);clear HO_449001;clear BK444;clear BK448;clear BK449;clear HK;clear HB;clear HI0;have HO_449001:=n0_;have BK444:=n1_;have BK448:=n2_;have BK449:=n3_;have HK:=n4_;have HB:=n5_;have HI0:=n6_;clear n0_ n1_ n2_ n3_ n4_ n5_ n6_;(try clear hb);(try clear hb2);(try clear hk);(try clear hi);have hcz24_0:w23.cell? ⟨gb448,0,none⟩=some (.int .i64 (wrap64 (1+t445))):=(blk_cell BK448.out 0).trans rfl;have hcz24_1:w23.cell? ⟨gb448,1,none⟩=some (u449001):=(blk_cell BK448.out 1).trans rfl;have hfz24_0:=blk_frozen BK448.out 0;have hfz24_1:=blk_frozen BK448.out 1;have hcz25_0:w23.cell? ⟨gb449,0,none⟩=some (.int .i64 (wrap64 (x4_1 - 1))):=(blk_cell BK449.out 0).trans rfl;have hcz25_1:w23.cell? ⟨gb449,1,none⟩=some (.int .i64 (-1)):=(blk_cell BK449.out 1).trans rfl;have hfz25_0:=blk_frozen BK449.out 0;have hfz25_1:=blk_frozen BK449.out 1)|((with_reducible refine gate_builtin (b:=.append) (xs:=#[.tmp 32,.tmp 34]) rfl ?_);at_builtin;refine Kd.R_append k98 w.heap.size rfl (.tmp 32) (.tmp 34) 29 98 (.agg #[(.int .i64 0),(.int .i64 0)]) 16 rfl Tryd.underlying29 info98 rfl (by decide) (by omega) u449001 x449001_1 (⟨wrap64 (x4_1 - 1),(-1)⟩:S98) [.int .i64 (wrap64 (x4_1 - 1)),.int .i64 (-1)] (fun k_=>k_ ≠ gb449) (fun _=>False) rfl rfl ?aP (fun _ hk=>hk.elim) ?aF ?aO (Below.refl _ _) ?aS ?aL ?_;(case aP=>exact k98_mkM _ _ _ (⟨wrap64 (x4_1 - 1),(-1)⟩:S98));(case aF=>exact (fun k_ hk=>Kd.freshB (g:=gb449) (o:=.cells #[.int .i64 (wrap64 (x4_1 - 1)),.int .i64 (-1)] 98 (0,0)) (by exact BK449.out) k_ hk));(case aO=>exact (by exact Kd.R_mono HO_449001.out (fun _ hk=>hk.2)));(case aS=>exact (keep_size (w:=w) (g:=g) (row:=none) (by repeat (first|(with_reducible first|exact HK.out|apply KeepBut.set_|apply keep_drewN|apply keep_drew|apply keep_alloc|refine keep_far ?_ GW444.out _|refine keep_far ?_ GW448.out _|refine keep_far ?_ GW449.out _)|exact HK.out))));(case aL=>have:=LMc13.out;omega);intro v454 w26 ho hb hg hat;rw [← Ny453.out] at ho;have n0_:=Aside0.mk (blk_grown (g:=gb444) (o:=.cells #[.int .i64 0,.slice none 0 0] 31 (0,0)) (by exact BK444.out) hg (Kd.R_ne HO_449001.out BK444.out (by decide)));have n1_:=Aside0.mk (blk_grown (g:=gb448) (o:=.cells #[.int .i64 (wrap64 (1+t445)),u449001] 31 (0,0)) (by exact BK448.out) hg (Kd.R_ne HO_449001.out BK448.out (by decide)));have n2_:=Aside0.mk (IsS92.grown (by repeat (first|(with_reducible first|exact HI0.out|apply IsS92.alloc|apply IsS92.drewN|apply IsS92.drew|apply IsS92.set_1|apply IsS92.set_2|refine IsS92.far ?_ NB0_444.out _|refine IsS92.far ?_ NB0_448.out _|refine IsS92.far ?_ NB0_449.out _)|exact HI0.out)) hg (IsS92.own_ne HI0.out HO_449001.out (by decide)));have n3_:=Aside0.mk (blk_grown (g:=gb449) (o:=.cells #[.int .i64 (wrap64 (x4_1 - 1)),.int .i64 (-1)] 98 (0,0)) (by exact BK449.out) hg (Kd.R_away HO_449001.out (fun _ hk=>hk.2)));have n4_:=Aside0.mk (below_weaken (by repeat (first|(with_reducible first|exact HB.out|apply below_alloc|apply pw_below_drewN|apply below_drew1|refine below_set ?_ (IsS92.ge HI0.out)|refine below_set ?_ GE444.out|refine below_set ?_ GE448.out|refine below_set ?_ GE449.out)|exact HB.out)) HL.out hb);have n5_:=Aside0.mk (KeepBut.trans (by repeat (first|(with_reducible first|exact HK.out|apply KeepBut.set_|apply keep_drewN|apply keep_drew|apply keep_alloc|refine keep_far ?_ GW444.out _|refine keep_far ?_ GW448.out _|refine keep_far ?_ GW449.out _)|exact HK.out)) (KeepBut.of_grown hg g) (Kd.R_base2 HO_449001.out));have n6_:=Aside0.mk (ho);clear BK444;clear BK448;clear HI0;clear BK449;clear HB;clear HK;clear HO_449001;have BK444:=n0_;have BK448:=n1_;have HI0:=n2_;have BK449:=n3_;have HB:=n4_;have HK:=n5_;have HO455:=n6_;clear n0_ n1_ n2_ n3_ n4_ n5_ n6_;clear ho hb hg hat;obtain ⟨Ao27,co27,eo27⟩:=Kd.R_slice HO455.out;subst eo27;have hcz28_0:w26.cell? ⟨gb448,0,none⟩=some (.int .i64 (wrap64 (1+t445))):=(blk_cell BK448.out 0).trans rfl;have hcz28_1:w26.cell? ⟨gb448,1,none⟩=some (u449001):=(blk_cell BK448.out 1).trans rfl;have hfz28_0:=blk_frozen BK448.out 0;have hfz28_1:=blk_frozen BK448.out 1))
       go_roundg k1
       case measure=>have:=HK1.out;omega
       case rel=>exact ⟨(wrap64 (x4_1+1)),(t451),(t452),(y453),(.slice Ao27 y453.length co27),(by first|rfl|(simp;done)|(simp [*];done)),H',⟨by have:=HK1.out;omega⟩,⟨by exact Kd.R_mono (Kd.R_far (p:=⟨gb448,1,none⟩) (Kd.R_types HO455.out BK448.out (by decide)) (fun _ hk=>hk.2) (.slice Ao27 y453.length co27)) (fun _ hk=>trivial)⟩,⟨by refine blk_far ?_ NB444_448.out _;exact BK444.out⟩,⟨by refine blk_put (cs:=#[.int .i64 (wrap64 (1+t445)),u449001]) ?_ 1 _ rfl;exact BK448.out⟩,⟨by repeat (first|(with_reducible first|exact HI0.out|apply IsS92.alloc|apply IsS92.drewN|apply IsS92.drew|apply IsS92.set_1|apply IsS92.set_2|refine IsS92.far ?_ NB0_444.out _|refine IsS92.far ?_ NB0_448.out _|refine IsS92.far ?_ NB0_449.out _)|exact HI0.out)⟩,⟨by repeat (first|(with_reducible first|exact HK.out|apply KeepBut.set_|apply keep_drewN|apply keep_drew|apply keep_alloc|refine keep_far ?_ GW444.out _|refine keep_far ?_ GW448.out _|refine keep_far ?_ GW449.out _)|exact HK.out)⟩,⟨by repeat (first|(with_reducible first|exact HB.out|apply below_alloc|apply pw_below_drewN|apply below_drew1|refine below_set ?_ (IsS92.ge HI0.out)|refine below_set ?_ GE444.out|refine below_set ?_ GE448.out|refine below_set ?_ GE449.out)|exact HB.out)⟩⟩
      rw [if_neg c13] at H
      exact absurd H (by simp)
     rw [if_neg c12] at H
     have c12b0:decide (0<t450)=false:=decide_eq_false c12
     clear c12
     have H':=Aside0.mk H
     clear H
     have hnb29:=NB448_444.out
     have hnc29:=NB444_448.out
     have hnb30:=NB448_0.out
     have hnc30:=NB0_448.out
     have hcz31_0:wr.cell? ⟨gb448,0,none⟩=some (.int .i64 (wrap64 (1+t445))):=(blk_cell BK448.out 0).trans rfl
     have hcz31_1:wr.cell? ⟨gb448,1,none⟩=some (u449001):=(blk_cell BK448.out 1).trans rfl
     have hfz31_0:=blk_frozen BK448.out 0
     have hfz31_1:=blk_frozen BK448.out 1
     go_wp2_with (first|((with_reducible refine gate_dst (N:=5) rfl ?_);refine box_event ?hg (N:=5) ?hd (cs:=#[.int .i64 0,.int .i64 0]) (t:=98) ?hr ?_;(case hd=>rfl);(case hg=>rfl);(case hr=>first|(go_simp;done)|(go_simp;rfl));intro gb449 hg w32 hbox hb;have n0_:=Aside0.mk (Kd.R_below (Kd.R_elderB (by exact HO_449001.out) gb449 (Nat.le_of_eq hg.symm)) hb);have n1_:=Aside0.mk (blk_below (g:=gb444) (o:=.cells #[.int .i64 0,.slice none 0 0] 31 (0,0)) (by exact BK444.out) hb);have n2_:=Aside0.mk (blk_below (g:=gb448) (o:=.cells #[.int .i64 (wrap64 (1+t445)),u449001] 31 (0,0)) (by exact BK448.out) hb);have n3_:=Aside0.mk (IsS92.below (by repeat (first|(with_reducible first|exact HI0.out|apply IsS92.alloc|apply IsS92.drewN|apply IsS92.drew|apply IsS92.set_1|apply IsS92.set_2|refine IsS92.far ?_ NB0_444.out _|refine IsS92.far ?_ NB0_448.out _)|exact HI0.out)) hb);have n4_:=Aside0.mk (KeepBut.trans (by repeat (first|(with_reducible first|exact HK.out|apply KeepBut.set_|apply keep_drewN|apply keep_drew|apply keep_alloc|refine keep_far ?_ GW444.out _|refine keep_far ?_ GW448.out _)|exact HK.out)) (KeepBut.of_below hb g none) (.inl rfl));have n5_:=Aside0.mk (below_step (by repeat (first|(with_reducible first|exact HB.out|apply below_alloc|apply pw_below_drewN|apply below_drew1|refine below_set ?_ (IsS92.ge HI0.out)|refine below_set ?_ GE444.out|refine below_set ?_ GE448.out)|exact HB.out)) hb);have n6_:=Aside0.mk (hbox);have n7_:=Aside0.mk ((by rw [hg];exact (keep_size (w:=w) (g:=g) (row:=none) (by repeat (first|(with_reducible first|exact HK.out|apply KeepBut.set_|apply keep_drewN|apply keep_drew|apply keep_alloc|refine keep_far ?_ GW444.out _|refine keep_far ?_ GW448.out _)|exact HK.out))):w.heap.size≤gb449));have n8_:=Aside0.mk ((Nat.le_trans HW0.out (by rw [hg];exact (keep_size (w:=w) (g:=g) (row:=none) (by repeat (first|(with_reducible first|exact HK.out|apply KeepBut.set_|apply keep_drewN|apply keep_drew|apply keep_alloc|refine keep_far ?_ GW444.out _|refine keep_far ?_ GW448.out _)|exact HK.out))):w.heap.size≤gb449):w0.heap.size≤gb449));have n9_:=Aside0.mk ((by rw [hg];exact Nat.ne_of_lt (blk_lt (g:=gb444) (o:=.cells #[.int .i64 0,.slice none 0 0] 31 (0,0)) (by exact BK444.out)):gb444 ≠ gb449));have n10_:=Aside0.mk ((by rw [hg];exact Nat.ne_of_gt (blk_lt (g:=gb444) (o:=.cells #[.int .i64 0,.slice none 0 0] 31 (0,0)) (by exact BK444.out)):gb449 ≠ gb444));have n11_:=Aside0.mk ((by rw [hg];exact Nat.ne_of_lt (blk_lt (g:=gb448) (o:=.cells #[.int .i64 (wrap64 (1+t445)),u449001] 31 (0,0)) (by exact BK448.out)):gb448 ≠ gb449));have n12_:=Aside0.mk ((by rw [hg];exact Nat.ne_of_gt (blk_lt (g:=gb448) (o:=.cells #[.int .i64 (wrap64 (1+t445)),u449001] 31 (0,0)) (by exact BK448.out)):gb449 ≠ gb448));have n13_:=Aside0.mk ((by rw [hg];exact Nat.ne_of_lt (IsS92.lt (show IsS92 w0 _ g s0_0 x1001_1 x1002_1 from by repeat (first|(with_reducible first|exact HI0.out|apply IsS92.alloc|apply IsS92.drewN|apply IsS92.drew|apply IsS92.set_1|apply IsS92.set_2|refine IsS92.far ?_ NB0_444.out _|refine IsS92.far ?_ NB0_448.out _)|exact HI0.out))):g ≠ gb449));have n14_:=Aside0.mk ((by rw [hg];exact Nat.ne_of_gt (IsS92.lt (show IsS92 w0 _ g s0_0 x1001_1 x1002_1 from by repeat (first|(with_reducible first|exact HI0.out|apply IsS92.alloc|apply IsS92.drewN|apply IsS92.drew|apply IsS92.set_1|apply IsS92.set_2|refine IsS92.far ?_ NB0_444.out _|refine IsS92.far ?_ NB0_448.out _)|exact HI0.out))):gb449 ≠ g));clear HO_449001;clear BK444;clear BK448;clear HI0;clear HK;clear HB;have HO_449001:=n0_;have BK444:=n1_;have BK448:=n2_;have HI0:=n3_;have HK:=n4_;have HB:=n5_;have BK449:=n6_;have GW449:=n7_;have GE449:=n8_;have NB444_449:=n9_;have NB449_444:=n10_;have NB448_449:=n11_;have NB449_448:=n12_;have NB0_449:=n13_;have NB449_0:=n14_;clear n0_ n1_ n2_ n3_ n4_ n5_ n6_ n7_ n8_ n9_ n10_ n11_ n12_ n13_ n14_;clear hb hbox hg;have hnb33:=NB449_444.out;have hnc33:=NB444_449.out;have hnb34:=NB449_448.out;have hnc34:=NB448_449.out;have hnb35:=NB449_0.out;have hnc35:=NB0_449.out;have hcz36_0:w32.cell? ⟨gb449,0,none⟩=some (.int .i64 0):=(blk_cell BK449.out 0).trans rfl;have hcz36_1:w32.cell? ⟨gb449,1,none⟩=some (.int .i64 0):=(blk_cell BK449.out 1).trans rfl;have hfz36_0:=blk_frozen BK449.out 0;have hfz36_1:=blk_frozen BK449.out 1;have hcz37_0:w32.cell? ⟨gb448,0,none⟩=some (.int .i64 (wrap64 (1+t445))):=(blk_cell BK448.out 0).trans rfl;have hcz37_1:w32.cell? ⟨gb448,1,none⟩=some (u449001):=(blk_cell BK448.out 1).trans rfl;have hfz37_0:=blk_frozen BK448.out 0;have hfz37_1:=blk_frozen BK448.out 1)|((with_reducible refine gate_callee (f:=66) rfl ?_);refine goesL_ (some 29) rfl rfl Tryd.func66 (by kernel_rfl) rfl #[.pointer (some ⟨g,0,none⟩),.int .i64 12] rfl (by (try simp only [List.map_toArray,List.map_cons,List.map_nil]);first|done|rfl|(simp only [List.length_drop,List.length_take];rfl)) ?_;(with_reducible refine (spec_l5Cur_pick.calls g s0_0 x1001_1 x1002_1 12 t450 t451 t452 w0 _ ?side1 ?side2 A11.out).mono ?_);(case side1=>repeat (first|(with_reducible first|exact HI0.out|apply IsS92.alloc|apply IsS92.drewN|apply IsS92.drew|apply IsS92.set_1|apply IsS92.set_2|refine IsS92.far ?_ NB0_444.out _|refine IsS92.far ?_ NB0_448.out _|refine IsS92.far ?_ NB0_449.out _)|exact HI0.out));(case side2=>repeat (first|(with_reducible first|exact HB.out|apply below_alloc|apply pw_below_drewN|apply below_drew1|refine below_set ?_ (IsS92.ge HI0.out)|refine below_set ?_ GE444.out|refine below_set ?_ GE448.out|refine below_set ?_ GE449.out)|exact HB.out));rintro e w38 ⟨rfl,hi,hb,hk⟩;refine ⟨_,rfl,?_⟩;have n0_:=Aside0.mk (Kd.R_mono (Kd.R_keep (IsS92.apart (show IsS92 w0 _ g s0_0 x1001_1 x1002_1 from by repeat (first|(with_reducible first|exact HI0.out|apply IsS92.alloc|apply IsS92.drewN|apply IsS92.drew|apply IsS92.set_1|apply IsS92.set_2|refine IsS92.far ?_ NB0_444.out _|refine IsS92.far ?_ NB0_448.out _|refine IsS92.far ?_ NB0_449.out _)|exact HI0.out)) (by exact (Kd.R_mono (Kd.R_far (p:=⟨gb449,1,none⟩) (Kd.R_far (p:=⟨gb449,1,none⟩) (Kd.R_far (p:=⟨gb449,0,none⟩) (Kd.R_mono HO_449001.out (fun k_ hk=>(⟨hk,hk.2⟩:_∧k_ ≠ gb449))) (fun _ hk=>hk.2) (.int .i64 (wrap64 (x4_1 - 1)))) (fun _ hk=>hk.2) (.int .i64 x4_1)) (fun _ hk=>hk.2) (.int .i64 (-1))) (fun _ h_=>h_.1))) (by decide)) hk (fun _ h=>h.2)) (fun _ h=>h.1));have n1_:=Aside0.mk (KeepBut.blk hk (g':=gb444) (o:=.cells #[.int .i64 0,.slice none 0 0] 31 (0,0)) (by refine blk_far ?_ NB444_449.out _;refine blk_far ?_ NB444_449.out _;refine blk_far ?_ NB444_449.out _;exact BK444.out) NB444_0.out (by simp));have n2_:=Aside0.mk (KeepBut.blk hk (g':=gb448) (o:=.cells #[.int .i64 (wrap64 (1+t445)),u449001] 31 (0,0)) (by refine blk_far ?_ NB448_449.out _;refine blk_far ?_ NB448_449.out _;refine blk_far ?_ NB448_449.out _;exact BK448.out) NB448_0.out (by simp));have n3_:=Aside0.mk (KeepBut.blk hk (g':=gb449) (o:=.cells #[.int .i64 (wrap64 (x4_1 - 1)),.int .i64 (-1)] 98 (0,0)) (by refine blk_put (cs:=#[.int .i64 (wrap64 (x4_1 - 1)),.int .i64 x4_1]) ?_ 1 _ rfl;refine blk_put (cs:=#[.int .i64 (wrap64 (x4_1 - 1)),.int .i64 0]) ?_ 1 _ rfl;refine blk_put (cs:=#[.int .i64 0,.int .i64 0]) ?_ 0 _ rfl;exact BK449.out) NB449_0.out (by simp));have n4_:=Aside0.mk (KeepBut.trans (by repeat (first|(with_reducible first|exact HK.out|apply KeepBut.set_|apply keep_drewN|apply keep_drew|apply keep_alloc|refine keep_far ?_ GW444.out _|refine keep_far ?_ GW448.out _|refine keep_far ?_ GW449.out _)|exact HK.out)) hk (.inl rfl));have n5_:=Aside0.mk (hb);have n6_:=Aside0.mk (hi);clear HO_449001;clear BK444;clear BK448;clear BK449;clear HK;clear HB;clear HI0;have HO_449001:=n0_;have BK444:=n1_;have BK448:=n2_;have BK449:=n3_;have HK:=n4_;have HB:=n5_;have HI0:=n6_;clear n0_ n1_ n2_ n3_ n4_ n5_ n6_;(try clear hb);(try clear hb2);(try clear hk);(try clear hi)))
     go_roundg k1
     case measure=>have:=HK1.out;omega
     case rel=>exact ⟨(wrap64 (x4_1+1)),(t451),(t452),(x449001_1),(u449001),(by first|rfl|(simp;done)|(simp [*];done)),H',⟨by have:=HK1.out;omega⟩,⟨by exact Kd.R_mono HO_449001.out (fun _ hk=>trivial)⟩,⟨by exact BK444.out⟩,⟨by exact BK448.out⟩,⟨by repeat (first|(with_reducible first|exact HI0.out|apply IsS92.alloc|apply IsS92.drewN|apply IsS92.drew|apply IsS92.set_1|apply IsS92.set_2|refine IsS92.far ?_ NB0_444.out _|refine IsS92.far ?_ NB0_448.out _|refine IsS92.far ?_ NB0_449.out _)|exact HI0.out)⟩,⟨by repeat (first|(with_reducible first|exact HK.out|apply KeepBut.set_|apply keep_drewN|apply keep_drew|apply keep_alloc|refine keep_far ?_ GW444.out _|refine keep_far ?_ GW448.out _|refine keep_far ?_ GW449.out _)|exact HK.out)⟩,⟨by repeat (first|(with_reducible first|exact HB.out|apply below_alloc|apply pw_below_drewN|apply below_drew1|refine below_set ?_ (IsS92.ge HI0.out)|refine below_set ?_ GE444.out|refine below_set ?_ GE448.out|refine below_set ?_ GE449.out)|exact HB.out)⟩⟩
    rw [if_neg c10] at H
    have c10b0:(x4_1==(wrap64 (1+t445)))=false:=beq_eq_false_iff_ne.mpr c10
    have c10b1:(x4_1 != (wrap64 (1+t445)))=true:=bne_iff_ne.mpr c10
    replace H:=Option.bind_eq_some_iff.mp H
    obtain ⟨⟨t456,t457,t458⟩,A390,H⟩:=H
    replace H:(if t456 > 0 then (if x449001_1.length<8796093022208 then (spec_l5Cur_layout.l0 k1 (wrap64 (x4_1+1)) s0_0 t457 t458 (wrap64 (1+t445)) (x449001_1 ++ [(⟨wrap64 (x4_1 - 1),x4_1⟩:S98)])) else (none)) else (spec_l5Cur_layout.l0 k1 (wrap64 (x4_1+1)) s0_0 t457 t458 (wrap64 (1+t445)) x449001_1))=some (r1,r2,r3,r4):=H
    have A39:=Aside0.mk A390
    clear A390
    by_cases c40:t456 > 0
    ·rw [if_pos c40] at H
     have c40b0:decide (0<t456)=true:=decide_eq_true c40
     clear c40
     by_cases c41:x449001_1.length<8796093022208
     ·rw [if_pos c41] at H
      have LMc41:=Aside0.mk c41
      clear c41
      obtain ⟨y459,hy459⟩:∃ y_:List (S98),y_=(x449001_1 ++ [(⟨wrap64 (x4_1 - 1),x4_1⟩:S98)]):=⟨_,rfl⟩
      replace H:(spec_l5Cur_layout.l0 k1 (wrap64 (x4_1+1)) s0_0 t457 t458 (wrap64 (1+t445)) y459)=some (r1,r2,r3,r4):=by first|(rw [hy459];with_reducible exact H)|(have H2_:=(Option.bind_some _ _).symm.trans H;rw [hy459];with_reducible exact H2_)|(have H2_:=(Option.bind_some _ _).symm.trans H;with_reducible exact H2_)|with_reducible exact H|(rw [hy459];exact H)|exact H
      have Ny459:=Aside0.mk hy459
      clear hy459
      have H':=Aside0.mk H
      clear H
      have hnb42:=NB448_444.out
      have hnc42:=NB444_448.out
      have hnb43:=NB448_0.out
      have hnc43:=NB0_448.out
      have hcz44_0:wr.cell? ⟨gb448,0,none⟩=some (.int .i64 (wrap64 (1+t445))):=(blk_cell BK448.out 0).trans rfl
      have hcz44_1:wr.cell? ⟨gb448,1,none⟩=some (u449001):=(blk_cell BK448.out 1).trans rfl
      have hfz44_0:=blk_frozen BK448.out 0
      have hfz44_1:=blk_frozen BK448.out 1
      go_wp2_with (first|((with_reducible refine gate_dst (N:=5) rfl ?_);refine box_event ?hg (N:=5) ?hd (cs:=#[.int .i64 0,.int .i64 0]) (t:=98) ?hr ?_;(case hd=>rfl);(case hg=>rfl);(case hr=>first|(go_simp;done)|(go_simp;rfl));intro gb449 hg w45 hbox hb;have n0_:=Aside0.mk (Kd.R_below (Kd.R_elderB (by exact HO_449001.out) gb449 (Nat.le_of_eq hg.symm)) hb);have n1_:=Aside0.mk (blk_below (g:=gb444) (o:=.cells #[.int .i64 0,.slice none 0 0] 31 (0,0)) (by exact BK444.out) hb);have n2_:=Aside0.mk (blk_below (g:=gb448) (o:=.cells #[.int .i64 (wrap64 (1+t445)),u449001] 31 (0,0)) (by exact BK448.out) hb);have n3_:=Aside0.mk (IsS92.below (by repeat (first|(with_reducible first|exact HI0.out|apply IsS92.alloc|apply IsS92.drewN|apply IsS92.drew|apply IsS92.set_1|apply IsS92.set_2|refine IsS92.far ?_ NB0_444.out _|refine IsS92.far ?_ NB0_448.out _)|exact HI0.out)) hb);have n4_:=Aside0.mk (KeepBut.trans (by repeat (first|(with_reducible first|exact HK.out|apply KeepBut.set_|apply keep_drewN|apply keep_drew|apply keep_alloc|refine keep_far ?_ GW444.out _|refine keep_far ?_ GW448.out _)|exact HK.out)) (KeepBut.of_below hb g none) (.inl rfl));have n5_:=Aside0.mk (below_step (by repeat (first|(with_reducible first|exact HB.out|apply below_alloc|apply pw_below_drewN|apply below_drew1|refine below_set ?_ (IsS92.ge HI0.out)|refine below_set ?_ GE444.out|refine below_set ?_ GE448.out)|exact HB.out)) hb);have n6_:=Aside0.mk (hbox);have n7_:=Aside0.mk ((by rw [hg];exact (keep_size (w:=w) (g:=g) (row:=none) (by repeat (first|(with_reducible first|exact HK.out|apply KeepBut.set_|apply keep_drewN|apply keep_drew|apply keep_alloc|refine keep_far ?_ GW444.out _|refine keep_far ?_ GW448.out _)|exact HK.out))):w.heap.size≤gb449));have n8_:=Aside0.mk ((Nat.le_trans HW0.out (by rw [hg];exact (keep_size (w:=w) (g:=g) (row:=none) (by repeat (first|(with_reducible first|exact HK.out|apply KeepBut.set_|apply keep_drewN|apply keep_drew|apply keep_alloc|refine keep_far ?_ GW444.out _|refine keep_far ?_ GW448.out _)|exact HK.out))):w.heap.size≤gb449):w0.heap.size≤gb449));have n9_:=Aside0.mk ((by rw [hg];exact Nat.ne_of_lt (blk_lt (g:=gb444) (o:=.cells #[.int .i64 0,.slice none 0 0] 31 (0,0)) (by exact BK444.out)):gb444 ≠ gb449));have n10_:=Aside0.mk ((by rw [hg];exact Nat.ne_of_gt (blk_lt (g:=gb444) (o:=.cells #[.int .i64 0,.slice none 0 0] 31 (0,0)) (by exact BK444.out)):gb449 ≠ gb444));have n11_:=Aside0.mk ((by rw [hg];exact Nat.ne_of_lt (blk_lt (g:=gb448) (o:=.cells #[.int .i64 (wrap64 (1+t445)),u449001] 31 (0,0)) (by exact BK448.out)):gb448 ≠ gb449));have n12_:=Aside0.mk ((by rw [hg];exact Nat.ne_of_gt (blk_lt (g:=gb448) (o:=.cells #[.int .i64 (wrap64 (1+t445)),u449001] 31 (0,0)) (by exact BK448.out)):gb449 ≠ gb448));have n13_:=Aside0.mk ((by rw [hg];exact Nat.ne_of_lt (IsS92.lt (show IsS92 w0 _ g s0_0 x1001_1 x1002_1 from by repeat (first|(with_reducible first|exact HI0.out|apply IsS92.alloc|apply IsS92.drewN|apply IsS92.drew|apply IsS92.set_1|apply IsS92.set_2|refine IsS92.far ?_ NB0_444.out _|refine IsS92.far ?_ NB0_448.out _)|exact HI0.out))):g ≠ gb449));have n14_:=Aside0.mk ((by rw [hg];exact Nat.ne_of_gt (IsS92.lt (show IsS92 w0 _ g s0_0 x1001_1 x1002_1 from by repeat (first|(with_reducible first|exact HI0.out|apply IsS92.alloc|apply IsS92.drewN|apply IsS92.drew|apply IsS92.set_1|apply IsS92.set_2|refine IsS92.far ?_ NB0_444.out _|refine IsS92.far ?_ NB0_448.out _)|exact HI0.out))):gb449 ≠ g));clear HO_449001;clear BK444;clear BK448;clear HI0;clear HK;clear HB;have HO_449001:=n0_;have BK444:=n1_;have BK448:=n2_;have HI0:=n3_;have HK:=n4_;have HB:=n5_;have BK449:=n6_;have GW449:=n7_;have GE449:=n8_;have NB444_449:=n9_;have NB449_444:=n10_;have NB448_449:=n11_;have NB449_448:=n12_;have NB0_449:=n13_;have NB449_0:=n14_;clear n0_ n1_ n2_ n3_ n4_ n5_ n6_ n7_ n8_ n9_ n10_ n11_ n12_ n13_ n14_;clear hb hbox hg;have hnb46:=NB449_444.out;have hnc46:=NB444_449.out;have hnb47:=NB449_448.out;have hnc47:=NB448_449.out;have hnb48:=NB449_0.out;have hnc48:=NB0_449.out;have hcz49_0:w45.cell? ⟨gb449,0,none⟩=some (.int .i64 0):=(blk_cell BK449.out 0).trans rfl;have hcz49_1:w45.cell? ⟨gb449,1,none⟩=some (.int .i64 0):=(blk_cell BK449.out 1).trans rfl;have hfz49_0:=blk_frozen BK449.out 0;have hfz49_1:=blk_frozen BK449.out 1;have hcz50_0:w45.cell? ⟨gb448,0,none⟩=some (.int .i64 (wrap64 (1+t445))):=(blk_cell BK448.out 0).trans rfl;have hcz50_1:w45.cell? ⟨gb448,1,none⟩=some (u449001):=(blk_cell BK448.out 1).trans rfl;have hfz50_0:=blk_frozen BK448.out 0;have hfz50_1:=blk_frozen BK448.out 1)|((with_reducible refine gate_callee (f:=66) rfl ?_);refine goesL_ (some 29) rfl rfl Tryd.func66 (by kernel_rfl) rfl #[.pointer (some ⟨g,0,none⟩),.int .i64 12] rfl (by (try simp only [List.map_toArray,List.map_cons,List.map_nil]);first|done|rfl|(simp only [List.length_drop,List.length_take];rfl)) ?_;(with_reducible refine (spec_l5Cur_pick.calls g s0_0 x1001_1 x1002_1 12 t456 t457 t458 w0 _ ?side1 ?side2 A39.out).mono ?_);(case side1=>repeat (first|(with_reducible first|exact HI0.out|apply IsS92.alloc|apply IsS92.drewN|apply IsS92.drew|apply IsS92.set_1|apply IsS92.set_2|refine IsS92.far ?_ NB0_444.out _|refine IsS92.far ?_ NB0_448.out _|refine IsS92.far ?_ NB0_449.out _)|exact HI0.out));(case side2=>repeat (first|(with_reducible first|exact HB.out|apply below_alloc|apply pw_below_drewN|apply below_drew1|refine below_set ?_ (IsS92.ge HI0.out)|refine below_set ?_ GE444.out|refine below_set ?_ GE448.out|refine below_set ?_ GE449.out)|exact HB.out));rintro e w51 ⟨rfl,hi,hb,hk⟩;refine ⟨_,rfl,?_⟩;have n0_:=Aside0.mk (Kd.R_mono (Kd.R_keep (IsS92.apart (show IsS92 w0 _ g s0_0 x1001_1 x1002_1 from by repeat (first|(with_reducible first|exact HI0.out|apply IsS92.alloc|apply IsS92.drewN|apply IsS92.drew|apply IsS92.set_1|apply IsS92.set_2|refine IsS92.far ?_ NB0_444.out _|refine IsS92.far ?_ NB0_448.out _|refine IsS92.far ?_ NB0_449.out _)|exact HI0.out)) (by exact (Kd.R_mono (Kd.R_far (p:=⟨gb449,1,none⟩) (Kd.R_far (p:=⟨gb449,0,none⟩) (Kd.R_mono HO_449001.out (fun k_ hk=>(⟨hk,hk.2⟩:_∧k_ ≠ gb449))) (fun _ hk=>hk.2) (.int .i64 (wrap64 (x4_1 - 1)))) (fun _ hk=>hk.2) (.int .i64 x4_1)) (fun _ h_=>h_.1))) (by decide)) hk (fun _ h=>h.2)) (fun _ h=>h.1));have n1_:=Aside0.mk (KeepBut.blk hk (g':=gb444) (o:=.cells #[.int .i64 0,.slice none 0 0] 31 (0,0)) (by refine blk_far ?_ NB444_449.out _;refine blk_far ?_ NB444_449.out _;exact BK444.out) NB444_0.out (by simp));have n2_:=Aside0.mk (KeepBut.blk hk (g':=gb448) (o:=.cells #[.int .i64 (wrap64 (1+t445)),u449001] 31 (0,0)) (by refine blk_far ?_ NB448_449.out _;refine blk_far ?_ NB448_449.out _;exact BK448.out) NB448_0.out (by simp));have n3_:=Aside0.mk (KeepBut.blk hk (g':=gb449) (o:=.cells #[.int .i64 (wrap64 (x4_1 - 1)),.int .i64 x4_1] 98 (0,0)) (by refine blk_put (cs:=#[.int .i64 (wrap64 (x4_1 - 1)),.int .i64 0]) ?_ 1 _ rfl;refine blk_put (cs:=#[.int .i64 0,.int .i64 0]) ?_ 0 _ rfl;exact BK449.out) NB449_0.out (by simp));have n4_:=Aside0.mk (KeepBut.trans (by repeat (first|(with_reducible first|exact HK.out|apply KeepBut.set_|apply keep_drewN|apply keep_drew|apply keep_alloc|refine keep_far ?_ GW444.out _|refine keep_far ?_ GW448.out _|refine keep_far ?_ GW449.out _)|exact HK.out)) hk (.inl rfl));have n5_:=Aside0.mk (hb);have n6_:=Aside0.mk (hi);clear HO_449001;clear BK444;clear BK448;clear BK449;clear HK;clear HB;clear HI0;have HO_449001:=n0_;have BK444:=n1_;have BK448:=n2_;have BK449:=n3_;have HK:=n4_;have HB:=n5_;have HI0:=n6_;clear n0_ n1_ n2_ n3_ n4_ n5_ n6_;(try clear hb);(try clear hb2);(try clear hk);(try clear hi);have hcz52_0:w51.cell? ⟨gb448,0,none⟩=some (.int .i64 (wrap64 (1+t445))):=(blk_cell BK448.out 0).trans rfl;have hcz52_1:w51.cell? ⟨gb448,1,none⟩=some (u449001):=(blk_cell BK448.out 1).trans rfl;have hfz52_0:=blk_frozen BK448.out 0;have hfz52_1:=blk_frozen BK448.out 1;have hcz53_0:w51.cell? ⟨gb449,0,none⟩=some (.int .i64 (wrap64 (x4_1 - 1))):=(blk_cell BK449.out 0).trans rfl;have hcz53_1:w51.cell? ⟨gb449,1,none⟩=some (.int .i64 x4_1):=(blk_cell BK449.out 1).trans rfl;have hfz53_0:=blk_frozen BK449.out 0;have hfz53_1:=blk_frozen BK449.out 1)|((with_reducible refine gate_builtin (b:=.append) (xs:=#[.tmp 32,.tmp 34]) rfl ?_);at_builtin;refine Kd.R_append k98 w.heap.size rfl (.tmp 32) (.tmp 34) 29 98 (.agg #[(.int .i64 0),(.int .i64 0)]) 16 rfl Tryd.underlying29 info98 rfl (by decide) (by omega) u449001 x449001_1 (⟨wrap64 (x4_1 - 1),x4_1⟩:S98) [.int .i64 (wrap64 (x4_1 - 1)),.int .i64 x4_1] (fun k_=>k_ ≠ gb449) (fun _=>False) rfl rfl ?aP (fun _ hk=>hk.elim) ?aF ?aO (Below.refl _ _) ?aS ?aL ?_;(case aP=>exact k98_mkM _ _ _ (⟨wrap64 (x4_1 - 1),x4_1⟩:S98));(case aF=>exact (fun k_ hk=>Kd.freshB (g:=gb449) (o:=.cells #[.int .i64 (wrap64 (x4_1 - 1)),.int .i64 x4_1] 98 (0,0)) (by exact BK449.out) k_ hk));(case aO=>exact (by exact Kd.R_mono HO_449001.out (fun _ hk=>hk.2)));(case aS=>exact (keep_size (w:=w) (g:=g) (row:=none) (by repeat (first|(with_reducible first|exact HK.out|apply KeepBut.set_|apply keep_drewN|apply keep_drew|apply keep_alloc|refine keep_far ?_ GW444.out _|refine keep_far ?_ GW448.out _|refine keep_far ?_ GW449.out _)|exact HK.out))));(case aL=>have:=LMc41.out;omega);intro v460 w54 ho hb hg hat;rw [← Ny459.out] at ho;have n0_:=Aside0.mk (blk_grown (g:=gb444) (o:=.cells #[.int .i64 0,.slice none 0 0] 31 (0,0)) (by exact BK444.out) hg (Kd.R_ne HO_449001.out BK444.out (by decide)));have n1_:=Aside0.mk (blk_grown (g:=gb448) (o:=.cells #[.int .i64 (wrap64 (1+t445)),u449001] 31 (0,0)) (by exact BK448.out) hg (Kd.R_ne HO_449001.out BK448.out (by decide)));have n2_:=Aside0.mk (IsS92.grown (by repeat (first|(with_reducible first|exact HI0.out|apply IsS92.alloc|apply IsS92.drewN|apply IsS92.drew|apply IsS92.set_1|apply IsS92.set_2|refine IsS92.far ?_ NB0_444.out _|refine IsS92.far ?_ NB0_448.out _|refine IsS92.far ?_ NB0_449.out _)|exact HI0.out)) hg (IsS92.own_ne HI0.out HO_449001.out (by decide)));have n3_:=Aside0.mk (blk_grown (g:=gb449) (o:=.cells #[.int .i64 (wrap64 (x4_1 - 1)),.int .i64 x4_1] 98 (0,0)) (by exact BK449.out) hg (Kd.R_away HO_449001.out (fun _ hk=>hk.2)));have n4_:=Aside0.mk (below_weaken (by repeat (first|(with_reducible first|exact HB.out|apply below_alloc|apply pw_below_drewN|apply below_drew1|refine below_set ?_ (IsS92.ge HI0.out)|refine below_set ?_ GE444.out|refine below_set ?_ GE448.out|refine below_set ?_ GE449.out)|exact HB.out)) HL.out hb);have n5_:=Aside0.mk (KeepBut.trans (by repeat (first|(with_reducible first|exact HK.out|apply KeepBut.set_|apply keep_drewN|apply keep_drew|apply keep_alloc|refine keep_far ?_ GW444.out _|refine keep_far ?_ GW448.out _|refine keep_far ?_ GW449.out _)|exact HK.out)) (KeepBut.of_grown hg g) (Kd.R_base2 HO_449001.out));have n6_:=Aside0.mk (ho);clear BK444;clear BK448;clear HI0;clear BK449;clear HB;clear HK;clear HO_449001;have BK444:=n0_;have BK448:=n1_;have HI0:=n2_;have BK449:=n3_;have HB:=n4_;have HK:=n5_;have HO461:=n6_;clear n0_ n1_ n2_ n3_ n4_ n5_ n6_;clear ho hb hg hat;obtain ⟨Ao55,co55,eo55⟩:=Kd.R_slice HO461.out;subst eo55;have hcz56_0:w54.cell? ⟨gb448,0,none⟩=some (.int .i64 (wrap64 (1+t445))):=(blk_cell BK448.out 0).trans rfl;have hcz56_1:w54.cell? ⟨gb448,1,none⟩=some (u449001):=(blk_cell BK448.out 1).trans rfl;have hfz56_0:=blk_frozen BK448.out 0;have hfz56_1:=blk_frozen BK448.out 1))
      go_roundg k1
      case measure=>have:=HK1.out;omega
      case rel=>exact ⟨(wrap64 (x4_1+1)),(t457),(t458),(y459),(.slice Ao55 y459.length co55),(by first|rfl|(simp;done)|(simp [*];done)),H',⟨by have:=HK1.out;omega⟩,⟨by exact Kd.R_mono (Kd.R_far (p:=⟨gb448,1,none⟩) (Kd.R_types HO461.out BK448.out (by decide)) (fun _ hk=>hk.2) (.slice Ao55 y459.length co55)) (fun _ hk=>trivial)⟩,⟨by refine blk_far ?_ NB444_448.out _;exact BK444.out⟩,⟨by refine blk_put (cs:=#[.int .i64 (wrap64 (1+t445)),u449001]) ?_ 1 _ rfl;exact BK448.out⟩,⟨by repeat (first|(with_reducible first|exact HI0.out|apply IsS92.alloc|apply IsS92.drewN|apply IsS92.drew|apply IsS92.set_1|apply IsS92.set_2|refine IsS92.far ?_ NB0_444.out _|refine IsS92.far ?_ NB0_448.out _|refine IsS92.far ?_ NB0_449.out _)|exact HI0.out)⟩,⟨by repeat (first|(with_reducible first|exact HK.out|apply KeepBut.set_|apply keep_drewN|apply keep_drew|apply keep_alloc|refine keep_far ?_ GW444.out _|refine keep_far ?_ GW448.out _|refine keep_far ?_ GW449.out _)|exact HK.out)⟩,⟨by repeat (first|(with_reducible first|exact HB.out|apply below_alloc|apply pw_below_drewN|apply below_drew1|refine below_set ?_ (IsS92.ge HI0.out)|refine below_set ?_ GE444.out|refine below_set ?_ GE448.out|refine below_set ?_ GE449.out)|exact HB.out)⟩⟩
     rw [if_neg c41] at H
     exact absurd H (by simp)
    rw [if_neg c40] at H
    have c40b0:decide (0<t456)=false:=decide_eq_false c40
    clear c40
    have H':=Aside0.mk H
    clear H
    have hnb57:=NB448_444.out
    have hnc57:=NB444_448.out
    have hnb58:=NB448_0.out
    have hnc58:=NB0_448.out
    have hcz59_0:wr.cell? ⟨gb448,0,none⟩=some (.int .i64 (wrap64 (1+t445))):=(blk_cell BK448.out 0).trans rfl
    have hcz59_1:wr.cell? ⟨gb448,1,none⟩=some (u449001):=(blk_cell BK448.out 1).trans rfl
    have hfz59_0:=blk_frozen BK448.out 0
    have hfz59_1:=blk_frozen BK448.out 1
    go_wp2_with (first|((with_reducible refine gate_dst (N:=5) rfl ?_);refine box_event ?hg (N:=5) ?hd (cs:=#[.int .i64 0,.int .i64 0]) (t:=98) ?hr ?_;(case hd=>rfl);(case hg=>rfl);(case hr=>first|(go_simp;done)|(go_simp;rfl));intro gb449 hg w60 hbox hb;have n0_:=Aside0.mk (Kd.R_below (Kd.R_elderB (by exact HO_449001.out) gb449 (Nat.le_of_eq hg.symm)) hb);have n1_:=Aside0.mk (blk_below (g:=gb444) (o:=.cells #[.int .i64 0,.slice none 0 0] 31 (0,0)) (by exact BK444.out) hb);have n2_:=Aside0.mk (blk_below (g:=gb448) (o:=.cells #[.int .i64 (wrap64 (1+t445)),u449001] 31 (0,0)) (by exact BK448.out) hb);have n3_:=Aside0.mk (IsS92.below (by repeat (first|(with_reducible first|exact HI0.out|apply IsS92.alloc|apply IsS92.drewN|apply IsS92.drew|apply IsS92.set_1|apply IsS92.set_2|refine IsS92.far ?_ NB0_444.out _|refine IsS92.far ?_ NB0_448.out _)|exact HI0.out)) hb);have n4_:=Aside0.mk (KeepBut.trans (by repeat (first|(with_reducible first|exact HK.out|apply KeepBut.set_|apply keep_drewN|apply keep_drew|apply keep_alloc|refine keep_far ?_ GW444.out _|refine keep_far ?_ GW448.out _)|exact HK.out)) (KeepBut.of_below hb g none) (.inl rfl));have n5_:=Aside0.mk (below_step (by repeat (first|(with_reducible first|exact HB.out|apply below_alloc|apply pw_below_drewN|apply below_drew1|refine below_set ?_ (IsS92.ge HI0.out)|refine below_set ?_ GE444.out|refine below_set ?_ GE448.out)|exact HB.out)) hb);have n6_:=Aside0.mk (hbox);have n7_:=Aside0.mk ((by rw [hg];exact (keep_size (w:=w) (g:=g) (row:=none) (by repeat (first|(with_reducible first|exact HK.out|apply KeepBut.set_|apply keep_drewN|apply keep_drew|apply keep_alloc|refine keep_far ?_ GW444.out _|refine keep_far ?_ GW448.out _)|exact HK.out))):w.heap.size≤gb449));have n8_:=Aside0.mk ((Nat.le_trans HW0.out (by rw [hg];exact (keep_size (w:=w) (g:=g) (row:=none) (by repeat (first|(with_reducible first|exact HK.out|apply KeepBut.set_|apply keep_drewN|apply keep_drew|apply keep_alloc|refine keep_far ?_ GW444.out _|refine keep_far ?_ GW448.out _)|exact HK.out))):w.heap.size≤gb449):w0.heap.size≤gb449));have n9_:=Aside0.mk ((by rw [hg];exact Nat.ne_of_lt (blk_lt (g:=gb444) (o:=.cells #[.int .i64 0,.slice none 0 0] 31 (0,0)) (by exact BK444.out)):gb444 ≠ gb449));have n10_:=Aside0.mk ((by rw [hg];exact Nat.ne_of_gt (blk_lt (g:=gb444) (o:=.cells #[.int .i64 0,.slice none 0 0] 31 (0,0)) (by exact BK444.out)):gb449 ≠ gb444));have n11_:=Aside0.mk ((by rw [hg];exact Nat.ne_of_lt (blk_lt (g:=gb448) (o:=.cells #[.int .i64 (wrap64 (1+t445)),u449001] 31 (0,0)) (by exact BK448.out)):gb448 ≠ gb449));have n12_:=Aside0.mk ((by rw [hg];exact Nat.ne_of_gt (blk_lt (g:=gb448) (o:=.cells #[.int .i64 (wrap64 (1+t445)),u449001] 31 (0,0)) (by exact BK448.out)):gb449 ≠ gb448));have n13_:=Aside0.mk ((by rw [hg];exact Nat.ne_of_lt (IsS92.lt (show IsS92 w0 _ g s0_0 x1001_1 x1002_1 from by repeat (first|(with_reducible first|exact HI0.out|apply IsS92.alloc|apply IsS92.drewN|apply IsS92.drew|apply IsS92.set_1|apply IsS92.set_2|refine IsS92.far ?_ NB0_444.out _|refine IsS92.far ?_ NB0_448.out _)|exact HI0.out))):g ≠ gb449));have n14_:=Aside0.mk ((by rw [hg];exact Nat.ne_of_gt (IsS92.lt (show IsS92 w0 _ g s0_0 x1001_1 x1002_1 from by repeat (first|(with_reducible first|exact HI0.out|apply IsS92.alloc|apply IsS92.drewN|apply IsS92.drew|apply IsS92.set_1|apply IsS92.set_2|refine IsS92.far ?_ NB0_444.out _|refine IsS92.far ?_ NB0_448.out _)|exact HI0.out))):gb449 ≠ g));clear HO_449001;clear BK444;clear BK448;clear HI0;clear HK;clear HB;have HO_449001:=n0_;have BK444:=n1_;have BK448:=n2_;have HI0:=n3_;have HK:=n4_;have HB:=n5_;have BK449:=n6_;have GW449:=n7_;have GE449:=n8_;have NB444_449:=n9_;have NB449_444:=n10_;have NB448_449:=n11_;have NB449_448:=n12_;have NB0_449:=n13_;have NB449_0:=n14_;clear n0_ n1_ n2_ n3_ n4_ n5_ n6_ n7_ n8_ n9_ n10_ n11_ n12_ n13_ n14_;clear hb hbox hg;have hnb61:=NB449_444.out;have hnc61:=NB444_449.out;have hnb62:=NB449_448.out;have hnc62:=NB448_449.out;have hnb63:=NB449_0.out;have hnc63:=NB0_449.out;have hcz64_0:w60.cell? ⟨gb449,0,none⟩=some (.int .i64 0):=(blk_cell BK449.out 0).trans rfl;have hcz64_1:w60.cell? ⟨gb449,1,none⟩=some (.int .i64 0):=(blk_cell BK449.out 1).trans rfl;have hfz64_0:=blk_frozen BK449.out 0;have hfz64_1:=blk_frozen BK449.out 1;have hcz65_0:w60.cell? ⟨gb448,0,none⟩=some (.int .i64 (wrap64 (1+t445))):=(blk_cell BK448.out 0).trans rfl;have hcz65_1:w60.cell? ⟨gb448,1,none⟩=some (u449001):=(blk_cell BK448.out 1).trans rfl;have hfz65_0:=blk_frozen BK448.out 0;have hfz65_1:=blk_frozen BK448.out 1)|((with_reducible refine gate_callee (f:=66) rfl ?_);refine goesL_ (some 29) rfl rfl Tryd.func66 (by kernel_rfl) rfl #[.pointer (some ⟨g,0,none⟩),.int .i64 12] rfl (by (try simp only [List.map_toArray,List.map_cons,List.map_nil]);first|done|rfl|(simp only [List.length_drop,List.length_take];rfl)) ?_;(with_reducible refine (spec_l5Cur_pick.calls g s0_0 x1001_1 x1002_1 12 t456 t457 t458 w0 _ ?side1 ?side2 A39.out).mono ?_);(case side1=>repeat (first|(with_reducible first|exact HI0.out|apply IsS92.alloc|apply IsS92.drewN|apply IsS92.drew|apply IsS92.set_1|apply IsS92.set_2|refine IsS92.far ?_ NB0_444.out _|refine IsS92.far ?_ NB0_448.out _|refine IsS92.far ?_ NB0_449.out _)|exact HI0.out));(case side2=>repeat (first|(with_reducible first|exact HB.out|apply below_alloc|apply pw_below_drewN|apply below_drew1|refine below_set ?_ (IsS92.ge HI0.out)|refine below_set ?_ GE444.out|refine below_set ?_ GE448.out|refine below_set ?_ GE449.out)|exact HB.out));rintro e w66 ⟨rfl,hi,hb,hk⟩;refine ⟨_,rfl,?_⟩;have n0_:=Aside0.mk (Kd.R_mono (Kd.R_keep (IsS92.apart (show IsS92 w0 _ g s0_0 x1001_1 x1002_1 from by repeat (first|(with_reducible first|exact HI0.out|apply IsS92.alloc|apply IsS92.drewN|apply IsS92.drew|apply IsS92.set_1|apply IsS92.set_2|refine IsS92.far ?_ NB0_444.out _|refine IsS92.far ?_ NB0_448.out _|refine IsS92.far ?_ NB0_449.out _)|exact HI0.out)) (by exact (Kd.R_mono (Kd.R_far (p:=⟨gb449,1,none⟩) (Kd.R_far (p:=⟨gb449,0,none⟩) (Kd.R_mono HO_449001.out (fun k_ hk=>(⟨hk,hk.2⟩:_∧k_ ≠ gb449))) (fun _ hk=>hk.2) (.int .i64 (wrap64 (x4_1 - 1)))) (fun _ hk=>hk.2) (.int .i64 x4_1)) (fun _ h_=>h_.1))) (by decide)) hk (fun _ h=>h.2)) (fun _ h=>h.1));have n1_:=Aside0.mk (KeepBut.blk hk (g':=gb444) (o:=.cells #[.int .i64 0,.slice none 0 0] 31 (0,0)) (by refine blk_far ?_ NB444_449.out _;refine blk_far ?_ NB444_449.out _;exact BK444.out) NB444_0.out (by simp));have n2_:=Aside0.mk (KeepBut.blk hk (g':=gb448) (o:=.cells #[.int .i64 (wrap64 (1+t445)),u449001] 31 (0,0)) (by refine blk_far ?_ NB448_449.out _;refine blk_far ?_ NB448_449.out _;exact BK448.out) NB448_0.out (by simp));have n3_:=Aside0.mk (KeepBut.blk hk (g':=gb449) (o:=.cells #[.int .i64 (wrap64 (x4_1 - 1)),.int .i64 x4_1] 98 (0,0)) (by refine blk_put (cs:=#[.int .i64 (wrap64 (x4_1 - 1)),.int .i64 0]) ?_ 1 _ rfl;refine blk_put (cs:=#[.int .i64 0,.int .i64 0]) ?_ 0 _ rfl;exact BK449.out) NB449_0.out (by simp));have n4_:=Aside0.mk (KeepBut.trans (by repeat (first|(with_reducible first|exact HK.out|apply KeepBut.set_|apply keep_drewN|apply keep_drew|apply keep_alloc|refine keep_far ?_ GW444.out _|refine keep_far ?_ GW448.out _|refine keep_far ?_ GW449.out _)|exact HK.out)) hk (.inl rfl));have n5_:=Aside0.mk (hb);have n6_:=Aside0.mk (hi);clear HO_449001;clear BK444;clear BK448;clear BK449;clear HK;clear HB;clear HI0;have HO_449001:=n0_;have BK444:=n1_;have BK448:=n2_;have BK449:=n3_;have HK:=n4_;have HB:=n5_;have HI0:=n6_;clear n0_ n1_ n2_ n3_ n4_ n5_ n6_;(try clear hb);(try clear hb2);(try clear hk);(try clear hi)))
    go_roundg k1
    case measure=>have:=HK1.out;omega
    case rel=>exact ⟨(wrap64 (x4_1+1)),(t457),(t458),(x449001_1),(u449001),(by first|rfl|(simp;done)|(simp [*];done)),H',⟨by have:=HK1.out;omega⟩,⟨by exact Kd.R_mono HO_449001.out (fun _ hk=>trivial)⟩,⟨by exact BK444.out⟩,⟨by exact BK448.out⟩,⟨by repeat (first|(with_reducible first|exact HI0.out|apply IsS92.alloc|apply IsS92.drewN|apply IsS92.drew|apply IsS92.set_1|apply IsS92.set_2|refine IsS92.far ?_ NB0_444.out _|refine IsS92.far ?_ NB0_448.out _|refine IsS92.far ?_ NB0_449.out _)|exact HI0.out)⟩,⟨by repeat (first|(with_reducible first|exact HK.out|apply KeepBut.set_|apply keep_drewN|apply keep_drew|apply keep_alloc|refine keep_far ?_ GW444.out _|refine keep_far ?_ GW448.out _|refine keep_far ?_ GW449.out _)|exact HK.out)⟩,⟨by repeat (first|(with_reducible first|exact HB.out|apply below_alloc|apply pw_below_drewN|apply below_drew1|refine below_set ?_ (IsS92.ge HI0.out)|refine below_set ?_ GE444.out|refine below_set ?_ GE448.out|refine below_set ?_ GE449.out)|exact HB.out)⟩⟩
   rw [if_neg c9] at H
   have c9b0:decide (x4_1≤(wrap64 (1+t445)))=false:=decide_eq_false c9
   clear c9
   replace H:=Option.bind_eq_some_iff.mp H
   obtain ⟨⟨t462,t463,t464⟩,A670,H⟩:=H
   replace H:(spec_l5Cur_layout.l1 k1 t462 s0_0 t463 t464 (wrap64 (1+t445)) x449001_1)=some (r1,r2,r3,r4):=H
   have A67:=Aside0.mk A670
   clear A670
   have H':=Aside0.mk H
   clear H
   have hnb68:=NB448_444.out
   have hnc68:=NB444_448.out
   have hnb69:=NB448_0.out
   have hnc69:=NB0_448.out
   have hcz70_0:wr.cell? ⟨gb448,0,none⟩=some (.int .i64 (wrap64 (1+t445))):=(blk_cell BK448.out 0).trans rfl
   have hcz70_1:wr.cell? ⟨gb448,1,none⟩=some (u449001):=(blk_cell BK448.out 1).trans rfl
   have hfz70_0:=blk_frozen BK448.out 0
   have hfz70_1:=blk_frozen BK448.out 1
   go_wp2_with (first|((with_reducible refine gate_callee (f:=66) rfl ?_);refine goesL_ (some 38) rfl rfl Tryd.func66 (by kernel_rfl) rfl #[.pointer (some ⟨g,0,none⟩),.int .i64 3] rfl (by (try simp only [List.map_toArray,List.map_cons,List.map_nil]);first|done|rfl|(simp only [List.length_drop,List.length_take];rfl)) ?_;(with_reducible refine (spec_l5Cur_pick.calls g s0_0 x1001_1 x1002_1 3 t462 t463 t464 w0 _ ?side1 ?side2 A67.out).mono ?_);(case side1=>repeat (first|(with_reducible first|exact HI0.out|apply IsS92.alloc|apply IsS92.drewN|apply IsS92.drew|apply IsS92.set_1|apply IsS92.set_2|refine IsS92.far ?_ NB0_444.out _|refine IsS92.far ?_ NB0_448.out _)|exact HI0.out));(case side2=>repeat (first|(with_reducible first|exact HB.out|apply below_alloc|apply pw_below_drewN|apply below_drew1|refine below_set ?_ (IsS92.ge HI0.out)|refine below_set ?_ GE444.out|refine below_set ?_ GE448.out)|exact HB.out));rintro e w71 ⟨rfl,hi,hb,hk⟩;refine ⟨_,rfl,?_⟩;have n0_:=Aside0.mk (Kd.R_mono (Kd.R_keep (IsS92.apart (show IsS92 w0 _ g s0_0 x1001_1 x1002_1 from by repeat (first|(with_reducible first|exact HI0.out|apply IsS92.alloc|apply IsS92.drewN|apply IsS92.drew|apply IsS92.set_1|apply IsS92.set_2|refine IsS92.far ?_ NB0_444.out _|refine IsS92.far ?_ NB0_448.out _)|exact HI0.out)) (by exact HO_449001.out) (by decide)) hk (fun _ h=>h.2)) (fun _ h=>h.1));have n1_:=Aside0.mk (KeepBut.blk hk (g':=gb444) (o:=.cells #[.int .i64 0,.slice none 0 0] 31 (0,0)) (by exact BK444.out) NB444_0.out (by simp));have n2_:=Aside0.mk (KeepBut.blk hk (g':=gb448) (o:=.cells #[.int .i64 (wrap64 (1+t445)),u449001] 31 (0,0)) (by exact BK448.out) NB448_0.out (by simp));have n3_:=Aside0.mk (KeepBut.trans (by repeat (first|(with_reducible first|exact HK.out|apply KeepBut.set_|apply keep_drewN|apply keep_drew|apply keep_alloc|refine keep_far ?_ GW444.out _|refine keep_far ?_ GW448.out _)|exact HK.out)) hk (.inl rfl));have n4_:=Aside0.mk (hb);have n5_:=Aside0.mk (hi);clear HO_449001;clear BK444;clear BK448;clear HK;clear HB;clear HI0;have HO_449001:=n0_;have BK444:=n1_;have BK448:=n2_;have HK:=n3_;have HB:=n4_;have HI0:=n5_;clear n0_ n1_ n2_ n3_ n4_ n5_;(try clear hb);(try clear hb2);(try clear hk);(try clear hi)))
   go_loopg [6] k1 (fun kq v6 w'=>∃ (x6_2:Int) (x1001_2:Int) (x1002_2:Int) (x449001_2:List (S98)) (u449001:Value),v6=.int .i64 x6_2∧Aside0 (spec_l5Cur_layout.l1 kq x6_2 s0_0 x1001_2 x1002_2 (wrap64 (1+t445)) x449001_2=some (r1,r2,r3,r4))∧Aside0 (kq≤k1)∧Aside0 (Kd.R k98 98 w' w.heap.size (fun _=>True) u449001 x449001_2)∧Aside0 (w'.heap[gb444]?=some (.cells #[.int .i64 0,(.slice none 0 0)] 31 (0,0)))∧Aside0 (w'.heap[gb448]?=some (.cells #[.int .i64 (wrap64 (1+t445)),u449001] 31 (0,0)))∧Aside0 (IsS92 w0 w' g s0_0 x1001_2 x1002_2)∧Aside0 (KeepBut w w' g none)∧Aside0 (Below w0.heap.size w0 w'))
   case atStart=>exact ⟨(t462),(t463),(t464),(x449001_1),(u449001),(by first|rfl|(simp;done)|(simp [*];done)),H',⟨Nat.le_refl _⟩,⟨by exact HO_449001.out⟩,⟨by exact BK444.out⟩,⟨by exact BK448.out⟩,⟨by repeat (first|(with_reducible first|exact HI0.out|apply IsS92.alloc|apply IsS92.drewN|apply IsS92.drew|apply IsS92.set_1|apply IsS92.set_2|refine IsS92.far ?_ NB0_444.out _|refine IsS92.far ?_ NB0_448.out _)|exact HI0.out)⟩,⟨by repeat (first|(with_reducible first|exact HK.out|apply KeepBut.set_|apply keep_drewN|apply keep_drew|apply keep_alloc|refine keep_far ?_ GW444.out _|refine keep_far ?_ GW448.out _)|exact HK.out)⟩,⟨by repeat (first|(with_reducible first|exact HB.out|apply below_alloc|apply pw_below_drewN|apply below_drew1|refine below_set ?_ (IsS92.ge HI0.out)|refine below_set ?_ GE444.out|refine below_set ?_ GE448.out)|exact HB.out)⟩⟩
   case round =>
    clear H'
    try clear c1
    try clear c2
    try clear p2
    try clear c3
    try clear c4
    try clear c5
    try clear c6
    try clear p6
    try clear c7
    try clear c9
    try clear c9b0
    try clear c10
    try clear c10b0
    try clear c10b1
    try clear c12
    try clear c12b0
    try clear c13
    try clear c14
    try clear c15
    try clear c18
    try clear c19
    try clear c20
    try clear c29
    try clear c30
    try clear c33
    try clear c34
    try clear c35
    try clear c40
    try clear c40b0
    try clear c41
    try clear c42
    try clear c43
    try clear c46
    try clear c47
    try clear c48
    try clear c49
    try clear c57
    try clear c58
    try clear c61
    try clear c62
    try clear c63
    try clear p64
    try clear c66
    try clear c68
    try clear c69
    try clear hcz16_0
    try clear hcz16_1
    try clear hcz21_0
    try clear hcz21_1
    try clear hcz22_0
    try clear hcz22_1
    try clear hcz24_0
    try clear hcz24_1
    try clear hcz25_0
    try clear hcz25_1
    try clear hcz28_0
    try clear hcz28_1
    try clear hcz31_0
    try clear hcz31_1
    try clear hcz36_0
    try clear hcz36_1
    try clear hcz37_0
    try clear hcz37_1
    try clear hcz44_0
    try clear hcz44_1
    try clear hcz49_0
    try clear hcz49_1
    try clear hcz50_0
    try clear hcz50_1
    try clear hcz52_0
    try clear hcz52_1
    try clear hcz53_0
    try clear hcz53_1
    try clear hcz56_0
    try clear hcz56_1
    try clear hcz59_0
    try clear hcz59_1
    try clear hcz64_0
    try clear hcz64_1
    try clear hcz65_0
    try clear hcz65_1
    try clear hcz70_0
    try clear hcz70_1
    try clear hcz8_0
    try clear hcz8_1
    try clear hfz16_0
    try clear hfz16_1
    try clear hfz21_0
    try clear hfz21_1
    try clear hfz22_0
    try clear hfz22_1
    try clear hfz24_0
    try clear hfz24_1
    try clear hfz25_0
    try clear hfz25_1
    try clear hfz28_0
    try clear hfz28_1
    try clear hfz31_0
    try clear hfz31_1
    try clear hfz36_0
    try clear hfz36_1
    try clear hfz37_0
    try clear hfz37_1
    try clear hfz44_0
    try clear hfz44_1
    try clear hfz49_0
    try clear hfz49_1
    try clear hfz50_0
    try clear hfz50_1
    try clear hfz52_0
    try clear hfz52_1
    try clear hfz53_0
    try clear hfz53_1
    try clear hfz56_0
    try clear hfz56_1
    try clear hfz59_0
    try clear hfz59_1
    try clear hfz64_0
    try clear hfz64_1
    try clear hfz65_0
    try clear hfz65_1
    try clear hfz70_0
    try clear hfz70_1
    try clear hfz8_0
    try clear hfz8_1
    try clear p2
    try clear p6
    obtain ⟨x6_2,x1001_2,x1002_2,x449001_2,u449001,rfl,HA,HK2,HO_449001,BK444,BK448,HI0,HK,HB⟩:=hrel
    cases gk with
    | zero=>exact absurd HA.out (by simp [spec_l5Cur_layout.l1])
    | succ k2 =>
     have H:=HA.out
     clear HA
     simp only [spec_l5Cur_layout.l1] at H
     by_cases c72:x6_2 > 0
     ·rw [if_pos c72] at H
      have c72b0:decide (0<x6_2)=true:=decide_eq_true c72
      clear c72
      replace H:=Option.bind_eq_some_iff.mp H
      obtain ⟨⟨t465,t466,t467⟩,A730,H⟩:=H
      replace H:((spec_l5Cur_pick.f s0_0 t466 t467 (wrap64 ((wrap64 (1+t445))+1))).bind fun bt468=>(if (wrap64 (t465 - 1))=(wrap64 (bt468.1 - 1)) then (spec_l5Cur_layout.l1 k2 (wrap64 (x6_2 - 1)) s0_0 bt468.2.1 bt468.2.2 (wrap64 (1+t445)) x449001_2) else (if x449001_2.length<8796093022208 then (spec_l5Cur_layout.l1 k2 (wrap64 (x6_2 - 1)) s0_0 bt468.2.1 bt468.2.2 (wrap64 (1+t445)) (x449001_2 ++ [(⟨wrap64 (t465 - 1),wrap64 (bt468.1 - 1)⟩:S98)])) else (none))))=some (r1,r2,r3,r4):=H
      have A73:=Aside0.mk A730
      clear A730
      replace H:=Option.bind_eq_some_iff.mp H
      obtain ⟨⟨t468,t469,t470⟩,A740,H⟩:=H
      replace H:(if (wrap64 (t465 - 1))=(wrap64 (t468 - 1)) then (spec_l5Cur_layout.l1 k2 (wrap64 (x6_2 - 1)) s0_0 t469 t470 (wrap64 (1+t445)) x449001_2) else (if x449001_2.length<8796093022208 then (spec_l5Cur_layout.l1 k2 (wrap64 (x6_2 - 1)) s0_0 t469 t470 (wrap64 (1+t445)) (x449001_2 ++ [(⟨wrap64 (t465 - 1),wrap64 (t468 - 1)⟩:S98)])) else (none)))=some (r1,r2,r3,r4):=H
      have A74:=Aside0.mk A740
      clear A740
      by_cases c75:(wrap64 (t465 - 1))=(wrap64 (t468 - 1))
      ·rw [if_pos c75] at H
       have c75b0:((wrap64 (t465 - 1))==(wrap64 (t468 - 1)))=true:=beq_iff_eq.mpr c75
       have c75b1:((wrap64 (t465 - 1)) != (wrap64 (t468 - 1)))=false:=bne_eq_false_iff_eq.mpr c75
       clear c75
       have H':=Aside0.mk H
       clear H
       have hnb76:=NB448_444.out
       have hnc76:=NB444_448.out
       have hnb77:=NB448_0.out
       have hnc77:=NB0_448.out
       have hcz78_0:wr.cell? ⟨gb448,0,none⟩=some (.int .i64 (wrap64 (1+t445))):=(blk_cell BK448.out 0).trans rfl
       have hcz78_1:wr.cell? ⟨gb448,1,none⟩=some (u449001):=(blk_cell BK448.out 1).trans rfl
       have hfz78_0:=blk_frozen BK448.out 0
       have hfz78_1:=blk_frozen BK448.out 1
       go_wp2_with (first|((with_reducible refine gate_callee (f:=66) rfl ?_);refine goesL_ (some 47) rfl rfl Tryd.func66 (by kernel_rfl) rfl #[.pointer (some ⟨g,0,none⟩),.int .i64 (wrap64 ((wrap64 (1+t445))+1))] rfl (by (try simp only [List.map_toArray,List.map_cons,List.map_nil]);first|done|rfl|(simp only [List.length_drop,List.length_take];rfl)) ?_;(with_reducible refine (spec_l5Cur_pick.calls g s0_0 x1001_2 x1002_2 (wrap64 ((wrap64 (1+t445))+1)) t465 t466 t467 w0 _ ?side1 ?side2 A73.out).mono ?_);(case side1=>repeat (first|(with_reducible first|exact HI0.out|apply IsS92.alloc|apply IsS92.drewN|apply IsS92.drew|apply IsS92.set_1|apply IsS92.set_2|refine IsS92.far ?_ NB0_444.out _|refine IsS92.far ?_ NB0_448.out _)|exact HI0.out));(case side2=>repeat (first|(with_reducible first|exact HB.out|apply below_alloc|apply pw_below_drewN|apply below_drew1|refine below_set ?_ (IsS92.ge HI0.out)|refine below_set ?_ GE444.out|refine below_set ?_ GE448.out)|exact HB.out));rintro e w79 ⟨rfl,hi,hb,hk⟩;refine ⟨_,rfl,?_⟩;have n0_:=Aside0.mk (Kd.R_mono (Kd.R_keep (IsS92.apart (show IsS92 w0 _ g s0_0 x1001_2 x1002_2 from by repeat (first|(with_reducible first|exact HI0.out|apply IsS92.alloc|apply IsS92.drewN|apply IsS92.drew|apply IsS92.set_1|apply IsS92.set_2|refine IsS92.far ?_ NB0_444.out _|refine IsS92.far ?_ NB0_448.out _)|exact HI0.out)) (by exact HO_449001.out) (by decide)) hk (fun _ h=>h.2)) (fun _ h=>h.1));have n1_:=Aside0.mk (KeepBut.blk hk (g':=gb444) (o:=.cells #[.int .i64 0,.slice none 0 0] 31 (0,0)) (by exact BK444.out) NB444_0.out (by simp));have n2_:=Aside0.mk (KeepBut.blk hk (g':=gb448) (o:=.cells #[.int .i64 (wrap64 (1+t445)),u449001] 31 (0,0)) (by exact BK448.out) NB448_0.out (by simp));have n3_:=Aside0.mk (KeepBut.trans (by repeat (first|(with_reducible first|exact HK.out|apply KeepBut.set_|apply keep_drewN|apply keep_drew|apply keep_alloc|refine keep_far ?_ GW444.out _|refine keep_far ?_ GW448.out _)|exact HK.out)) hk (.inl rfl));have n4_:=Aside0.mk (hb);have n5_:=Aside0.mk (hi);clear HO_449001;clear BK444;clear BK448;clear HK;clear HB;clear HI0;have HO_449001:=n0_;have BK444:=n1_;have BK448:=n2_;have HK:=n3_;have HB:=n4_;have HI0:=n5_;clear n0_ n1_ n2_ n3_ n4_ n5_;(try clear hb);(try clear hb2);(try clear hk);(try clear hi);have hcz80_0:w79.cell? ⟨gb448,0,none⟩=some (.int .i64 (wrap64 (1+t445))):=(blk_cell BK448.out 0).trans rfl;have hcz80_1:w79.cell? ⟨gb448,1,none⟩=some (u449001):=(blk_cell BK448.out 1).trans rfl;have hfz80_0:=blk_frozen BK448.out 0;have hfz80_1:=blk_frozen BK448.out 1)|((with_reducible refine gate_callee (f:=66) rfl ?_);refine goesL_ (some 53) rfl rfl Tryd.func66 (by kernel_rfl) rfl #[.pointer (some ⟨g,0,none⟩),.int .i64 (wrap64 ((wrap64 (1+t445))+1))] rfl (by (try simp only [List.map_toArray,List.map_cons,List.map_nil]);first|done|rfl|(simp only [List.length_drop,List.length_take];rfl)) ?_;(with_reducible refine (spec_l5Cur_pick.calls g s0_0 t466 t467 (wrap64 ((wrap64 (1+t445))+1)) t468 t469 t470 w0 _ ?side1 ?side2 A74.out).mono ?_);(case side1=>repeat (first|(with_reducible first|exact HI0.out|apply IsS92.alloc|apply IsS92.drewN|apply IsS92.drew|apply IsS92.set_1|apply IsS92.set_2|refine IsS92.far ?_ NB0_444.out _|refine IsS92.far ?_ NB0_448.out _)|exact HI0.out));(case side2=>repeat (first|(with_reducible first|exact HB.out|apply below_alloc|apply pw_below_drewN|apply below_drew1|refine below_set ?_ (IsS92.ge HI0.out)|refine below_set ?_ GE444.out|refine below_set ?_ GE448.out)|exact HB.out));rintro e w81 ⟨rfl,hi,hb,hk⟩;refine ⟨_,rfl,?_⟩;have n0_:=Aside0.mk (Kd.R_mono (Kd.R_keep (IsS92.apart (show IsS92 w0 _ g s0_0 t466 t467 from by repeat (first|(with_reducible first|exact HI0.out|apply IsS92.alloc|apply IsS92.drewN|apply IsS92.drew|apply IsS92.set_1|apply IsS92.set_2|refine IsS92.far ?_ NB0_444.out _|refine IsS92.far ?_ NB0_448.out _)|exact HI0.out)) (by exact HO_449001.out) (by decide)) hk (fun _ h=>h.2)) (fun _ h=>h.1));have n1_:=Aside0.mk (KeepBut.blk hk (g':=gb444) (o:=.cells #[.int .i64 0,.slice none 0 0] 31 (0,0)) (by exact BK444.out) NB444_0.out (by simp));have n2_:=Aside0.mk (KeepBut.blk hk (g':=gb448) (o:=.cells #[.int .i64 (wrap64 (1+t445)),u449001] 31 (0,0)) (by exact BK448.out) NB448_0.out (by simp));have n3_:=Aside0.mk (KeepBut.trans (by repeat (first|(with_reducible first|exact HK.out|apply KeepBut.set_|apply keep_drewN|apply keep_drew|apply keep_alloc|refine keep_far ?_ GW444.out _|refine keep_far ?_ GW448.out _)|exact HK.out)) hk (.inl rfl));have n4_:=Aside0.mk (hb);have n5_:=Aside0.mk (hi);clear HO_449001;clear BK444;clear BK448;clear HK;clear HB;clear HI0;have HO_449001:=n0_;have BK444:=n1_;have BK448:=n2_;have HK:=n3_;have HB:=n4_;have HI0:=n5_;clear n0_ n1_ n2_ n3_ n4_ n5_;(try clear hb);(try clear hb2);(try clear hk);(try clear hi)))
       go_roundg k2
       case measure=>have:=HK1.out;have:=HK2.out;omega
       case rel=>exact ⟨(wrap64 (x6_2 - 1)),(t469),(t470),(x449001_2),(u449001),(by first|rfl|(simp;done)|(simp [*];done)),H',⟨by have:=HK1.out;have:=HK2.out;omega⟩,⟨by exact HO_449001.out⟩,⟨by exact BK444.out⟩,⟨by exact BK448.out⟩,⟨by repeat (first|(with_reducible first|exact HI0.out|apply IsS92.alloc|apply IsS92.drewN|apply IsS92.drew|apply IsS92.set_1|apply IsS92.set_2|refine IsS92.far ?_ NB0_444.out _|refine IsS92.far ?_ NB0_448.out _)|exact HI0.out)⟩,⟨by repeat (first|(with_reducible first|exact HK.out|apply KeepBut.set_|apply keep_drewN|apply keep_drew|apply keep_alloc|refine keep_far ?_ GW444.out _|refine keep_far ?_ GW448.out _)|exact HK.out)⟩,⟨by repeat (first|(with_reducible first|exact HB.out|apply below_alloc|apply pw_below_drewN|apply below_drew1|refine below_set ?_ (IsS92.ge HI0.out)|refine below_set ?_ GE444.out|refine below_set ?_ GE448.out)|exact HB.out)⟩⟩
      rw [if_neg c75] at H
      have c75b0:((wrap64 (t465 - 1))==(wrap64 (t468 - 1)))=false:=beq_eq_false_iff_ne.mpr c75
      have c75b1:((wrap64 (t465 - 1)) != (wrap64 (t468 - 1)))=true:=bne_iff_ne.mpr c75
      by_cases c82:x449001_2.length<8796093022208
      ·rw [if_pos c82] at H
       have LMc82:=Aside0.mk c82
       clear c82
       obtain ⟨y471,hy471⟩:∃ y_:List (S98),y_=(x449001_2 ++ [(⟨wrap64 (t465 - 1),wrap64 (t468 - 1)⟩:S98)]):=⟨_,rfl⟩
       replace H:(spec_l5Cur_layout.l1 k2 (wrap64 (x6_2 - 1)) s0_0 t469 t470 (wrap64 (1+t445)) y471)=some (r1,r2,r3,r4):=by first|(rw [hy471];with_reducible exact H)|(have H2_:=(Option.bind_some _ _).symm.trans H;rw [hy471];with_reducible exact H2_)|(have H2_:=(Option.bind_some _ _).symm.trans H;with_reducible exact H2_)|with_reducible exact H|(rw [hy471];exact H)|exact H
       have Ny471:=Aside0.mk hy471
       clear hy471
       have H':=Aside0.mk H
       clear H
       have hnb83:=NB448_444.out
       have hnc83:=NB444_448.out
       have hnb84:=NB448_0.out
       have hnc84:=NB0_448.out
       have hcz85_0:wr.cell? ⟨gb448,0,none⟩=some (.int .i64 (wrap64 (1+t445))):=(blk_cell BK448.out 0).trans rfl
       have hcz85_1:wr.cell? ⟨gb448,1,none⟩=some (u449001):=(blk_cell BK448.out 1).trans rfl
       have hfz85_0:=blk_frozen BK448.out 0
       have hfz85_1:=blk_frozen BK448.out 1
       go_wp2_with (first|((with_reducible refine gate_callee (f:=66) rfl ?_);refine goesL_ (some 47) rfl rfl Tryd.func66 (by kernel_rfl) rfl #[.pointer (some ⟨g,0,none⟩),.int .i64 (wrap64 ((wrap64 (1+t445))+1))] rfl (by (try simp only [List.map_toArray,List.map_cons,List.map_nil]);first|done|rfl|(simp only [List.length_drop,List.length_take];rfl)) ?_;(with_reducible refine (spec_l5Cur_pick.calls g s0_0 x1001_2 x1002_2 (wrap64 ((wrap64 (1+t445))+1)) t465 t466 t467 w0 _ ?side1 ?side2 A73.out).mono ?_);(case side1=>repeat (first|(with_reducible first|exact HI0.out|apply IsS92.alloc|apply IsS92.drewN|apply IsS92.drew|apply IsS92.set_1|apply IsS92.set_2|refine IsS92.far ?_ NB0_444.out _|refine IsS92.far ?_ NB0_448.out _)|exact HI0.out));(case side2=>repeat (first|(with_reducible first|exact HB.out|apply below_alloc|apply pw_below_drewN|apply below_drew1|refine below_set ?_ (IsS92.ge HI0.out)|refine below_set ?_ GE444.out|refine below_set ?_ GE448.out)|exact HB.out));rintro e w86 ⟨rfl,hi,hb,hk⟩;refine ⟨_,rfl,?_⟩;have n0_:=Aside0.mk (Kd.R_mono (Kd.R_keep (IsS92.apart (show IsS92 w0 _ g s0_0 x1001_2 x1002_2 from by repeat (first|(with_reducible first|exact HI0.out|apply IsS92.alloc|apply IsS92.drewN|apply IsS92.drew|apply IsS92.set_1|apply IsS92.set_2|refine IsS92.far ?_ NB0_444.out _|refine IsS92.far ?_ NB0_448.out _)|exact HI0.out)) (by exact HO_449001.out) (by decide)) hk (fun _ h=>h.2)) (fun _ h=>h.1));have n1_:=Aside0.mk (KeepBut.blk hk (g':=gb444) (o:=.cells #[.int .i64 0,.slice none 0 0] 31 (0,0)) (by exact BK444.out) NB444_0.out (by simp));have n2_:=Aside0.mk (KeepBut.blk hk (g':=gb448) (o:=.cells #[.int .i64 (wrap64 (1+t445)),u449001] 31 (0,0)) (by exact BK448.out) NB448_0.out (by simp));have n3_:=Aside0.mk (KeepBut.trans (by repeat (first|(with_reducible first|exact HK.out|apply KeepBut.set_|apply keep_drewN|apply keep_drew|apply keep_alloc|refine keep_far ?_ GW444.out _|refine keep_far ?_ GW448.out _)|exact HK.out)) hk (.inl rfl));have n4_:=Aside0.mk (hb);have n5_:=Aside0.mk (hi);clear HO_449001;clear BK444;clear BK448;clear HK;clear HB;clear HI0;have HO_449001:=n0_;have BK444:=n1_;have BK448:=n2_;have HK:=n3_;have HB:=n4_;have HI0:=n5_;clear n0_ n1_ n2_ n3_ n4_ n5_;(try clear hb);(try clear hb2);(try clear hk);(try clear hi);have hcz87_0:w86.cell? ⟨gb448,0,none⟩=some (.int .i64 (wrap64 (1+t445))):=(blk_cell BK448.out 0).trans rfl;have hcz87_1:w86.cell? ⟨gb448,1,none⟩=some (u449001):=(blk_cell BK448.out 1).trans rfl;have hfz87_0:=blk_frozen BK448.out 0;have hfz87_1:=blk_frozen BK448.out 1)|((with_reducible refine gate_callee (f:=66) rfl ?_);refine goesL_ (some 53) rfl rfl Tryd.func66 (by kernel_rfl) rfl #[.pointer (some ⟨g,0,none⟩),.int .i64 (wrap64 ((wrap64 (1+t445))+1))] rfl (by (try simp only [List.map_toArray,List.map_cons,List.map_nil]);first|done|rfl|(simp only [List.length_drop,List.length_take];rfl)) ?_;(with_reducible refine (spec_l5Cur_pick.calls g s0_0 t466 t467 (wrap64 ((wrap64 (1+t445))+1)) t468 t469 t470 w0 _ ?side1 ?side2 A74.out).mono ?_);(case side1=>repeat (first|(with_reducible first|exact HI0.out|apply IsS92.alloc|apply IsS92.drewN|apply IsS92.drew|apply IsS92.set_1|apply IsS92.set_2|refine IsS92.far ?_ NB0_444.out _|refine IsS92.far ?_ NB0_448.out _)|exact HI0.out));(case side2=>repeat (first|(with_reducible first|exact HB.out|apply below_alloc|apply pw_below_drewN|apply below_drew1|refine below_set ?_ (IsS92.ge HI0.out)|refine below_set ?_ GE444.out|refine below_set ?_ GE448.out)|exact HB.out));rintro e w88 ⟨rfl,hi,hb,hk⟩;refine ⟨_,rfl,?_⟩;have n0_:=Aside0.mk (Kd.R_mono (Kd.R_keep (IsS92.apart (show IsS92 w0 _ g s0_0 t466 t467 from by repeat (first|(with_reducible first|exact HI0.out|apply IsS92.alloc|apply IsS92.drewN|apply IsS92.drew|apply IsS92.set_1|apply IsS92.set_2|refine IsS92.far ?_ NB0_444.out _|refine IsS92.far ?_ NB0_448.out _)|exact HI0.out)) (by exact HO_449001.out) (by decide)) hk (fun _ h=>h.2)) (fun _ h=>h.1));have n1_:=Aside0.mk (KeepBut.blk hk (g':=gb444) (o:=.cells #[.int .i64 0,.slice none 0 0] 31 (0,0)) (by exact BK444.out) NB444_0.out (by simp));have n2_:=Aside0.mk (KeepBut.blk hk (g':=gb448) (o:=.cells #[.int .i64 (wrap64 (1+t445)),u449001] 31 (0,0)) (by exact BK448.out) NB448_0.out (by simp));have n3_:=Aside0.mk (KeepBut.trans (by repeat (first|(with_reducible first|exact HK.out|apply KeepBut.set_|apply keep_drewN|apply keep_drew|apply keep_alloc|refine keep_far ?_ GW444.out _|refine keep_far ?_ GW448.out _)|exact HK.out)) hk (.inl rfl));have n4_:=Aside0.mk (hb);have n5_:=Aside0.mk (hi);clear HO_449001;clear BK444;clear BK448;clear HK;clear HB;clear HI0;have HO_449001:=n0_;have BK444:=n1_;have BK448:=n2_;have HK:=n3_;have HB:=n4_;have HI0:=n5_;clear n0_ n1_ n2_ n3_ n4_ n5_;(try clear hb);(try clear hb2);(try clear hk);(try clear hi);have hcz89_0:w88.cell? ⟨gb448,0,none⟩=some (.int .i64 (wrap64 (1+t445))):=(blk_cell BK448.out 0).trans rfl;have hcz89_1:w88.cell? ⟨gb448,1,none⟩=some (u449001):=(blk_cell BK448.out 1).trans rfl;have hfz89_0:=blk_frozen BK448.out 0;have hfz89_1:=blk_frozen BK448.out 1)|((with_reducible refine gate_builtin (b:=.append) (xs:=#[.tmp 59,.tmp 63]) rfl ?_);at_builtin;refine Kd.R_append k98 w.heap.size rfl (.tmp 59) (.tmp 63) 29 98 (.agg #[(.int .i64 0),(.int .i64 0)]) 16 rfl Tryd.underlying29 info98 rfl (by decide) (by omega) u449001 x449001_2 (⟨wrap64 (t465 - 1),wrap64 (t468 - 1)⟩:S98) [.int .i64 (wrap64 (t465 - 1)),.int .i64 (wrap64 (t468 - 1))] (fun _=>True) (fun _=>False) rfl rfl ?aP (fun _ hk=>hk.elim) ?aF ?aO (Below.refl _ _) ?aS ?aL ?_;(case aP=>exact k98_mkM _ _ _ (⟨wrap64 (t465 - 1),wrap64 (t468 - 1)⟩:S98));(case aF=>exact (fun _ _=>trivial));(case aO=>exact (by exact HO_449001.out));(case aS=>exact (keep_size (w:=w) (g:=g) (row:=none) (by repeat (first|(with_reducible first|exact HK.out|apply KeepBut.set_|apply keep_drewN|apply keep_drew|apply keep_alloc|refine keep_far ?_ GW444.out _|refine keep_far ?_ GW448.out _)|exact HK.out))));(case aL=>have:=LMc82.out;omega);intro v472 w90 ho hb hg hat;rw [← Ny471.out] at ho;have n0_:=Aside0.mk (blk_grown (g:=gb444) (o:=.cells #[.int .i64 0,.slice none 0 0] 31 (0,0)) (by exact BK444.out) hg (Kd.R_ne HO_449001.out BK444.out (by decide)));have n1_:=Aside0.mk (blk_grown (g:=gb448) (o:=.cells #[.int .i64 (wrap64 (1+t445)),u449001] 31 (0,0)) (by exact BK448.out) hg (Kd.R_ne HO_449001.out BK448.out (by decide)));have n2_:=Aside0.mk (IsS92.grown (by repeat (first|(with_reducible first|exact HI0.out|apply IsS92.alloc|apply IsS92.drewN|apply IsS92.drew|apply IsS92.set_1|apply IsS92.set_2|refine IsS92.far ?_ NB0_444.out _|refine IsS92.far ?_ NB0_448.out _)|exact HI0.out)) hg (IsS92.own_ne HI0.out HO_449001.out (by decide)));have n3_:=Aside0.mk (below_weaken (by repeat (first|(with_reducible first|exact HB.out|apply below_alloc|apply pw_below_drewN|apply below_drew1|refine below_set ?_ (IsS92.ge HI0.out)|refine below_set ?_ GE444.out|refine below_set ?_ GE448.out)|exact HB.out)) HL.out hb);have n4_:=Aside0.mk (KeepBut.trans (by repeat (first|(with_reducible first|exact HK.out|apply KeepBut.set_|apply keep_drewN|apply keep_drew|apply keep_alloc|refine keep_far ?_ GW444.out _|refine keep_far ?_ GW448.out _)|exact HK.out)) (KeepBut.of_grown hg g) (Kd.R_base2 HO_449001.out));have n5_:=Aside0.mk (ho);clear BK444;clear BK448;clear HI0;clear HB;clear HK;clear HO_449001;have BK444:=n0_;have BK448:=n1_;have HI0:=n2_;have HB:=n3_;have HK:=n4_;have HO473:=n5_;clear n0_ n1_ n2_ n3_ n4_ n5_;clear ho hb hg hat;obtain ⟨Ao91,co91,eo91⟩:=Kd.R_slice HO473.out;subst eo91;have hcz92_0:w90.cell? ⟨gb448,0,none⟩=some (.int .i64 (wrap64 (1+t445))):=(blk_cell BK448.out 0).trans rfl;have hcz92_1:w90.cell? ⟨gb448,1,none⟩=some (u449001):=(blk_cell BK448.out 1).trans rfl;have hfz92_0:=blk_frozen BK448.out 0;have hfz92_1:=blk_frozen BK448.out 1))
       go_roundg k2
       case measure=>have:=HK1.out;have:=HK2.out;omega
       case rel=>exact ⟨(wrap64 (x6_2 - 1)),(t469),(t470),(y471),(.slice Ao91 y471.length co91),(by first|rfl|(simp;done)|(simp [*];done)),H',⟨by have:=HK1.out;have:=HK2.out;omega⟩,⟨by exact Kd.R_mono (Kd.R_far (p:=⟨gb448,1,none⟩) (Kd.R_types HO473.out BK448.out (by decide)) (fun _ hk=>hk.2) (.slice Ao91 y471.length co91)) (fun _ hk=>trivial)⟩,⟨by refine blk_far ?_ NB444_448.out _;exact BK444.out⟩,⟨by refine blk_put (cs:=#[.int .i64 (wrap64 (1+t445)),u449001]) ?_ 1 _ rfl;exact BK448.out⟩,⟨by repeat (first|(with_reducible first|exact HI0.out|apply IsS92.alloc|apply IsS92.drewN|apply IsS92.drew|apply IsS92.set_1|apply IsS92.set_2|refine IsS92.far ?_ NB0_444.out _|refine IsS92.far ?_ NB0_448.out _)|exact HI0.out)⟩,⟨by repeat (first|(with_reducible first|exact HK.out|apply KeepBut.set_|apply keep_drewN|apply keep_drew|apply keep_alloc|refine keep_far ?_ GW444.out _|refine keep_far ?_ GW448.out _)|exact HK.out)⟩,⟨by repeat (first|(with_reducible first|exact HB.out|apply below_alloc|apply pw_below_drewN|apply below_drew1|refine below_set ?_ (IsS92.ge HI0.out)|refine below_set ?_ GE444.out|refine below_set ?_ GE448.out)|exact HB.out)⟩⟩
      rw [if_neg c82] at H
      exact absurd H (by simp)
     rw [if_neg c72] at H
     have c72b0:decide (0<x6_2)=false:=decide_eq_false c72
     clear c72
     simp only [Option.some.injEq,Prod.mk.injEq] at H
     obtain ⟨rfl,rfl,rfl,rfl⟩:=H
     have hnb93:=NB448_444.out
     have hnc93:=NB444_448.out
     have hnb94:=NB448_0.out
     have hnc94:=NB0_448.out
     have hcz95_0:wr.cell? ⟨gb448,0,none⟩=some (.int .i64 (wrap64 (1+t445))):=(blk_cell BK448.out 0).trans rfl
     have hcz95_1:wr.cell? ⟨gb448,1,none⟩=some (u449001):=(blk_cell BK448.out 1).trans rfl
     have hfz95_0:=blk_frozen BK448.out 0
     have hfz95_1:=blk_frozen BK448.out 1
     have hnb96:=NB444_0.out
     have hnc96:=NB0_444.out
     have hcz97_0:wr.cell? ⟨gb444,0,none⟩=some (.int .i64 0):=(blk_cell BK444.out 0).trans rfl
     have hcz97_1:wr.cell? ⟨gb444,1,none⟩=some (.slice none 0 0):=(blk_cell BK444.out 1).trans rfl
     have hfz97_0:=blk_frozen BK444.out 0
     have hfz97_1:=blk_frozen BK444.out 1
     obtain ⟨Ao98,co98,eo98⟩:=Kd.R_slice HO_449001.out
     subst eo98
     go_wp2
     refine bodyPost_ret (results_cell_row rfl _ _ gb444 31 #[.int .i64 (wrap64 (1+t445)),.slice Ao98 x449001_2.length co98] (0,0) _ rfl (by refine blk_put (cs:=#[.int .i64 (wrap64 (1+t445)),.slice none 0 0]) ?_ 1 _ rfl;refine blk_put (cs:=#[.int .i64 0,.slice none 0 0]) ?_ 0 _ rfl;exact BK444.out) Tryd.underlying31 rfl (by kernel_rfl)) rfl ?_
     exact ⟨_,by first|rfl|(simp [errW_none,errW_some] <;> rfl)|(simp [*,errW_none,errW_some] <;> rfl),by exact Kd.R_mono (Kd.R_far (p:=⟨gb444,1,none⟩) (Kd.R_far (p:=⟨gb444,0,none⟩) (Kd.R_types HO_449001.out BK444.out (by decide)) (fun _ hk=>hk.2) (.int .i64 (wrap64 (1+t445)))) (fun _ hk=>hk.2) (.slice Ao98 x449001_2.length co98)) (fun _ hk=>trivial),by repeat (first|(with_reducible first|exact HI0.out|apply IsS92.alloc|apply IsS92.drewN|apply IsS92.drew|apply IsS92.set_1|apply IsS92.set_2|refine IsS92.far ?_ NB0_444.out _|refine IsS92.far ?_ NB0_448.out _)|exact HI0.out),by repeat (first|(with_reducible first|exact HB.out|apply below_alloc|apply pw_below_drewN|apply below_drew1|refine below_set ?_ (IsS92.ge HI0.out)|refine below_set ?_ GE444.out|refine below_set ?_ GE448.out)|exact HB.out),by repeat (first|(with_reducible first|exact HK.out|apply KeepBut.set_|apply keep_drewN|apply keep_drew|apply keep_alloc|refine keep_far ?_ GW444.out _|refine keep_far ?_ GW448.out _)|exact HK.out)⟩
end Go.Proofs.YtpdnabhpkdchjaaDoor.P
namespace Go.Proofs.YtpdnabhpkdchjaaDoor.P
open Go.RowKit Go.Proofs.YtpdnabhpkdchjaaDoorW.PrintWords Go.Proofs.YtpdnabhpkdchjaaDoorW.PrintLast Go.Proofs.YtpdnabhpkdchjaaDoorW.PrintMore
set_option linter.unusedVariables false
set_option linter.unusedSimpArgs false
def CtrsOk (n:Int) (l:List S98):Prop:=∀ x ∈ l,-1≤x.f0∧x.f0<n∧-1≤x.f1∧x.f1<n∧x.f0 ≠ x.f1
theorem layOk_mk {n:Int} {l:List S98} (h0:1≤n) (h1:n≤60) (h2:l.length≤120) (h:CtrsOk n l):layoutOk n l=0:=by
 unfold layoutOk
 rw [if_neg (by omega),if_neg (by omega),if_neg (by omega),if_pos]
 refine List.all_eq_true.2 fun x hx=>?_
 have:=h x hx
 simp only [ctrOk,inB,Bool.and_eq_true,decide_eq_true_eq,Bool.not_eq_true',beq_eq_false_iff_ne]
 exact ⟨⟨⟨this.1,this.2.1⟩,this.2.2.1,this.2.2.2.1⟩,this.2.2.2.2⟩
theorem CtrsOk.app {n:Int} {l:List S98} {x:S98} (h:CtrsOk n l) (hx:-1≤x.f0∧x.f0<n∧-1≤x.f1∧x.f1<n∧x.f0 ≠ x.f1):CtrsOk n (l ++ [x]):=by
 intro y hy
 rcases List.mem_append.1 hy with hy|hy
 ·exact h y hy
 rw [List.mem_singleton.1 hy];exact hx
theorem layD1 {code:List Int} {n:Int} (hn0:1≤n) (hn1:n≤5) (m:Nat):∀ (q:Nat) (b:Int) (c:Int × Int) (l:List S98),q≤3→CtrsOk n l→l.length+q≤9→CurOk code b c→b+4 * q≤2000000000 →
  ∃ l' c',spec_l5Cur_layout.l1 (q+1+m) (q:Int) code c.1 c.2 n l=some (n,l',c'.1,c'.2)∧CtrsOk n l'∧l'.length≤l.length+q∧CurOk code (b+4 * q) c':=by
 intro q
 induction q with
 | zero =>
  intro b c l _ hl _ hc _
  refine ⟨l,c,?_,hl,by omega,hc.mono (by omega)⟩
  rw [show 0+1+m=m+1 by omega]
  simp only [spec_l5Cur_layout.l1]
  rw [if_neg (by omega)]
 | succ q ih =>
  intro b c l hq hl hll hc hb
  have hw:wrap64 (n+1)=n+1:=wrap_id (by omega) (by omega)
  obtain ⟨v,c1,e1,_,v0,v1,hc1⟩:=pick_ok (m:=n+1) hc (by omega) (by omega)
  obtain ⟨u,c2,e2,_,u0,u1,hc2⟩:=pick_ok (m:=n+1) hc1 (by omega) (by omega)
  have w1:wrap64 (v - 1)=v - 1:=wrap_id (by omega) (by omega)
  have w2:wrap64 (u - 1)=u - 1:=wrap_id (by omega) (by omega)
  have w3:wrap64 (((q+1:Nat):Int) - 1)=(q:Int):=(wrap_id (by omega) (by omega)).trans (by omega)
  rw [show q+1+1+m=(q+1+m)+1 by omega]
  simp only [spec_l5Cur_layout.l1,hw,e1,e2,Option.bind_some,w1,w2,w3]
  rw [if_pos (show ((q+1:Nat):Int) > 0 by omega)]
  by_cases h:v - 1=u - 1
  ·rw [if_pos h]
   obtain ⟨l',c',e,k1,k2,k3⟩:=ih (b+4) c2 l (by omega) hl (by omega) (hc2.mono (by omega)) (by omega)
   exact ⟨l',c',e,k1,by omega,k3.mono (by omega)⟩
  rw [if_neg h,if_pos (by omega)]
  obtain ⟨l',c',e,k1,k2,k3⟩:=ih (b+4) c2 (l ++ [⟨v - 1,u - 1⟩]) (by omega) (hl.app ⟨by show -1≤v - 1;omega,by show v - 1<n;omega,by show -1≤u - 1;omega,by show u - 1<n;omega,h⟩) (by simp;omega) (hc2.mono (by omega)) (by omega)
  exact ⟨l',c',e,k1,by simp at k2;omega,k3.mono (by omega)⟩
theorem layD0 {code:List Int} {n:Int} (hn0:1≤n) (hn1:n≤5):∀ (d i:Nat) (b:Int) (c:Int × Int) (l:List S98),(i:Int)+d=n+1→CtrsOk n l→l.length≤i→CurOk code b c→b+2 * d≤1999999000 →
  ∃ l' c',spec_l5Cur_layout.l0 (d+4) (i:Int) code c.1 c.2 n l=some (n,l',c'.1,c'.2)∧CtrsOk n l'∧l'.length≤9∧CurOk code (b+2 * d+20) c':=by
 intro d
 induction d with
 | zero =>
  intro i b c l hi hl hll hc hb
  obtain ⟨v,c1,e1,_,v0,v1,hc1⟩:=pick_ok (m:=3) hc (by omega) (by omega)
  obtain ⟨v,rfl⟩:=Int.eq_ofNat_of_zero_le v0
  obtain ⟨l',c',e,k1,k2,k3⟩:=layD1 hn0 hn1 (2 - v) v (b+2) c1 l (by omega) hl (by omega) hc1 (by omega)
  refine ⟨l',c',?_,k1,by omega,k3.mono (by omega)⟩
  rw [show v+1+(2 - v)=3 by omega] at e
  simp only [spec_l5Cur_layout.l0,e1,Option.bind_some]
  rw [if_neg (by omega)]
  exact e
 | succ d ih =>
  intro i b c l hi hl hll hc hb
  obtain ⟨v,c1,e1,_,v0,v1,hc1⟩:=pick_ok (m:=12) hc (by omega) (by omega)
  have w1:wrap64 ((i:Int) - 1)=(i:Int) - 1:=wrap_id (by omega) (by omega)
  have w2:wrap64 ((i:Int)+1)=((i+1:Nat):Int):=wrap_succ (by omega)
  have hh:∀ l1:List S98,CtrsOk n l1→l1.length≤i+1→∃ l' c',spec_l5Cur_layout.l0 (d+4) ((i+1:Nat):Int) code c1.1 c1.2 n l1=some (n,l',c'.1,c'.2)∧CtrsOk n l'∧l'.length≤9∧CurOk code (b+2 * ((d+1:Nat):Int)+20) c':=by
   intro l1 k1 k2
   obtain ⟨l',c',e,k3,k4,k5⟩:=ih (i+1) (b+2) c1 l1 (by omega) k1 k2 hc1 (by omega)
   exact ⟨l',c',e,k3,k4,k5.mono (by omega)⟩
  rw [show d+1+4=(d+4)+1 by omega]
  simp only [spec_l5Cur_layout.l0,e1,Option.bind_some,w1,w2]
  rw [if_pos (by omega)]
  by_cases h:(i:Int)=n
  ·rw [if_pos h]
   by_cases hv:v > 0
   ·rw [if_pos hv,if_pos (by omega)]
    exact hh _ (hl.app ⟨by show -1≤(i:Int) - 1;omega,by show (i:Int) - 1<n;omega,by show (-1:Int)≤-1;omega,by show (-1:Int)<n;omega,by show (i:Int) - 1 ≠ -1;omega⟩) (by simp;omega)
   rw [if_neg hv]
   exact hh _ hl (by omega)
  rw [if_neg h]
  by_cases hv:v > 0
  ·rw [if_pos hv,if_pos (by omega)]
   exact hh _ (hl.app ⟨by show -1≤(i:Int) - 1;omega,by show (i:Int) - 1<n;omega,by show -1≤(i:Int);omega,by show (i:Int)<n;omega,by show (i:Int) - 1 ≠ i;omega⟩) (by simp;omega)
  rw [if_neg hv]
  exact hh _ hl (by omega)
theorem layD {code:List Int} {b:Int} {c:Int × Int} (hc:CurOk code b c) (hb:b≤1000000000) :
  ∃ k n l c',spec_l5Cur_layout.f k code c.1 c.2=some (n,l,c'.1,c'.2)∧1≤n∧n≤5∧l.length≤9∧layoutOk n l=0∧CurOk code (b+50) c':=by
 obtain ⟨v,c1,e1,_,v0,v1,hc1⟩:=pick_ok (m:=5) hc (by omega) (by omega)
 have w1:wrap64 (1+v)=1+v:=wrap_id (by omega) (by omega)
 obtain ⟨l,c',e,k1,k2,k3⟩:=layD0 (n:=1+v) (by omega) (by omega) (2+v).toNat 0 (b+2) c1 [] (by omega) (fun x hx=>by simp at hx) (by simp) hc1 (by omega)
 refine ⟨(2+v).toNat+4,1+v,l,c',?_,by omega,by omega,k2,layOk_mk (by omega) (by omega) (by omega) k1,k3.mono (by omega)⟩
 unfold spec_l5Cur_layout.f
 rw [e1,Option.bind_some,w1]
 exact e
end Go.Proofs.YtpdnabhpkdchjaaDoor.P
namespace Go.Proofs.YtpdnabhpkdchjaaDoor.P
open Go.RowKit Go.Proofs.YtpdnabhpkdchjaaDoorW.PrintWords Go.Proofs.YtpdnabhpkdchjaaDoorW.PrintLast Go.Proofs.YtpdnabhpkdchjaaDoorW.PrintMore
set_option linter.unusedVariables false
structure EvP where
 c:Int × Int
 th:List Int
 dead:Int
 out:List S52
def evAsk (code:List Int) (yes honest:Bool) (c:Int × Int) (m:Int):Bool × (Int × Int):=if yes=true then (true,c) else if honest=true then (false,c) else ((pk code c m).1==0,(pk code c m).2)
def mv (row:List Int) (f t:Int):List Int :=
 let r1:=if 0≤f then row.set f.toNat (wrap64 (rd row f - 1)) else row
 if 0≤t then r1.set t.toNat (wrap64 (rd r1 t+1)) else r1
def evPass (code:List Int) (x:S98) (honest:Bool) (k:Int) (c:Int × Int) (s:EvP):EvP :=
 let p:=pk code c 2
 let d:=wrap64 (1 - wrap64 (2 * p.1))
 let f:=if d<0 then x.f1 else x.f0
 let t:=if d<0 then x.f0 else x.f1
 let q:=evAsk code (decide (f<0) || decide (0<rd s.th f)) honest p.2 8
 if q.1=true then ⟨q.2,mv s.th f t,s.dead,s.out ++ [⟨1,k,d⟩]⟩ else ⟨q.2,s.th,s.dead,s.out⟩
def evReset (code:List Int) (n:Int) (honest:Bool) (c:Int × Int) (s:EvP):EvP :=
 let p:=pk code c n
 let q:=evAsk code (rd s.th p.1==0) honest p.2 4
 ⟨q.2,s.th,s.dead,if q.1=true then s.out ++ [⟨5,p.1,0⟩] else s.out⟩
def evStep (code:List Int) (n:Int) (l:List S98) (honest:Bool) (s:EvP):EvP :=
 let k:=pk code s.c l.length
 let a:=pk code k.2 16
 if a.1=0 then ⟨(pk code a.2 2).2,s.th,s.dead,s.out ++ [⟨2,k.1,wrap64 (1 - wrap64 (2 * (pk code a.2 2).1))⟩]⟩
 else if a.1=1 then ⟨a.2,s.th,k.1,s.out ++ [⟨3,k.1,0⟩]⟩
 else if a.1=2 ∨ a.1=3 then ⟨a.2,s.th,-1,s.out ++ [⟨4,if 0≤s.dead then s.dead else k.1,0⟩]⟩
 else if a.1=4 ∨ a.1=5 ∨ a.1=6 then evReset code n honest a.2 s
 else evPass code (rd_T98 l k.1) honest k.1 a.2 s
def evLoop (code:List Int) (n:Int) (l:List S98) (honest:Bool):Nat→EvP→EvP
 | 0,s=>s
 | q+1,s=>if l.length=0 then ⟨(pk code s.c n).2,s.th,s.dead,s.out ++ [⟨5,(pk code s.c n).1,0⟩]⟩ else evLoop code n l honest q (evStep code n l honest s)
def evDraw (code:List Int) (n:Int) (l:List S98) (honest:Bool) (c:Int × Int):EvP :=
 evLoop code n l honest (pk code c 30).1.toNat ⟨(pk code c 30).2,List.replicate n.toNat 0,-1,[]⟩
theorem mv_length (row:List Int) (f t:Int):(mv row f t).length=row.length:=by
 unfold mv
 by_cases h0:0≤f <;> by_cases h1:0≤t <;> simp [h0,h1]
end Go.Proofs.YtpdnabhpkdchjaaDoor.P
namespace Go.Proofs.YtpdnabhpkdchjaaDoor.P
open Go.RowKit Go.Proofs.YtpdnabhpkdchjaaDoorW.PrintWords Go.Proofs.YtpdnabhpkdchjaaDoorW.PrintLast Go.Proofs.YtpdnabhpkdchjaaDoorW.PrintMore
set_option linter.unusedVariables false
section
variable {n : Int} {A : Option Addr} {c : Nat} {l : List S98} {w : World}
theorem lay_is (hr:Kd.C k98 w A l.length l) (hc:l.length≤c):Calls Tryd.prog 30 #[.agg #[.int .i64 n,.slice A l.length c]] w fun e w'=>e=.returned (.int .i64 (layoutOk n l))∧Below w.heap.size w w' :=
 impl_LayoutOk.calls n A c l _ w hr hc rfl
theorem slay_is (hr:Kd.C k98 w A l.length l) (hc:l.length≤c):Calls Tryd.prog 38 #[.agg #[.int .i64 n,.slice A l.length c]] w fun e w'=>e=.returned (.int .i64 (layoutOk n l))∧Below w.heap.size w w':=by
 obtain ⟨k,h⟩:=(specLayoutOk_ev n l).rounds
 exact spec_LayoutOk.calls k n A c l _ w hr hc h
theorem ev_is (op of dir:Int) (hr:Kd.C k98 w A l.length l) (hc:l.length≤c):Calls Tryd.prog 31 #[.agg #[.int .i64 n,.slice A l.length c],.agg #[.int .i64 op,.int .i64 of,.int .i64 dir]] w fun e w'=>e=.returned (.bool (eventOk n l op of dir))∧Below w.heap.size w w':=by
 obtain ⟨k,h⟩:=(implEventOk_ev n l op of dir).rounds
 exact impl_EventOk.calls k n A c l op of dir _ w hr hc h
theorem ev_at {b:Bool} (op of dir:Int) (hb:eventOk n l op of dir=b) (hr:Kd.C k98 w A l.length l) (hc:l.length≤c):Calls Tryd.prog 31 #[.agg #[.int .i64 n,.slice A l.length c],.agg #[.int .i64 op,.int .i64 of,.int .i64 dir]] w fun e w'=>e=.returned (.bool b)∧Below w.heap.size w w':=hb ▸ ev_is op of dir hr hc
theorem lay_at {k:Int} (hk:layoutOk n l=k) (hr:Kd.C k98 w A l.length l) (hc:l.length≤c):Calls Tryd.prog 30 #[.agg #[.int .i64 n,.slice A l.length c]] w fun e w'=>e=.returned (.int .i64 k)∧Below w.heap.size w w':=hk ▸ lay_is hr hc
theorem sev_is (op of dir:Int) (hr:Kd.C k98 w A l.length l) (hc:l.length≤c):Calls Tryd.prog 26 #[.agg #[.int .i64 n,.slice A l.length c],.agg #[.int .i64 op,.int .i64 of,.int .i64 dir]] w fun e w'=>e=.returned (.bool (eventOk n l op of dir))∧Below w.heap.size w w':=by
 obtain ⟨k,h⟩:=(specEventOk_ev n l op of dir).rounds
 exact spec_EventOk.calls k n A c l op of dir _ w hr hc h
end
end Go.Proofs.YtpdnabhpkdchjaaDoor.P
