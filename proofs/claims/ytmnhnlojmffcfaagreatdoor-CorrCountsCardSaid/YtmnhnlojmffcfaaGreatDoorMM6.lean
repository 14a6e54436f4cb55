/- Shallow functions, by program. -/
import Derived.Test.YtmnhnlojmffcfaaGreatDoorMM4
import Derived.Test.YtmnhnlojmffcfaaGreatDoorMM1
import Derived.Shelf.SlSortCmp.Insertion
import Derived.Test.YtmnhnlojmffcfaaGreatDoorMM5
import Derived.Sort.MapsRangeIn
import Derived.RangeFuncStops
import Derived.RangeFuncBox
import Derived.Test.YtmnhnlojmffcfaaGreatDoorProg
import Derived.KernelRfl
import Derived.RangeFuncNested
import Derived.RangeFuncBound
import Derived.RangeFuncCalls
import Derived.RangeFuncLeaves
import Derived.Shelf.RegionOpenPlain
import Derived.WalkKit
import Derived.OwnWalkIn
import Derived.TacticsInMore
import Derived.LoopNIn
import Derived.LoopIn
import Derived.Maps.AppendAt
import Derived.Shelf.SlSortCmp.WholeK
import Derived.Shelf.SlicesE.Reverse
import Derived.Shelf.SlicesQ.Reverse
import Derived.Shelf.SlSortCmp.NoneTotal
set_option linter.unusedSectionVars false
set_option linter.unusedVariables false
set_option linter.unusedSimpArgs false
namespace Go.Ev
open Go
set_option linter.unusedVariables false
def zbw (s2 : List UInt8) (go1 : (List UInt8) -> Option (List UInt8)) (t1 : Bool) : Option (List UInt8) :=
 if t1 then
  (
   Option.bind (sub? s2 (0 : Int) (wi64 ((List.length s2 : Int) - (1 : Int)))) fun s3 =>
   go1 s3
  )
 else
  some (s2)
def strings_trimRightByte_b1 (c1 : Int) (go1 : (List UInt8) -> Option (List UInt8)) (s2 : List UInt8) : Option (List UInt8) :=
 if decide ((0 : Int) < (List.length s2 : Int)) then
  (
   Option.bind (byteAt s2 (wi64 ((List.length s2 : Int) - (1 : Int)))) fun b1 =>
   zbw s2 go1 (b1 == c1)
  )
 else
  zbw s2 go1 false
def zbx (c1 : Int) : Nat -> (List UInt8) -> Option (List UInt8)
 | 0, _ => none
 | n + 1, s2 => strings_trimRightByte_b1 c1 (zbx c1 n) s2
def strings_trimRightByte (k : Nat) (s1 : List UInt8) (c1 : Int) : Option (List UInt8) :=
 zbx c1 k s1
def zby (s2 : List UInt8) (go1 : (List UInt8) -> Option (List UInt8)) (t1 : Bool) : Option (List UInt8) :=
 if t1 then
  (
   Option.bind (sub? s2 (1 : Int) (s2.length : Int)) fun s3 =>
   go1 s3
  )
 else
  some (s2)
def strings_trimLeftByte_b1 (c1 : Int) (go1 : (List UInt8) -> Option (List UInt8)) (s2 : List UInt8) : Option (List UInt8) :=
 if decide ((0 : Int) < (List.length s2 : Int)) then
  (
   Option.bind (byteAt s2 (0 : Int)) fun b1 =>
   zby s2 go1 (b1 == c1)
  )
 else
  zby s2 go1 false
def zbz (c1 : Int) : Nat -> (List UInt8) -> Option (List UInt8)
 | 0, _ => none
 | n + 1, s2 => strings_trimLeftByte_b1 c1 (zbz c1 n) s2
def strings_trimLeftByte (k : Nat) (s1 : List UInt8) (c1 : Int) : Option (List UInt8) :=
 zbz c1 k s1
def strings_makeASCIISet_b1 (chars1 : List UInt8) (go1 : Int -> (List (Bool)) -> Option (List (Bool) × Bool)) (i1 : Int) (blk1 : List (Bool)) : Option (List (Bool) × Bool) :=
 if decide (i1 < (List.length chars1 : Int)) then
  (
   Option.bind (byteAt chars1 i1) fun b1 =>
   if decide ((128 : Int) <= b1) then
    some (blk1, false)
   else
    (
     Option.bind (chk (0 <= b1 /\ b1 < (256 : Int))) fun _ =>
     Option.bind (at? blk1 b1) fun x1 =>
     go1 (wi64 (i1 + (1 : Int))) (List.set blk1 (b1).toNat true)
    )
  )
 else
  some (blk1, true)
def zb0 (chars1 : List UInt8) : Nat -> Int -> (List (Bool)) -> Option (List (Bool) × Bool)
 | 0, _, _ => none
 | n + 1, i1, blk1 => strings_makeASCIISet_b1 chars1 (zb0 chars1 n) i1 blk1
def zb1 (k : Nat) (chars1 : List UInt8) : Option (List (Bool) × Bool) :=
 zb0 chars1 k (0 : Int) (List.replicate 256 false)
def zb2 (k : Nat) (as1 : List (Bool)) (c1 : Int) : Option Bool :=
 Option.bind (at? as1 c1) fun x1 =>
 some (x1)
def zb3  (s2 : List UInt8) : Option (List UInt8) :=
 some (s2)
def zb4 (k : Nat) (as1 : List (Bool)) (go1 : (List UInt8) -> Option (List UInt8)) (s3 : List UInt8) : Option (List UInt8) :=
 if decide ((0 : Int) < (List.length s3 : Int)) then
  (
   Option.bind (byteAt s3 (wi64 ((List.length s3 : Int) - (1 : Int)))) fun b1 =>
   Option.bind (zb2 k as1 b1) fun v1 =>
   if !v1 then
    zb3 s3
   else
    (
     Option.bind (sub? s3 (0 : Int) (wi64 ((List.length s3 : Int) - (1 : Int)))) fun s4 =>
     go1 s4
    )
  )
 else
  zb3 s3
def zb5 (k : Nat) (as1 : List (Bool)) : Nat -> (List UInt8) -> Option (List UInt8)
 | 0, _ => none
 | n + 1, s3 => zb4 k as1 (zb5 k as1 n) s3
def zb6 (k : Nat) (s1 : List UInt8) (as1 : List (Bool)) : Option (List UInt8) :=
 zb5 k as1 k s1
def zb7  (s2 : List UInt8) : Option (List UInt8) :=
 some (s2)
def zb8 (k : Nat) (as1 : List (Bool)) (go1 : (List UInt8) -> Option (List UInt8)) (s3 : List UInt8) : Option (List UInt8) :=
 if decide ((0 : Int) < (List.length s3 : Int)) then
  (
   Option.bind (byteAt s3 (0 : Int)) fun b1 =>
   Option.bind (zb2 k as1 b1) fun v1 =>
   if !v1 then
    zb7 s3
   else
    (
     Option.bind (sub? s3 (1 : Int) (s3.length : Int)) fun s4 =>
     go1 s4
    )
  )
 else
  zb7 s3
def zb9 (k : Nat) (as1 : List (Bool)) : Nat -> (List UInt8) -> Option (List UInt8)
 | 0, _ => none
 | n + 1, s3 => zb8 k as1 (zb9 k as1 n) s3
def zca (k : Nat) (s1 : List UInt8) (as1 : List (Bool)) : Option (List UInt8) :=
 zb9 k as1 k s1
def zcb (k : Nat) (s1 : List UInt8) (cutset1 : List UInt8) : Option (List UInt8) :=
 none
def strings_trimLeftUnicode (k : Nat) (s1 : List UInt8) (cutset1 : List UInt8) : Option (List UInt8) :=
 none
def zcc (k : Nat) (cutset1 : List UInt8) (s1 : List UInt8) (t2 : Bool) : Option (List UInt8) :=
 if t2 then
  (
   Option.bind (byteAt cutset1 (0 : Int)) fun b1 =>
   Option.bind (strings_trimRightByte k s1 b1) fun v1 =>
   Option.bind (byteAt cutset1 (0 : Int)) fun b2 =>
   Option.bind (strings_trimLeftByte k v1 b2) fun v2 =>
   some (v2)
  )
 else
  (
   Option.bind (zb1 k cutset1) fun v3 =>
   if v3.2 then
    (
     Option.bind (zb6 k s1 v3.1) fun v4 =>
     Option.bind (zca k v4 v3.1) fun v5 =>
     some (v5)
    )
   else
    (
     Option.bind (zcb k s1 cutset1) fun v6 =>
     Option.bind (strings_trimLeftUnicode k v6 cutset1) fun v7 =>
     some (v7)
    )
  )
def strings_Trim_j1 (k : Nat) (s1 : List UInt8) (cutset1 : List UInt8) (t1 : Bool) : Option (List UInt8) :=
 if t1 then
  some (s1)
 else
  (
   if (List.length cutset1 : Int) == (1 : Int) then
    (
     Option.bind (byteAt cutset1 (0 : Int)) fun b3 =>
     zcc k cutset1 s1 (decide (b3 < (128 : Int)))
    )
   else
    zcc k cutset1 s1 false
  )
def strings_Trim (k : Nat) (s1 : List UInt8) (cutset1 : List UInt8) : Option (List UInt8) :=
 strings_Trim_j1 k s1 cutset1 ((s1 == ([] : List UInt8)) || (cutset1 == ([] : List UInt8)))
def zcd  (t2 : Bool) : Option Bool :=
 some (t2)
def feature_named_j1 (k : Nat) (s1 : List UInt8) (t1 : Bool) : Option Bool :=
 if t1 then
  (
   Option.bind (strings_Trim k s1 ([97, 98, 99, 100, 101, 102, 103, 104, 105, 106, 107, 108, 109, 110, 111, 112, 113, 114, 115, 116, 117, 118, 119, 120, 121, 122] : List UInt8)) fun v1 =>
   zcd (v1 == ([] : List UInt8))
  )
 else
  zcd false
def zce (k : Nat) (s1 : List UInt8) : Option Bool :=
 feature_named_j1 k s1 ((!(s1 == ([] : List UInt8))) && (decide ((List.length s1 : Int) <= (32 : Int))))
def zcf  (t2 : Bool) : Option Bool :=
 if t2 then
  some (false)
 else
  some (true)
def zcg (r1 : Int) (t1 : Bool) : Option Bool :=
 if t1 then
  some (true)
 else
  (
   if decide (r1 < (161 : Int)) then
    zcf (decide (r1 < (161 : Int)))
   else
    (
     if decide ((1114111 : Int) < r1) then
      zcf (decide ((1114111 : Int) < r1))
     else
      (
       if r1 == (65533 : Int) then
        zcf (r1 == (65533 : Int))
       else
        (
         Option.bind (chk (0 <= (11 : Int))) fun _ =>
         zcf ((Int.fdiv r1 (2 ^ min ((11 : Int)).toNat 32)) == (27 : Int))
        )
      )
    )
  )
def zch (r1 : Int) (t4 : Bool) : Option Bool :=
 zcg r1 t4
def zci (r1 : Int) (t3 : Bool) : Option Bool :=
 if t3 then
  zcg r1 t3
 else
  zch r1 (decide ((65 : Int) <= r1) && (decide (r1 <= (90 : Int))))
def zcj (k : Nat) (r1 : Int) : Option Bool :=
 zci r1 (decide ((97 : Int) <= r1) && (decide (r1 <= (122 : Int))))
def feature_within_j1  (t1 : Bool) : Option Bool :=
 some (t1)
def zck (k : Nat) (a1 : (List (List UInt8) × List ((Int × Int × Int × Unit)) × Unit)) (plus1 : Int) (minus1 : Int) : Option Bool :=
 Option.bind (chk (0 <= (List.length a1.1 : Int))) fun _ =>
 feature_within_j1 (((Int.fdiv (wu32 (BitVec.toNat (BitVec.ofInt 32 plus1 ||| BitVec.ofInt 32 minus1))) (2 ^ min ((List.length a1.1 : Int)).toNat 32)) == (0 : Int)) && ((wu32 (BitVec.toNat (BitVec.ofInt 32 plus1 &&& BitVec.ofInt 32 minus1))) == (0 : Int)))
def feature_Check_j3 (go1 : Int -> (List (List UInt8 × Bool)) -> Option Int) (t3 : Int) (m1 : List (List UInt8 × Bool)) (x1 : List UInt8) (t4 : Bool) : Option Int :=
 if t4 then
  some ((7 : Int))
 else
  go1 (wi64 (t3 + (1 : Int))) (mset (eqEl .str) m1 x1 true)
def zcl (go2 : Int -> (List (Int × Bool)) -> Option Int) (t5 : Int) (m2 : List (Int × Bool)) (x2 : (Int × Int × Int × Unit)) (t7 : Bool) : Option Int :=
 if t7 then
  some ((7 : Int))
 else
  go2 (wi64 (t5 + (1 : Int))) (mset (eqEl (.int .i32)) m2 x2.1 true)
def feature_Check_j4 (k : Nat) (go2 : Int -> (List (Int × Bool)) -> Option Int) (t5 : Int) (m2 : List (Int × Bool)) (x2 : (Int × Int × Int × Unit)) (a1 : (List (List UInt8) × List ((Int × Int × Int × Unit)) × Unit)) (t6 : Bool) : Option Int :=
 if t6 then
  zcl go2 t5 m2 x2 true
 else
  (
   Option.bind (zck k (a1.1, a1.2.1, ()) x2.2.1 x2.2.2.1) fun v3 =>
   zcl go2 t5 m2 x2 (!v3)
  )
def feature_Check_b2 (k : Nat) (a1 : (List (List UInt8) × List ((Int × Int × Int × Unit)) × Unit)) (go2 : Int -> (List (Int × Bool)) -> Option Int) (t5 : Int) (m2 : List (Int × Bool)) : Option Int :=
 if decide (t5 < (List.length a1.2.1 : Int)) then
  (
   Option.bind (at? a1.2.1 t5) fun x2 =>
   Option.bind (zcj k x2.1) fun v2 =>
   feature_Check_j4 k go2 t5 m2 x2 a1 ((!v2) || ((mget (eqEl (.int .i32)) m2 x2.1).getD false))
  )
 else
  some ((0 : Int))
def zcm (k : Nat) (a1 : (List (List UInt8) × List ((Int × Int × Int × Unit)) × Unit)) : Nat -> Int -> (List (Int × Bool)) -> Option Int
 | 0, _, _ => none
 | n + 1, t5, m2 => feature_Check_b2 k a1 (zcm k a1 n) t5 m2
def feature_Check_b1 (k : Nat) (a1 : (List (List UInt8) × List ((Int × Int × Int × Unit)) × Unit)) (go1 : Int -> (List (List UInt8 × Bool)) -> Option Int) (t3 : Int) (m1 : List (List UInt8 × Bool)) : Option Int :=
 if decide (t3 < (List.length a1.1 : Int)) then
  (
   Option.bind (at? a1.1 t3) fun x1 =>
   Option.bind (zce k x1) fun v1 =>
   feature_Check_j3 go1 t3 m1 x1 ((!v1) || ((mget (eqEl .str) m1 x1).getD false))
  )
 else
  zcm k a1 k (0 : Int) ([] : List (Int × Bool))
def zcn (k : Nat) (a1 : (List (List UInt8) × List ((Int × Int × Int × Unit)) × Unit)) : Nat -> Int -> (List (List UInt8 × Bool)) -> Option Int
 | 0, _, _ => none
 | n + 1, t3, m1 => feature_Check_b1 k a1 (zcn k a1 n) t3 m1
def feature_Check_j2 (k : Nat) (a1 : (List (List UInt8) × List ((Int × Int × Int × Unit)) × Unit)) (t2 : Bool) : Option Int :=
 if t2 then
  some ((7 : Int))
 else
  zcn k a1 k (0 : Int) ([] : List (List UInt8 × Bool))
def feature_Check_j1 (k : Nat) (a1 : (List (List UInt8) × List ((Int × Int × Int × Unit)) × Unit)) (t1 : Bool) : Option Int :=
 feature_Check_j2 k a1 (t1 || (decide ((128 : Int) < (List.length a1.2.1 : Int))))
def zco (k : Nat) (a1 : (List (List UInt8) × List ((Int × Int × Int × Unit)) × Unit)) : Option Int :=
 feature_Check_j1 k a1 (decide ((24 : Int) < (List.length a1.1 : Int)) || (decide ((List.length a1.2.1 : Int) < (1 : Int))))
def feature_Of_c1 (k : Nat) (l1 : (Int × Int × Int × Unit)) (t1 : Int) : Option Bool :=
 some (l1.1 == t1)
def zcp (k : Nat) (s1 : List ((Int × Int × Int × Unit))) (f1 : (Int × Unit)) (go1 : Int -> Option Int) (t1 : Int) : Option Int :=
 if decide (t1 < (List.length s1 : Int)) then
  (
   Option.bind (at? s1 t1) fun x1 =>
   Option.bind (feature_Of_c1 k x1 f1.1) fun v1 =>
   if v1 then
    some (t1)
   else
    go1 (wi64 (t1 + (1 : Int)))
  )
 else
  some ((-1 : Int))
def zcq (k : Nat) (s1 : List ((Int × Int × Int × Unit))) (f1 : (Int × Unit)) : Nat -> Int -> Option Int
 | 0, _ => none
 | n + 1, t1 => zcp k s1 f1 (zcq k s1 f1 n) t1
def zcr (k : Nat) (s1 : List ((Int × Int × Int × Unit))) (f1 : (Int × Unit)) : Option Int :=
 zcq k s1 f1 k (0 : Int)
def zcs (k : Nat) (a1 : (List (List UInt8) × List ((Int × Int × Int × Unit)) × Unit)) (r1 : Int) : Option ((Int × Int × Int × Unit) × Int) :=
 Option.bind (zco k (a1.1, a1.2.1, ())) fun v1 =>
 if v1 != (0 : Int) then
  some (((0 : Int), (0 : Int), (0 : Int), ()), v1)
 else
  (
   Option.bind (zcr k a1.2.1 (r1, ())) fun v2 =>
   if decide (v2 < (0 : Int)) then
    some (((0 : Int), (0 : Int), (0 : Int), ()), (5 : Int))
   else
    (
     Option.bind (at? a1.2.1 v2) fun x1 =>
     some ((x1.1, x1.2.1, x1.2.2.1, ()), (0 : Int))
    )
  )
end Go.Ev
namespace Go.Ev
open Go
set_option linter.unusedVariables false
def cmp_Or_int__b1 (vals1 : List (Int)) (go1 : Int -> Option Int) (t1 : Int) : Option Int :=
 if decide (t1 < (List.length vals1 : Int)) then
  (
   Option.bind (at? vals1 t1) fun x1 =>
   if x1 != (0 : Int) then
    some (x1)
   else
    go1 (wi64 (t1 + (1 : Int)))
  )
 else
  some ((0 : Int))
def cmp_Or_int__l1 (vals1 : List (Int)) : Nat -> Int -> Option Int
 | 0, _ => none
 | n + 1, t1 => cmp_Or_int__b1 vals1 (cmp_Or_int__l1 vals1 n) t1
def cmp_Or_int_ (k : Nat) (vals1 : List (Int)) : Option Int :=
 cmp_Or_int__l1 vals1 k (0 : Int)
def zct (k : Nat) (p1 : (Int × Int × Unit)) (q1 : (Int × Int × Unit)) (t1 : Option (List ((Int × Int × Unit) × Int))) (t2 : Option (List (Int × Int))) : Option Int :=
 Option.bind (cmp_Or_int_ k ([wi64 (((mget (eqEl (.pair (.int .i32) (.pair (.int .i32) .unit))) (t1.getD []) (q1.1, q1.2.1, ())).getD (0 : Int)) - ((mget (eqEl (.pair (.int .i32) (.pair (.int .i32) .unit))) (t1.getD []) (p1.1, p1.2.1, ())).getD (0 : Int))), wi64 (((mget (eqEl (.int .i32)) (t2.getD []) p1.1).getD (0 : Int)) - ((mget (eqEl (.int .i32)) (t2.getD []) q1.1).getD (0 : Int))), wi64 (((mget (eqEl (.int .i32)) (t2.getD []) p1.2.1).getD (0 : Int)) - ((mget (eqEl (.int .i32)) (t2.getD []) q1.2.1).getD (0 : Int)))] : List (Int))) fun v1 =>
 some (v1)
end Go.Ev
namespace Go.Ev
open Go Go.Proofs Go.Sort
section
variable {X : Type}
def ins (lt : X -> X -> Bool) (x : X) : List X -> List X
 | [] => [x]
 | y :: l => bif lt y x then y :: ins lt x l else x :: y :: l
def isort (lt : X -> X -> Bool) : List X -> List X
 | [] => []
 | x :: l => ins lt x (isort lt l)
def ltO (c : X -> X -> Option Int) (x y : X) : Bool := match c x y with
 | some n => decide (n < 0)
 | none => false
def good [DecidableEq X] (c : X -> X -> Option Int) (l : List X) : Bool :=
 l.all fun x => l.all fun y => (c x y).isSome && (bif decide (x = y) then !ltO c x y else (ltO c x y || ltO c y x) && !(ltO c x y && ltO c y x)) && l.all fun z => !(ltO c x y && ltO c y z) || ltO c x z
def srt [DecidableEq X] (c : X -> X -> Option Int) (l : List X) : Option (List X) := bif good c l then some (isort (ltO c) l) else none
theorem ins_perm (lt : X -> X -> Bool) (x : X) : ∀ l, (ins lt x l).Perm (x :: l)
 | [] => List.Perm.refl _
 | y :: l => by
  unfold ins
  cases lt y x with
  | true => exact ((ins_perm lt x l).cons y).trans (List.Perm.swap x y l)
  | false => exact List.Perm.refl _
theorem isort_perm (lt : X -> X -> Bool) : ∀ l, (isort lt l).Perm l
 | [] => List.Perm.refl _
 | x :: l => (ins_perm lt x _).trans ((isort_perm lt l).cons x)
structure Parts (lt : X -> X -> Bool) (S : X -> Prop) : Prop where
 irr : ∀ x, S x -> lt x x = false
 tr : ∀ x y z, S x -> S y -> S z -> lt x y = true -> lt y z = true -> lt x z = true
 tot : ∀ x y, S x -> S y -> x ≠ y -> lt x y = true \/ lt y x = true
theorem Parts.asym {lt : X -> X -> Bool} {S : X -> Prop} (h : Parts lt S) {x y : X} (hx : S x) (hy : S y) (h1 : lt x y = true) : lt y x = false := by
 cases h2 : lt y x with
 | false => rfl
 | true => have := h.tr x y x hx hy hx h1 h2; rw [h.irr x hx] at this; cases this
theorem Parts.nt {lt : X -> X -> Bool} {S : X -> Prop} (h : Parts lt S) {x y z : X} (hx : S x) (hy : S y) (hz : S z) (h1 : lt x y = false) (h2 : lt y z = false) : lt x z = false := by
 by_cases e1 : x = y
 ·rw [e1]; exact h2
 by_cases e2 : y = z
 ·rw [<- e2]; exact h1
 rcases h.tot x y hx hy e1 with h3 | h3
 ·rw [h1] at h3; cases h3
 rcases h.tot y z hy hz e2 with h4 | h4
 ·rw [h2] at h4; cases h4
 exact h.asym hz hx (h.tr z y x hz hy hx h4 h3)
theorem ins_sorted {lt : X -> X -> Bool} {S : X -> Prop} (h : Parts lt S) {x : X} (hx : S x) : ∀ {l : List X}, (∀ y ∈ l, S y) -> l.Pairwise (fun a b => lt b a = false) -> (ins lt x l).Pairwise (fun a b => lt b a = false)
 | [], _, _ => by simp [ins]
 | y :: l, hS, hp => by
  obtain ⟨h1, h2⟩ := List.pairwise_cons.1 hp
  have hy := hS y List.mem_cons_self
  have hl : ∀ z ∈ l, S z := fun z hz => hS z (List.mem_cons_of_mem _ hz)
  unfold ins
  cases hb : lt y x with
  | true =>
   refine List.pairwise_cons.2 ⟨fun z hz => ?_, ins_sorted h hx hl h2⟩
   rcases List.mem_cons.1 ((ins_perm lt x l).mem_iff.1 hz) with rfl | hz
   ·exact h.asym hy hx hb
   ·exact h1 z hz
  | false =>
   refine List.pairwise_cons.2 ⟨fun z hz => ?_, hp⟩
   rcases List.mem_cons.1 hz with rfl | hz
   ·exact hb
   ·exact h.nt (hl z hz) hy hx (h1 z hz) hb
theorem isort_sorted {lt : X -> X -> Bool} {S : X -> Prop} (h : Parts lt S) : ∀ {l : List X}, (∀ y ∈ l, S y) -> (isort lt l).Pairwise (fun a b => lt b a = false)
 | [], _ => List.Pairwise.nil
 | x :: l, hS => ins_sorted h (hS x List.mem_cons_self) (fun y hy => hS y (List.mem_cons_of_mem _ ((isort_perm lt l).mem_iff.1 hy))) (isort_sorted h fun y hy => hS y (List.mem_cons_of_mem _ hy))
theorem isort_eq {lt : X -> X -> Bool} {S : X -> Prop} (h : Parts lt S) {l m : List X} (hS : ∀ y ∈ l, S y) (hp : m.Perm l) (hs : m.Pairwise (fun a b => lt b a = false)) : m = isort lt l := by
 refine List.Perm.eq_of_pairwise (le := fun a b => lt b a = false) (fun a b ha hb h1 h2 => ?_) hs (isort_sorted h hS) (hp.trans (isort_perm lt l).symm)
 have sa := hS a (hp.mem_iff.1 ha)
 have sb := hS b ((isort_perm lt l).mem_iff.1 hb)
 refine Classical.byContradiction fun hne => ?_
 rcases h.tot a b sa sb hne with h3 | h3
 ·rw [h2] at h3; cases h3
 ·rw [h1] at h3; cases h3
theorem good_parts [DecidableEq X] {c : X -> X -> Option Int} {l : List X} (h : good c l = true) : Parts (ltO c) (· ∈ l) /\ ∀ x ∈ l, ∀ y ∈ l, ∃ n, c x y = some n := by
 have key : ∀ x ∈ l, ∀ y ∈ l, (c x y).isSome = true /\ (bif decide (x = y) then !ltO c x y else (ltO c x y || ltO c y x) && !(ltO c x y && ltO c y x)) = true /\ ∀ z ∈ l, (!(ltO c x y && ltO c y z) || ltO c x z) = true := by
  intro x hx y hy
  have := List.all_eq_true.1 (List.all_eq_true.1 h x hx) y hy
  simp only [Bool.and_eq_true, List.all_eq_true] at this
  exact ⟨this.1.1, this.1.2, this.2⟩
 refine ⟨⟨fun x hx => ?_, fun x y z hx hy hz h1 h2 => ?_, fun x y hx hy hne => ?_⟩, fun x hx y hy => Option.isSome_iff_exists.1 (key x hx y hy).1⟩
 ·have := (key x hx x hx).2.1
  simpa using this
 ·have := (key x hx y hy).2.2 z hz
  rw [h1, h2] at this
  simpa using this
 ·have := (key x hx y hy).2.1
  rw [decide_eq_false hne] at this
  simp only [cond_false, Bool.and_eq_true, Bool.or_eq_true] at this
  exact this.1
theorem Parts.swo {lt : X -> X -> Bool} {S : X -> Prop} (h : Parts lt S) {cf : {x : X // S x} -> {x : X // S x} -> Int} (hc : ∀ x y, ltOf cf x y = lt x.1 y.1) : SWO (ltOf cf) where
 irrefl x := by rw [hc]; exact h.irr _ x.2
 trans x y z := by rw [hc, hc, hc]; exact h.tr _ _ _ x.2 y.2 z.2
 ntrans x y z := by rw [hc, hc, hc]; exact h.nt x.2 y.2 z.2
theorem sortedIn_pairwise {α : Type} [Inhabited α] {lt : α -> α -> Bool} {d : Array α} (h : SortedIn lt 0 d.size d) : d.toList.Pairwise (fun a b => lt b a = false) := by
 rw [List.pairwise_iff_getElem]
 intro i j hi hj hij
 have hi' : i < d.size := by simpa using hi
 have hj' : j < d.size := by simpa using hj
 have := h i j (Nat.zero_le _) hij hj'
 rw [getElem!_pos d j hj', getElem!_pos d i hi'] at this
 simpa using this
theorem permIn_perm {α : Type} [Inhabited α] {d d' : Array α} (h : PermIn 0 d.size d d') : d'.toList.Perm d.toList /\ d'.size = d.size := by
 obtain ⟨h1, _, h2⟩ := h
 refine ⟨?_, h1⟩
 have e1 : d.extract 0 d.size = d := Array.extract_size
 have e2 : d'.extract 0 d.size = d' := by rw [<- h1]; exact Array.extract_size
 rw [e1, e2] at h2
 exact h2
end
end Go.Ev
namespace Go.Ev
open Go
def zcu (k : Nat) (ps : List ((Int × Int × Unit) × Int)) (os : List (Int × Int)) : Option (List (Int × Int × Unit)) :=
 bif Nat.blt ps.length 1000000 then srt (fun x y => zct k x y (some ps) (some os)) (ps.map (·.1)) else none
end Go.Ev
namespace Go.Ev
open Go
set_option linter.unusedVariables false
def r02_name_j2 (go1 : Int -> Option Bool) (i1 : Int) (t2 : Bool) : Option Bool :=
 if t2 then
  some (false)
 else
  go1 (wi64 (i1 + (1 : Int)))
def r02_name_b1 (s1 : List UInt8) (go1 : Int -> Option Bool) (i1 : Int) : Option Bool :=
 if decide (i1 < (List.length s1 : Int)) then
  (
   Option.bind (byteAt s1 i1) fun b1 =>
   if decide (b1 < (97 : Int)) then
    r02_name_j2 go1 i1 true
   else
    (
     Option.bind (byteAt s1 i1) fun b2 =>
     r02_name_j2 go1 i1 (decide ((122 : Int) < b2))
    )
  )
 else
  some (true)
def r02_name_l1 (s1 : List UInt8) : Nat -> Int -> Option Bool
 | 0, _ => none
 | n + 1, i1 => r02_name_b1 s1 (r02_name_l1 s1 n) i1
def r02_name_j1 (k : Nat) (s1 : List UInt8) (t1 : Bool) : Option Bool :=
 if t1 then
  some (false)
 else
  r02_name_l1 s1 k (0 : Int)
def r02_name (k : Nat) (s1 : List UInt8) : Option Bool :=
 r02_name_j1 k s1 (decide ((List.length s1 : Int) < (1 : Int)) || (decide ((32 : Int) < (List.length s1 : Int))))
def r02_letter_j5  (t5 : Bool) : Option Bool :=
 some (t5)
def r02_letter_j6  (t6 : Bool) : Option Bool :=
 r02_letter_j5 t6
def r02_letter_j4 (r1 : Int) (t4 : Bool) : Option Bool :=
 if t4 then
  r02_letter_j6 (decide (r1 < (55296 : Int)) || (decide ((57343 : Int) < r1)))
 else
  r02_letter_j5 false
def r02_letter_j3 (r1 : Int) (t3 : Bool) : Option Bool :=
 r02_letter_j4 r1 (t3 && (r1 != (65533 : Int)))
def r02_letter_j2 (r1 : Int) (t2 : Bool) : Option Bool :=
 if t2 then
  some (true)
 else
  r02_letter_j3 r1 (decide ((161 : Int) <= r1) && (decide (r1 <= (1114111 : Int))))
def r02_letter_j7 (r1 : Int) (t7 : Bool) : Option Bool :=
 r02_letter_j2 r1 t7
def r02_letter_j1 (r1 : Int) (t1 : Bool) : Option Bool :=
 if t1 then
  r02_letter_j2 r1 true
 else
  r02_letter_j7 r1 (decide ((65 : Int) <= r1) && (decide (r1 <= (90 : Int))))
def r02_letter (k : Nat) (r1 : Int) : Option Bool :=
 r02_letter_j1 r1 (decide ((97 : Int) <= r1) && (decide (r1 <= (122 : Int))))
def r02_all (k : Nat) (a1 : (List (List UInt8) × List ((Int × Int × Int × Unit)) × Unit)) : Option Int :=
 Option.bind (chk (0 <= (wu64 (List.length a1.1 : Int)))) fun _ =>
 some (wu32 ((wu32 ((1 : Int) * 2 ^ min (wu64 (List.length a1.1 : Int)).toNat 32)) - (1 : Int)))
def r02_May_j1  (t1 : Bool) : Option Bool :=
 some (t1)
def r02_May (k : Nat) (a1 : (List (List UInt8) × List ((Int × Int × Int × Unit)) × Unit)) (plus1 : Int) (minus1 : Int) : Option Bool :=
 Option.bind (r02_all k (a1.1, a1.2.1, ())) fun v1 =>
 r02_May_j1 (((wu32 (BitVec.toNat (BitVec.ofInt 32 (wu32 (BitVec.toNat (BitVec.ofInt 32 plus1 ||| BitVec.ofInt 32 minus1))) &&& BitVec.ofInt 32 v1))) == (wu32 (BitVec.toNat (BitVec.ofInt 32 plus1 ||| BitVec.ofInt 32 minus1)))) && ((wu32 (BitVec.toNat (BitVec.ofInt 32 plus1 &&& BitVec.ofInt 32 minus1))) == (0 : Int)))
def r02_Check_j3 (go2 : Bool -> Int -> Option Int) (k1 : Int) (t3 : Bool) : Option Int :=
 go2 t3 (wi64 (k1 + (1 : Int)))
def r02_Check_b2 (i1 : Int) (a2 : List (List UInt8)) (go1 : Int -> (List (List UInt8)) -> (List ((Int × Int × Int × Unit))) -> Option Int) (a3 : List ((Int × Int × Int × Unit))) (go2 : Bool -> Int -> Option Int) (ok1 : Bool) (k1 : Int) : Option Int :=
 if decide (k1 < i1) then
  (
   if ok1 then
    (
     Option.bind (at? a2 k1) fun x2 =>
     Option.bind (at? a2 i1) fun x3 =>
     r02_Check_j3 go2 k1 (!(x2 == x3))
    )
   else
    r02_Check_j3 go2 k1 false
  )
 else
  (
   if !ok1 then
    some ((7 : Int))
   else
    go1 (wi64 (i1 + (1 : Int))) a2 a3
  )
def r02_Check_l2 (i1 : Int) (a2 : List (List UInt8)) (go1 : Int -> (List (List UInt8)) -> (List ((Int × Int × Int × Unit))) -> Option Int) (a3 : List ((Int × Int × Int × Unit))) : Nat -> Bool -> Int -> Option Int
 | 0, _, _ => none
 | n + 1, ok1, k1 => r02_Check_b2 i1 a2 go1 a3 (r02_Check_l2 i1 a2 go1 a3 n) ok1 k1
def r02_Check_j5 (go4 : Bool -> Int -> Option Int) (k2 : Int) (t5 : Bool) : Option Int :=
 go4 t5 (wi64 (k2 + (1 : Int)))
def r02_Check_b4 (i2 : Int) (a5 : List ((Int × Int × Int × Unit))) (x4 : (Int × Int × Int × Unit)) (go3 : Int -> (List (List UInt8)) -> (List ((Int × Int × Int × Unit))) -> Option Int) (a4 : List (List UInt8)) (go4 : Bool -> Int -> Option Int) (ok2 : Bool) (k2 : Int) : Option Int :=
 if decide (k2 < i2) then
  (
   if ok2 then
    (
     Option.bind (at? a5 k2) fun x5 =>
     r02_Check_j5 go4 k2 (x5.1 != x4.1)
    )
   else
    r02_Check_j5 go4 k2 false
  )
 else
  (
   if !ok2 then
    some ((7 : Int))
   else
    go3 (wi64 (i2 + (1 : Int))) a4 a5
  )
def r02_Check_l4 (i2 : Int) (a5 : List ((Int × Int × Int × Unit))) (x4 : (Int × Int × Int × Unit)) (go3 : Int -> (List (List UInt8)) -> (List ((Int × Int × Int × Unit))) -> Option Int) (a4 : List (List UInt8)) : Nat -> Bool -> Int -> Option Int
 | 0, _, _ => none
 | n + 1, ok2, k2 => r02_Check_b4 i2 a5 x4 go3 a4 (r02_Check_l4 i2 a5 x4 go3 a4 n) ok2 k2
def r02_Check_j4 (k : Nat) (i2 : Int) (a5 : List ((Int × Int × Int × Unit))) (x4 : (Int × Int × Int × Unit)) (go3 : Int -> (List (List UInt8)) -> (List ((Int × Int × Int × Unit))) -> Option Int) (a4 : List (List UInt8)) (t4 : Bool) : Option Int :=
 r02_Check_l4 i2 a5 x4 go3 a4 k t4 (0 : Int)
def r02_Check_b3 (k : Nat) (go3 : Int -> (List (List UInt8)) -> (List ((Int × Int × Int × Unit))) -> Option Int) (i2 : Int) (a4 : List (List UInt8)) (a5 : List ((Int × Int × Int × Unit))) : Option Int :=
 if decide (i2 < (List.length a5 : Int)) then
  (
   Option.bind (at? a5 i2) fun x4 =>
   Option.bind (r02_letter k x4.1) fun v2 =>
   if v2 then
    (
     Option.bind (r02_May k (a4, a5, ()) x4.2.1 x4.2.2.1) fun v3 =>
     r02_Check_j4 k i2 a5 x4 go3 a4 v3
    )
   else
    r02_Check_j4 k i2 a5 x4 go3 a4 false
  )
 else
  some ((0 : Int))
def zcv (k : Nat) : Nat -> Int -> (List (List UInt8)) -> (List ((Int × Int × Int × Unit))) -> Option Int
 | 0, _, _, _ => none
 | n + 1, i2, a4, a5 => r02_Check_b3 k (zcv k n) i2 a4 a5
def r02_Check_b1 (k : Nat) (go1 : Int -> (List (List UInt8)) -> (List ((Int × Int × Int × Unit))) -> Option Int) (i1 : Int) (a2 : List (List UInt8)) (a3 : List ((Int × Int × Int × Unit))) : Option Int :=
 if decide (i1 < (List.length a2 : Int)) then
  (
   Option.bind (at? a2 i1) fun x1 =>
   Option.bind (r02_name k x1) fun v1 =>
   r02_Check_l2 i1 a2 go1 a3 k v1 (0 : Int)
  )
 else
  zcv k k (0 : Int) a2 a3
def r02_Check_l1 (k : Nat) : Nat -> Int -> (List (List UInt8)) -> (List ((Int × Int × Int × Unit))) -> Option Int
 | 0, _, _, _ => none
 | n + 1, i1, a2, a3 => r02_Check_b1 k (r02_Check_l1 k n) i1 a2 a3
def r02_Check_j2 (k : Nat) (a1 : (List (List UInt8) × List ((Int × Int × Int × Unit)) × Unit)) (t2 : Bool) : Option Int :=
 if t2 then
  some ((7 : Int))
 else
  r02_Check_l1 k k (0 : Int) a1.1 a1.2.1
def r02_Check_j1 (k : Nat) (a1 : (List (List UInt8) × List ((Int × Int × Int × Unit)) × Unit)) (t1 : Bool) : Option Int :=
 r02_Check_j2 k a1 (t1 || (decide ((128 : Int) < (List.length a1.2.1 : Int))))
def r02_Check (k : Nat) (a1 : (List (List UInt8) × List ((Int × Int × Int × Unit)) × Unit)) : Option Int :=
 r02_Check_j1 k a1 (decide ((24 : Int) < (List.length a1.1 : Int)) || (decide ((List.length a1.2.1 : Int) < (1 : Int))))
def r02_Find_b1 (a1 : (List (List UInt8) × List ((Int × Int × Int × Unit)) × Unit)) (r1 : Int) (go1 : Int -> Option Int) (i1 : Int) : Option Int :=
 if decide (i1 < (List.length a1.2.1 : Int)) then
  (
   Option.bind (at? a1.2.1 i1) fun x1 =>
   if x1.1 == r1 then
    some (i1)
   else
    go1 (wi64 (i1 + (1 : Int)))
  )
 else
  some ((-1 : Int))
def r02_Find_l1 (a1 : (List (List UInt8) × List ((Int × Int × Int × Unit)) × Unit)) (r1 : Int) : Nat -> Int -> Option Int
 | 0, _ => none
 | n + 1, i1 => r02_Find_b1 a1 r1 (r02_Find_l1 a1 r1 n) i1
def r02_Find (k : Nat) (a1 : (List (List UInt8) × List ((Int × Int × Int × Unit)) × Unit)) (r1 : Int) : Option Int :=
 r02_Find_l1 a1 r1 k (0 : Int)
end Go.Ev
namespace Go.Ev
open Go
set_option linter.unusedVariables false
def word_ranks_b1 (a1 : (List (List UInt8) × List ((Int × Int × Int × Unit)) × Unit)) (go1 : Int -> (List (Int × Int)) -> Option (Option (List (Int × Int)) × Int)) (t1 : Int) (m1 : List (Int × Int)) : Option (Option (List (Int × Int)) × Int) :=
 if decide (t1 < (List.length a1.2.1 : Int)) then
  (
   Option.bind (at? a1.2.1 t1) fun x1 =>
   go1 (wi64 (t1 + (1 : Int))) (mset (eqEl (.int .i32)) m1 x1.1 t1)
  )
 else
  some (some m1, (0 : Int))
def zcw (a1 : (List (List UInt8) × List ((Int × Int × Int × Unit)) × Unit)) : Nat -> Int -> (List (Int × Int)) -> Option (Option (List (Int × Int)) × Int)
 | 0, _, _ => none
 | n + 1, t1, m1 => word_ranks_b1 a1 (zcw a1 n) t1 m1
def word_ranks (k : Nat) (a1 : (List (List UInt8) × List ((Int × Int × Int × Unit)) × Unit)) : Option (Option (List (Int × Int)) × Int) :=
 Option.bind (zco k (a1.1, a1.2.1, ())) fun v1 =>
 if v1 != (0 : Int) then
  some ((none : Option (List (Int × Int))), v1)
 else
  zcw a1 k (0 : Int) ([] : List (Int × Int))
def runes_long (k : Nat) (s1 : List UInt8) : Option Int :=
 if decide ((65536 : Int) < (List.length s1 : Int)) then
  some ((3 : Int))
 else
  some ((0 : Int))
def unicode_utf8_RuneLen_j1 (r1 : Int) (t1 : Bool) : Option Int :=
 if t1 then
  some ((-1 : Int))
 else
  (
   if decide (r1 <= (65535 : Int)) then
    some ((3 : Int))
   else
    (
     if decide (r1 <= (1114111 : Int)) then
      some ((4 : Int))
     else
      some ((-1 : Int))
    )
  )
def zcx (k : Nat) (r1 : Int) : Option Int :=
 if decide (r1 < (0 : Int)) then
  some ((-1 : Int))
 else
  (
   if decide (r1 <= (127 : Int)) then
    some ((1 : Int))
   else
    (
     if decide (r1 <= (2047 : Int)) then
      some ((2 : Int))
     else
      unicode_utf8_RuneLen_j1 r1 (decide ((55296 : Int) <= r1) && (decide (r1 <= (57343 : Int))))
    )
  )
def zcy (k : Nat) (p1 : (Int × Int × Int × Bool × Unit)) (l1 : List ((Int × Int × Int × Bool × Unit))) : Option (Bool × List ((Int × Int × Int × Bool × Unit))) :=
 Option.bind (chk (List.length l1 + List.length ([(p1.1, p1.2.1, p1.2.2.1, p1.2.2.2.1, ())] : List ((Int × Int × Int × Bool × Unit))) <= lim)) fun _ =>
 some (true, l1 ++ ([(p1.1, p1.2.1, p1.2.2.1, p1.2.2.2.1, ())] : List ((Int × Int × Int × Bool × Unit))))
def zcz (k : Nat) (s1 : List UInt8) (pos1 : Nat) (t2 : List ((Int × Int × Int × Bool × Unit))) (go1 : Nat -> (List ((Int × Int × Int × Bool × Unit))) -> Option (List ((Int × Int × Int × Bool × Unit)))) (p1 : Int) (p2 : Bool) : Option (List ((Int × Int × Int × Bool × Unit))) :=
 Option.bind (zcy k (runeAt s1 pos1, (pos1 : Int), p1, p2, ()) t2) fun v2 =>
 if !v2.1 then
  some v2.2
 else
  go1 (pos1 + widthAt s1 pos1) v2.2
def runes_each_i1_b1 (k : Nat) (s1 : List UInt8) (go1 : Nat -> (List ((Int × Int × Int × Bool × Unit))) -> Option (List ((Int × Int × Int × Bool × Unit)))) (pos1 : Nat) (t2 : List ((Int × Int × Int × Bool × Unit))) : Option (List ((Int × Int × Int × Bool × Unit))) :=
 if decide (pos1 < List.length s1) then
  (
   Option.bind (zcx k (runeAt s1 pos1)) fun v1 =>
   if (runeAt s1 pos1) == (65533 : Int) then
    (
     Option.bind (sub? s1 (pos1 : Int) (s1.length : Int)) fun s2 =>
     Option.bind (utf8_DecodeRuneInString k s2) fun v3 =>
     if v3.2 == (1 : Int) then
      zcz k s1 pos1 t2 go1 (1 : Int) true
     else
      zcz k s1 pos1 t2 go1 v1 false
    )
   else
    zcz k s1 pos1 t2 go1 v1 false
  )
 else
  some t2
def zc0 (k : Nat) (s1 : List UInt8) : Nat -> Nat -> (List ((Int × Int × Int × Bool × Unit))) -> Option (List ((Int × Int × Int × Bool × Unit)))
 | 0, _, _ => none
 | n + 1, pos1, t2 => runes_each_i1_b1 k s1 (zc0 k s1 n) pos1 t2
def zc1 (k : Nat) (s1 : List UInt8) (l1 : List ((Int × Int × Int × Bool × Unit))) : Option (List ((Int × Int × Int × Bool × Unit))) :=
 zc0 k s1 k 0 l1
def runes_Pieces (k : Nat) (s1 : List UInt8) : Option (List ((Int × Int × Int × Bool × Unit)) × Int) :=
 Option.bind (runes_long k s1) fun v1 =>
 if v1 != (0 : Int) then
  some (([] : List ((Int × Int × Int × Bool × Unit))), v1)
 else
  (
   Option.bind (zc1 k s1 ([] : List ((Int × Int × Int × Bool × Unit)))) fun v2 =>
   some (v2, (0 : Int))
  )
def word_read_b1 (v1 : (List ((Int × Int × Int × Bool × Unit)) × Int)) (m1 : Option (List (Int × Int))) (go1 : Int -> (List (Int)) -> Option (List (Int) × Int)) (t1 : Int) (out1 : List (Int)) : Option (List (Int) × Int) :=
 if decide (t1 < (List.length v1.1 : Int)) then
  (
   Option.bind (at? v1.1 t1) fun x1 =>
   if x1.2.2.2.1 then
    some (([] : List (Int)), (6 : Int))
   else
    (
     if !((mget (eqEl (.int .i32)) (m1.getD []) x1.1).isSome) then
      some (([] : List (Int)), (5 : Int))
     else
      (
       if (List.length out1 : Int) == (64 : Int) then
        some (([] : List (Int)), (4 : Int))
       else
        (
         Option.bind (chk (List.length out1 + List.length ([x1.1] : List (Int)) <= lim)) fun _ =>
         go1 (wi64 (t1 + (1 : Int))) (out1 ++ ([x1.1] : List (Int)))
        )
      )
    )
  )
 else
  some (out1, (0 : Int))
def zc2 (v1 : (List ((Int × Int × Int × Bool × Unit)) × Int)) (m1 : Option (List (Int × Int))) : Nat -> Int -> (List (Int)) -> Option (List (Int) × Int)
 | 0, _, _ => none
 | n + 1, t1, out1 => word_read_b1 v1 m1 (zc2 v1 m1 n) t1 out1
def word_read_j1 (k : Nat) (m1 : Option (List (Int × Int))) (w2 : List UInt8) : Option (List (Int) × Int) :=
 Option.bind (runes_Pieces k w2) fun v1 =>
 if v1.2 != (0 : Int) then
  some (([] : List (Int)), v1.2)
 else
  zc2 v1 m1 k (0 : Int) ([] : List (Int))
def word_read (k : Nat) (m1 : Option (List (Int × Int))) (w1 : List UInt8) : Option (List (Int) × Int) :=
 if decide ((65536 : Int) < (List.length w1 : Int)) then
  (
   Option.bind (sub? w1 (0 : Int) (65536 : Int)) fun s1 =>
   word_read_j1 k m1 s1
  )
 else
  word_read_j1 k m1 w1
def zc3 (k : Nat) (a1 : (List (List UInt8) × List ((Int × Int × Int × Unit)) × Unit)) (w1 : List UInt8) : Option (List (Int) × Int) :=
 Option.bind (word_ranks k (a1.1, a1.2.1, ())) fun v1 =>
 if v1.2 != (0 : Int) then
  some (([] : List (Int)), v1.2)
 else
  (
   Option.bind (word_read k v1.1 w1) fun v2 =>
   some (v2.1, v2.2)
  )
def zc4 (k : Nat) (x1 : Int) : Option Int :=
 Option.bind (chk (0 <= (24 : Int))) fun _ =>
 Option.bind (byteAt ([0, 1, 1, 2, 1, 2, 2, 3, 1, 2, 2, 3, 2, 3, 3, 4, 1, 2, 2, 3, 2, 3, 3, 4, 2, 3, 3, 4, 3, 4, 4, 5, 1, 2, 2, 3, 2, 3, 3, 4, 2, 3, 3, 4, 3, 4, 4, 5, 2, 3, 3, 4, 3, 4, 4, 5, 3, 4, 4, 5, 4, 5, 5, 6, 1, 2, 2, 3, 2, 3, 3, 4, 2, 3, 3, 4, 3, 4, 4, 5, 2, 3, 3, 4, 3, 4, 4, 5, 3, 4, 4, 5, 4, 5, 5, 6, 2, 3, 3, 4, 3, 4, 4, 5, 3, 4, 4, 5, 4, 5, 5, 6, 3, 4, 4, 5, 4, 5, 5, 6, 4, 5, 5, 6, 5, 6, 6, 7, 1, 2, 2, 3, 2, 3, 3, 4, 2, 3, 3, 4, 3, 4, 4, 5, 2, 3, 3, 4, 3, 4, 4, 5, 3, 4, 4, 5, 4, 5, 5, 6, 2, 3, 3, 4, 3, 4, 4, 5, 3, 4, 4, 5, 4, 5, 5, 6, 3, 4, 4, 5, 4, 5, 5, 6, 4, 5, 5, 6, 5, 6, 6, 7, 2, 3, 3, 4, 3, 4, 4, 5, 3, 4, 4, 5, 4, 5, 5, 6, 3, 4, 4, 5, 4, 5, 5, 6, 4, 5, 5, 6, 5, 6, 6, 7, 3, 4, 4, 5, 4, 5, 5, 6, 4, 5, 5, 6, 5, 6, 6, 7, 4, 5, 5, 6, 5, 6, 6, 7, 5, 6, 6, 7, 6, 7, 7, 8] : List UInt8) (Int.fdiv x1 (2 ^ min ((24 : Int)).toNat 32))) fun b1 =>
 Option.bind (chk (0 <= (16 : Int))) fun _ =>
 Option.bind (byteAt ([0, 1, 1, 2, 1, 2, 2, 3, 1, 2, 2, 3, 2, 3, 3, 4, 1, 2, 2, 3, 2, 3, 3, 4, 2, 3, 3, 4, 3, 4, 4, 5, 1, 2, 2, 3, 2, 3, 3, 4, 2, 3, 3, 4, 3, 4, 4, 5, 2, 3, 3, 4, 3, 4, 4, 5, 3, 4, 4, 5, 4, 5, 5, 6, 1, 2, 2, 3, 2, 3, 3, 4, 2, 3, 3, 4, 3, 4, 4, 5, 2, 3, 3, 4, 3, 4, 4, 5, 3, 4, 4, 5, 4, 5, 5, 6, 2, 3, 3, 4, 3, 4, 4, 5, 3, 4, 4, 5, 4, 5, 5, 6, 3, 4, 4, 5, 4, 5, 5, 6, 4, 5, 5, 6, 5, 6, 6, 7, 1, 2, 2, 3, 2, 3, 3, 4, 2, 3, 3, 4, 3, 4, 4, 5, 2, 3, 3, 4, 3, 4, 4, 5, 3, 4, 4, 5, 4, 5, 5, 6, 2, 3, 3, 4, 3, 4, 4, 5, 3, 4, 4, 5, 4, 5, 5, 6, 3, 4, 4, 5, 4, 5, 5, 6, 4, 5, 5, 6, 5, 6, 6, 7, 2, 3, 3, 4, 3, 4, 4, 5, 3, 4, 4, 5, 4, 5, 5, 6, 3, 4, 4, 5, 4, 5, 5, 6, 4, 5, 5, 6, 5, 6, 6, 7, 3, 4, 4, 5, 4, 5, 5, 6, 4, 5, 5, 6, 5, 6, 6, 7, 4, 5, 5, 6, 5, 6, 6, 7, 5, 6, 6, 7, 6, 7, 7, 8] : List UInt8) (wu32 (BitVec.toNat (BitVec.ofInt 32 (Int.fdiv x1 (2 ^ min ((16 : Int)).toNat 32)) &&& BitVec.ofInt 32 (255 : Int))))) fun b2 =>
 Option.bind (chk (0 <= (8 : Int))) fun _ =>
 Option.bind (byteAt ([0, 1, 1, 2, 1, 2, 2, 3, 1, 2, 2, 3, 2, 3, 3, 4, 1, 2, 2, 3, 2, 3, 3, 4, 2, 3, 3, 4, 3, 4, 4, 5, 1, 2, 2, 3, 2, 3, 3, 4, 2, 3, 3, 4, 3, 4, 4, 5, 2, 3, 3, 4, 3, 4, 4, 5, 3, 4, 4, 5, 4, 5, 5, 6, 1, 2, 2, 3, 2, 3, 3, 4, 2, 3, 3, 4, 3, 4, 4, 5, 2, 3, 3, 4, 3, 4, 4, 5, 3, 4, 4, 5, 4, 5, 5, 6, 2, 3, 3, 4, 3, 4, 4, 5, 3, 4, 4, 5, 4, 5, 5, 6, 3, 4, 4, 5, 4, 5, 5, 6, 4, 5, 5, 6, 5, 6, 6, 7, 1, 2, 2, 3, 2, 3, 3, 4, 2, 3, 3, 4, 3, 4, 4, 5, 2, 3, 3, 4, 3, 4, 4, 5, 3, 4, 4, 5, 4, 5, 5, 6, 2, 3, 3, 4, 3, 4, 4, 5, 3, 4, 4, 5, 4, 5, 5, 6, 3, 4, 4, 5, 4, 5, 5, 6, 4, 5, 5, 6, 5, 6, 6, 7, 2, 3, 3, 4, 3, 4, 4, 5, 3, 4, 4, 5, 4, 5, 5, 6, 3, 4, 4, 5, 4, 5, 5, 6, 4, 5, 5, 6, 5, 6, 6, 7, 3, 4, 4, 5, 4, 5, 5, 6, 4, 5, 5, 6, 5, 6, 6, 7, 4, 5, 5, 6, 5, 6, 6, 7, 5, 6, 6, 7, 6, 7, 7, 8] : List UInt8) (wu32 (BitVec.toNat (BitVec.ofInt 32 (Int.fdiv x1 (2 ^ min ((8 : Int)).toNat 32)) &&& BitVec.ofInt 32 (255 : Int))))) fun b3 =>
 Option.bind (byteAt ([0, 1, 1, 2, 1, 2, 2, 3, 1, 2, 2, 3, 2, 3, 3, 4, 1, 2, 2, 3, 2, 3, 3, 4, 2, 3, 3, 4, 3, 4, 4, 5, 1, 2, 2, 3, 2, 3, 3, 4, 2, 3, 3, 4, 3, 4, 4, 5, 2, 3, 3, 4, 3, 4, 4, 5, 3, 4, 4, 5, 4, 5, 5, 6, 1, 2, 2, 3, 2, 3, 3, 4, 2, 3, 3, 4, 3, 4, 4, 5, 2, 3, 3, 4, 3, 4, 4, 5, 3, 4, 4, 5, 4, 5, 5, 6, 2, 3, 3, 4, 3, 4, 4, 5, 3, 4, 4, 5, 4, 5, 5, 6, 3, 4, 4, 5, 4, 5, 5, 6, 4, 5, 5, 6, 5, 6, 6, 7, 1, 2, 2, 3, 2, 3, 3, 4, 2, 3, 3, 4, 3, 4, 4, 5, 2, 3, 3, 4, 3, 4, 4, 5, 3, 4, 4, 5, 4, 5, 5, 6, 2, 3, 3, 4, 3, 4, 4, 5, 3, 4, 4, 5, 4, 5, 5, 6, 3, 4, 4, 5, 4, 5, 5, 6, 4, 5, 5, 6, 5, 6, 6, 7, 2, 3, 3, 4, 3, 4, 4, 5, 3, 4, 4, 5, 4, 5, 5, 6, 3, 4, 4, 5, 4, 5, 5, 6, 4, 5, 5, 6, 5, 6, 6, 7, 3, 4, 4, 5, 4, 5, 5, 6, 4, 5, 5, 6, 5, 6, 6, 7, 4, 5, 5, 6, 5, 6, 6, 7, 5, 6, 6, 7, 6, 7, 7, 8] : List UInt8) (wu32 (BitVec.toNat (BitVec.ofInt 32 x1 &&& BitVec.ofInt 32 (255 : Int))))) fun b4 =>
 some (wi64 (wu8 ((wu8 ((wu8 (b1 + b2)) + b3)) + b4)))
def zc5 (k : Nat) (x1 : (Int × Int × Int × Unit)) (y1 : (Int × Int × Int × Unit)) : Option Int :=
 Option.bind (zc4 k (wu32 (BitVec.toNat (BitVec.ofInt 32 (wu32 (BitVec.toNat (BitVec.ofInt 32 x1.2.1 ^^^ BitVec.ofInt 32 y1.2.1))) ||| BitVec.ofInt 32 (wu32 (BitVec.toNat (BitVec.ofInt 32 x1.2.2.1 ^^^ BitVec.ofInt 32 y1.2.2.1))))))) fun v1 =>
 some (v1)
def feature_Far (k : Nat) (a1 : (List (List UInt8) × List ((Int × Int × Int × Unit)) × Unit)) (x1 : Int) (y1 : Int) : Option (Int × Int) :=
 Option.bind (zcs k (a1.1, a1.2.1, ()) x1) fun v1 =>
 if v1.2 != (0 : Int) then
  some ((0 : Int), v1.2)
 else
  (
   Option.bind (zcs k (a1.1, a1.2.1, ()) y1) fun v2 =>
   if v2.2 != (0 : Int) then
    some ((0 : Int), v2.2)
   else
    (
     Option.bind (zc5 k (v1.1.1, v1.1.2.1, v1.1.2.2.1, ()) (v2.1.1, v2.1.2.1, v2.1.2.2.1, ())) fun v3 =>
     some (v3, (0 : Int))
    )
  )
def align_far_j1 (k : Nat) (a1 : (List (List UInt8) × List ((Int × Int × Int × Unit)) × Unit)) (x1 : Int) (y1 : Int) (t1 : Bool) : Option Int :=
 if t1 then
  some ((5 : Int))
 else
  (
   Option.bind (feature_Far k (a1.1, a1.2.1, ()) x1 y1) fun v1 =>
   some (wi64 ((2 : Int) + v1.1))
  )
def zc6 (k : Nat) (a1 : (List (List UInt8) × List ((Int × Int × Int × Unit)) × Unit)) (x1 : Int) (y1 : Int) : Option Int :=
 if x1 == y1 then
  some ((0 : Int))
 else
  align_far_j1 k a1 x1 y1 ((x1 == (0 : Int)) || (y1 == (0 : Int)))
def zc7 (go2 : Int -> (List (Int) × List (Int) × List (List (Int)) × List (List (Int)) × Unit) -> Option (List (Int) × List (Int) × List (List (Int)) × List (List (Int)) × Unit)) (k1 : Int) (blk4 : (List (Int) × List (Int) × List (List (Int)) × List (List (Int)) × Unit)) : Option (List (Int) × List (Int) × List (List (Int)) × List (List (Int)) × Unit) :=
 go2 (wi64 (k1 - (1 : Int))) blk4
def zc8 (i1 : Int) (k1 : Int) (blk3 : (List (Int) × List (Int) × List (List (Int)) × List (List (Int)) × Unit)) (go2 : Int -> (List (Int) × List (Int) × List (List (Int)) × List (List (Int)) × Unit) -> Option (List (Int) × List (Int) × List (List (Int)) × List (List (Int)) × Unit)) (both1 : Int) (left1 : Int) (right1 : Int) (n3 : Int) : Option (List (Int) × List (Int) × List (List (Int)) × List (List (Int)) × Unit) :=
 Option.bind (chk (0 <= i1 /\ i1 < (65 : Int))) fun _ =>
 Option.bind (chk (0 <= k1 /\ k1 < (65 : Int))) fun _ =>
 Option.bind (chk (0 <= i1 /\ i1 < (65 : Int))) fun _ =>
 Option.bind (at? blk3.2.2.1 i1) fun x4 =>
 Option.bind (at? x4 k1) fun x5 =>
 Option.bind (chk (0 <= k1 /\ k1 < (65 : Int))) fun _ =>
 Option.bind (at? blk3.2.2.2.1 i1) fun x6 =>
 Option.bind (at? x6 k1) fun x7 =>
 zc7 go2 k1 (blk3.1, blk3.2.1, List.set blk3.2.2.1 (i1).toNat (List.set x4 (k1).toNat (mnI (mnI both1 left1) right1)), List.set blk3.2.2.2.1 (i1).toNat (List.set x6 (k1).toNat (mnI n3 (1048577 : Int))), ())
def zc9 (right1 : Int) (both1 : Int) (left1 : Int) (i1 : Int) (k1 : Int) (blk3 : (List (Int) × List (Int) × List (List (Int)) × List (List (Int)) × Unit)) (go2 : Int -> (List (Int) × List (Int) × List (List (Int)) × List (List (Int)) × Unit) -> Option (List (Int) × List (Int) × List (List (Int)) × List (List (Int)) × Unit)) (n2 : Int) : Option (List (Int) × List (Int) × List (List (Int)) × List (List (Int)) × Unit) :=
 if right1 == (mnI (mnI both1 left1) right1) then
  (
   Option.bind (chk (0 <= i1 /\ i1 < (65 : Int))) fun _ =>
   Option.bind (chk (0 <= (wi64 (k1 + (1 : Int))) /\ (wi64 (k1 + (1 : Int))) < (65 : Int))) fun _ =>
   Option.bind (at? blk3.2.2.2.1 i1) fun x8 =>
   Option.bind (at? x8 (wi64 (k1 + (1 : Int)))) fun x9 =>
   zc8 i1 k1 blk3 go2 both1 left1 right1 (wi64 (n2 + x9))
  )
 else
  zc8 i1 k1 blk3 go2 both1 left1 right1 n2
def zda (left1 : Int) (both1 : Int) (right1 : Int) (i1 : Int) (k1 : Int) (blk3 : (List (Int) × List (Int) × List (List (Int)) × List (List (Int)) × Unit)) (go2 : Int -> (List (Int) × List (Int) × List (List (Int)) × List (List (Int)) × Unit) -> Option (List (Int) × List (Int) × List (List (Int)) × List (List (Int)) × Unit)) (n1 : Int) : Option (List (Int) × List (Int) × List (List (Int)) × List (List (Int)) × Unit) :=
 if left1 == (mnI (mnI both1 left1) right1) then
  (
   Option.bind (chk (0 <= (wi64 (i1 + (1 : Int))) /\ (wi64 (i1 + (1 : Int))) < (65 : Int))) fun _ =>
   Option.bind (chk (0 <= k1 /\ k1 < (65 : Int))) fun _ =>
   Option.bind (at? blk3.2.2.2.1 (wi64 (i1 + (1 : Int)))) fun x10 =>
   Option.bind (at? x10 k1) fun x11 =>
   zc9 right1 both1 left1 i1 k1 blk3 go2 (wi64 (n1 + x11))
  )
 else
  zc9 right1 both1 left1 i1 k1 blk3 go2 n1
def zdb (both1 : Int) (left1 : Int) (i1 : Int) (k1 : Int) (blk3 : (List (Int) × List (Int) × List (List (Int)) × List (List (Int)) × Unit)) (go2 : Int -> (List (Int) × List (Int) × List (List (Int)) × List (List (Int)) × Unit) -> Option (List (Int) × List (Int) × List (List (Int)) × List (List (Int)) × Unit)) (right1 : Int) : Option (List (Int) × List (Int) × List (List (Int)) × List (List (Int)) × Unit) :=
 if both1 == (mnI (mnI both1 left1) right1) then
  (
   Option.bind (chk (0 <= (wi64 (i1 + (1 : Int))) /\ (wi64 (i1 + (1 : Int))) < (65 : Int))) fun _ =>
   Option.bind (chk (0 <= (wi64 (k1 + (1 : Int))) /\ (wi64 (k1 + (1 : Int))) < (65 : Int))) fun _ =>
   Option.bind (at? blk3.2.2.2.1 (wi64 (i1 + (1 : Int)))) fun x12 =>
   Option.bind (at? x12 (wi64 (k1 + (1 : Int)))) fun x13 =>
   zda left1 both1 right1 i1 k1 blk3 go2 (wi64 ((0 : Int) + x13))
  )
 else
  zda left1 both1 right1 i1 k1 blk3 go2 (0 : Int)
def zdc (k1 : Int) (y1 : List (Int)) (i1 : Int) (blk3 : (List (Int) × List (Int) × List (List (Int)) × List (List (Int)) × Unit)) (both1 : Int) (go2 : Int -> (List (Int) × List (Int) × List (List (Int)) × List (List (Int)) × Unit) -> Option (List (Int) × List (Int) × List (List (Int)) × List (List (Int)) × Unit)) (left1 : Int) : Option (List (Int) × List (Int) × List (List (Int)) × List (List (Int)) × Unit) :=
 if decide (k1 < (List.length y1 : Int)) then
  (
   Option.bind (chk (0 <= i1 /\ i1 < (65 : Int))) fun _ =>
   Option.bind (chk (0 <= (wi64 (k1 + (1 : Int))) /\ (wi64 (k1 + (1 : Int))) < (65 : Int))) fun _ =>
   Option.bind (at? blk3.2.2.1 i1) fun x14 =>
   Option.bind (at? x14 (wi64 (k1 + (1 : Int)))) fun x15 =>
   zdb both1 left1 i1 k1 blk3 go2 (wi64 ((5 : Int) + x15))
  )
 else
  zdb both1 left1 i1 k1 blk3 go2 (1073741824 : Int)
def zdd (i1 : Int) (x1 : List (Int)) (k1 : Int) (blk3 : (List (Int) × List (Int) × List (List (Int)) × List (List (Int)) × Unit)) (y1 : List (Int)) (go2 : Int -> (List (Int) × List (Int) × List (List (Int)) × List (List (Int)) × Unit) -> Option (List (Int) × List (Int) × List (List (Int)) × List (List (Int)) × Unit)) (both1 : Int) : Option (List (Int) × List (Int) × List (List (Int)) × List (List (Int)) × Unit) :=
 if decide (i1 < (List.length x1 : Int)) then
  (
   Option.bind (chk (0 <= (wi64 (i1 + (1 : Int))) /\ (wi64 (i1 + (1 : Int))) < (65 : Int))) fun _ =>
   Option.bind (chk (0 <= k1 /\ k1 < (65 : Int))) fun _ =>
   Option.bind (at? blk3.2.2.1 (wi64 (i1 + (1 : Int)))) fun x16 =>
   Option.bind (at? x16 k1) fun x17 =>
   zdc k1 y1 i1 blk3 both1 go2 (wi64 ((5 : Int) + x17))
  )
 else
  zdc k1 y1 i1 blk3 both1 go2 (1073741824 : Int)
def zde (k : Nat) (x1 : List (Int)) (i1 : Int) (y1 : List (Int)) (k1 : Int) (a2 : List (List UInt8)) (a3 : List ((Int × Int × Int × Unit))) (blk3 : (List (Int) × List (Int) × List (List (Int)) × List (List (Int)) × Unit)) (go2 : Int -> (List (Int) × List (Int) × List (List (Int)) × List (List (Int)) × Unit) -> Option (List (Int) × List (Int) × List (List (Int)) × List (List (Int)) × Unit)) (t2 : Bool) : Option (List (Int) × List (Int) × List (List (Int)) × List (List (Int)) × Unit) :=
 if t2 then
  (
   Option.bind (at? x1 i1) fun x18 =>
   Option.bind (at? y1 k1) fun x19 =>
   Option.bind (zc6 k (a2, a3, ()) x18 x19) fun v1 =>
   Option.bind (chk (0 <= (wi64 (i1 + (1 : Int))) /\ (wi64 (i1 + (1 : Int))) < (65 : Int))) fun _ =>
   Option.bind (chk (0 <= (wi64 (k1 + (1 : Int))) /\ (wi64 (k1 + (1 : Int))) < (65 : Int))) fun _ =>
   Option.bind (at? blk3.2.2.1 (wi64 (i1 + (1 : Int)))) fun x20 =>
   Option.bind (at? x20 (wi64 (k1 + (1 : Int)))) fun x21 =>
   zdd i1 x1 k1 blk3 y1 go2 (wi64 (v1 + x21))
  )
 else
  zdd i1 x1 k1 blk3 y1 go2 (1073741824 : Int)
def zdf (k : Nat) (go2 : Int -> (List (Int) × List (Int) × List (List (Int)) × List (List (Int)) × Unit) -> Option (List (Int) × List (Int) × List (List (Int)) × List (List (Int)) × Unit)) (k1 : Int) (blk3 : (List (Int) × List (Int) × List (List (Int)) × List (List (Int)) × Unit)) (x1 : List (Int)) (i1 : Int) (y1 : List (Int)) (a2 : List (List UInt8)) (a3 : List ((Int × Int × Int × Unit))) (t1 : Bool) : Option (List (Int) × List (Int) × List (List (Int)) × List (List (Int)) × Unit) :=
 if t1 then
  zc7 go2 k1 blk3
 else
  zde k x1 i1 y1 k1 a2 a3 blk3 go2 (decide (i1 < (List.length x1 : Int)) && (decide (k1 < (List.length y1 : Int))))
def zdg (k : Nat) (x1 : List (Int)) (i1 : Int) (y1 : List (Int)) (a2 : List (List UInt8)) (a3 : List ((Int × Int × Int × Unit))) (go1 : Int -> (List (List UInt8)) -> (List ((Int × Int × Int × Unit))) -> (List (Int) × List (Int) × List (List (Int)) × List (List (Int)) × Unit) -> Option (List (Int) × List (Int) × List (List (Int)) × List (List (Int)) × Unit)) (go2 : Int -> (List (Int) × List (Int) × List (List (Int)) × List (List (Int)) × Unit) -> Option (List (Int) × List (Int) × List (List (Int)) × List (List (Int)) × Unit)) (k1 : Int) (blk3 : (List (Int) × List (Int) × List (List (Int)) × List (List (Int)) × Unit)) : Option (List (Int) × List (Int) × List (List (Int)) × List (List (Int)) × Unit) :=
 if decide ((0 : Int) <= k1) then
  zdf k go2 k1 blk3 x1 i1 y1 a2 a3 ((i1 == (List.length x1 : Int)) && (k1 == (List.length y1 : Int)))
 else
  go1 (wi64 (i1 - (1 : Int))) a2 a3 blk3
def zdh (k : Nat) (x1 : List (Int)) (i1 : Int) (y1 : List (Int)) (a2 : List (List UInt8)) (a3 : List ((Int × Int × Int × Unit))) (go1 : Int -> (List (List UInt8)) -> (List ((Int × Int × Int × Unit))) -> (List (Int) × List (Int) × List (List (Int)) × List (List (Int)) × Unit) -> Option (List (Int) × List (Int) × List (List (Int)) × List (List (Int)) × Unit)) : Nat -> Int -> (List (Int) × List (Int) × List (List (Int)) × List (List (Int)) × Unit) -> Option (List (Int) × List (Int) × List (List (Int)) × List (List (Int)) × Unit)
 | 0, _, _ => none
 | n + 1, k1, blk3 => zdg k x1 i1 y1 a2 a3 go1 (zdh k x1 i1 y1 a2 a3 go1 n) k1 blk3
def zdi (k : Nat) (x1 : List (Int)) (y1 : List (Int)) (go1 : Int -> (List (List UInt8)) -> (List ((Int × Int × Int × Unit))) -> (List (Int) × List (Int) × List (List (Int)) × List (List (Int)) × Unit) -> Option (List (Int) × List (Int) × List (List (Int)) × List (List (Int)) × Unit)) (i1 : Int) (a2 : List (List UInt8)) (a3 : List ((Int × Int × Int × Unit))) (blk2 : (List (Int) × List (Int) × List (List (Int)) × List (List (Int)) × Unit)) : Option (List (Int) × List (Int) × List (List (Int)) × List (List (Int)) × Unit) :=
 if decide ((0 : Int) <= i1) then
  zdh k x1 i1 y1 a2 a3 go1 k (List.length y1 : Int) blk2
 else
  some blk2
def zdj (k : Nat) (x1 : List (Int)) (y1 : List (Int)) : Nat -> Int -> (List (List UInt8)) -> (List ((Int × Int × Int × Unit))) -> (List (Int) × List (Int) × List (List (Int)) × List (List (Int)) × Unit) -> Option (List (Int) × List (Int) × List (List (Int)) × List (List (Int)) × Unit)
 | 0, _, _, _, _ => none
 | n + 1, i1, a2, a3, blk2 => zdi k x1 y1 (zdj k x1 y1 n) i1 a2 a3 blk2
def zdk (k : Nat) (a1 : (List (List UInt8) × List ((Int × Int × Int × Unit)) × Unit)) (x1 : List (Int)) (y1 : List (Int)) : Option (List (Int) × List (Int) × List (List (Int)) × List (List (Int)) × Unit) :=
 Option.bind (chk (0 <= (List.length x1 : Int) /\ (List.length x1 : Int) < (65 : Int))) fun _ =>
 Option.bind (chk (0 <= (List.length y1 : Int) /\ (List.length y1 : Int) < (65 : Int))) fun _ =>
 Option.bind (at? (List.replicate 65 (List.replicate 65 (0 : Int))) (List.length x1 : Int)) fun x2 =>
 Option.bind (at? x2 (List.length y1 : Int)) fun x3 =>
 zdj k x1 y1 k (List.length x1 : Int) a1.1 a1.2.1 (x1, y1, (List.replicate 65 (List.replicate 65 (0 : Int))), List.set (List.replicate 65 (List.replicate 65 (0 : Int))) ((List.length x1 : Int)).toNat (List.set x2 ((List.length y1 : Int)).toNat (1 : Int)), ())
def zdl (k : Nat) (a1 : (List (List UInt8) × List ((Int × Int × Int × Unit)) × Unit)) (x1 : List UInt8) (y1 : List UInt8) : Option (Sum Int (Int × (List (Int) × List (Int) × List (List (Int)) × List (List (Int)) × Unit))) :=
 Option.bind (zc3 k (a1.1, a1.2.1, ()) x1) fun v1 =>
 if v1.2 != (0 : Int) then
  some (.inl v1.2)
 else
  (
   Option.bind (zc3 k (a1.1, a1.2.1, ()) y1) fun v2 =>
   if v2.2 != (0 : Int) then
    some (.inl v2.2)
   else
    (
     Option.bind (zdk k (a1.1, a1.2.1, ()) v1.1 v2.1) fun v3 =>
     some (.inr ((0 : Int), v3))
    )
  )
def zdm (t1 : (List (Int) × List (Int) × List (List (Int)) × List (List (Int)) × Unit)) (i1 : Int) (l1 : List ((Int × Int × Unit))) (go1 : Int -> Int -> (List ((Int × Int × Unit))) -> Option (List ((Int × Int × Unit)))) (k1 : Int) (t5 : Bool) : Option (List ((Int × Int × Unit))) :=
 if t5 then
  (
   Option.bind (at? t1.1 i1) fun x5 =>
   Option.bind (chk (List.length l1 + List.length ([(x5, (0 : Int), ())] : List ((Int × Int × Unit))) <= lim)) fun _ =>
   go1 (wi64 (i1 + (1 : Int))) k1 (l1 ++ ([(x5, (0 : Int), ())] : List ((Int × Int × Unit))))
  )
 else
  (
   Option.bind (at? t1.2.1 k1) fun x6 =>
   Option.bind (chk (List.length l1 + List.length ([((0 : Int), x6, ())] : List ((Int × Int × Unit))) <= lim)) fun _ =>
   go1 i1 (wi64 (k1 + (1 : Int))) (l1 ++ ([((0 : Int), x6, ())] : List ((Int × Int × Unit))))
  )
def zdn (t1 : (List (Int) × List (Int) × List (List (Int)) × List (List (Int)) × Unit)) (i1 : Int) (k1 : Int) (l1 : List ((Int × Int × Unit))) (go1 : Int -> Int -> (List ((Int × Int × Unit))) -> Option (List ((Int × Int × Unit)))) (x2 : Int) (t4 : Bool) : Option (List ((Int × Int × Unit))) :=
 if t4 then
  (
   Option.bind (at? t1.1 i1) fun x3 =>
   Option.bind (at? t1.2.1 k1) fun x4 =>
   Option.bind (chk (List.length l1 + List.length ([(x3, x4, ())] : List ((Int × Int × Unit))) <= lim)) fun _ =>
   go1 (wi64 (i1 + (1 : Int))) (wi64 (k1 + (1 : Int))) (l1 ++ ([(x3, x4, ())] : List ((Int × Int × Unit))))
  )
 else
  (
   if decide (i1 < (List.length t1.1 : Int)) then
    (
     Option.bind (at? t1.2.2.1 (wi64 (i1 + (1 : Int)))) fun x7 =>
     Option.bind (at? x7 k1) fun x8 =>
     zdm t1 i1 l1 go1 k1 (x2 == (wi64 ((5 : Int) + x8)))
    )
   else
    zdm t1 i1 l1 go1 k1 false
  )
def align_table_first_j2 (k : Nat) (t1 : (List (Int) × List (Int) × List (List (Int)) × List (List (Int)) × Unit)) (i1 : Int) (k1 : Int) (a1 : (List (List UInt8) × List ((Int × Int × Int × Unit)) × Unit)) (l1 : List ((Int × Int × Unit))) (go1 : Int -> Int -> (List ((Int × Int × Unit))) -> Option (List ((Int × Int × Unit)))) (x2 : Int) (t3 : Bool) : Option (List ((Int × Int × Unit))) :=
 if t3 then
  (
   Option.bind (at? t1.1 i1) fun x9 =>
   Option.bind (at? t1.2.1 k1) fun x10 =>
   Option.bind (zc6 k (a1.1, a1.2.1, ()) x9 x10) fun v1 =>
   Option.bind (at? t1.2.2.1 (wi64 (i1 + (1 : Int)))) fun x11 =>
   Option.bind (at? x11 (wi64 (k1 + (1 : Int)))) fun x12 =>
   zdn t1 i1 k1 l1 go1 x2 (x2 == (wi64 (v1 + x12)))
  )
 else
  zdn t1 i1 k1 l1 go1 x2 false
def align_table_first_j1 (k : Nat) (t1 : (List (Int) × List (Int) × List (List (Int)) × List (List (Int)) × Unit)) (i1 : Int) (k1 : Int) (a1 : (List (List UInt8) × List ((Int × Int × Int × Unit)) × Unit)) (l1 : List ((Int × Int × Unit))) (go1 : Int -> Int -> (List ((Int × Int × Unit))) -> Option (List ((Int × Int × Unit)))) (t2 : Bool) : Option (List ((Int × Int × Unit))) :=
 if t2 then
  (
   Option.bind (at? t1.2.2.1 i1) fun x1 =>
   Option.bind (at? x1 k1) fun x2 =>
   align_table_first_j2 k t1 i1 k1 a1 l1 go1 x2 (decide (i1 < (List.length t1.1 : Int)) && (decide (k1 < (List.length t1.2.1 : Int))))
  )
 else
  some (l1)
def align_table_first_b1 (k : Nat) (t1 : (List (Int) × List (Int) × List (List (Int)) × List (List (Int)) × Unit)) (a1 : (List (List UInt8) × List ((Int × Int × Int × Unit)) × Unit)) (go1 : Int -> Int -> (List ((Int × Int × Unit))) -> Option (List ((Int × Int × Unit)))) (i1 : Int) (k1 : Int) (l1 : List ((Int × Int × Unit))) : Option (List ((Int × Int × Unit))) :=
 align_table_first_j1 k t1 i1 k1 a1 l1 go1 (decide (i1 < (List.length t1.1 : Int)) || (decide (k1 < (List.length t1.2.1 : Int))))
def zdo (k : Nat) (t1 : (List (Int) × List (Int) × List (List (Int)) × List (List (Int)) × Unit)) (a1 : (List (List UInt8) × List ((Int × Int × Int × Unit)) × Unit)) : Nat -> Int -> Int -> (List ((Int × Int × Unit))) -> Option (List ((Int × Int × Unit)))
 | 0, _, _, _ => none
 | n + 1, i1, k1, l1 => align_table_first_b1 k t1 a1 (zdo k t1 a1 n) i1 k1 l1
def align_table_first (k : Nat) (t1 : (List (Int) × List (Int) × List (List (Int)) × List (List (Int)) × Unit)) (a1 : (List (List UInt8) × List ((Int × Int × Int × Unit)) × Unit)) : Option (List ((Int × Int × Unit))) :=
 zdo k t1 a1 k (0 : Int) (0 : Int) ([] : List ((Int × Int × Unit)))
def zdp (blk1 : (List (Int) × List (Int) × List (List (Int)) × List (List (Int)) × Unit)) (i1 : Int) (l2 : List ((Int × Int × Unit))) (go1 : Int -> Int -> (List ((Int × Int × Unit))) -> Option (List ((Int × Int × Unit)))) (k1 : Int) (t4 : Bool) : Option (List ((Int × Int × Unit))) :=
 if t4 then
  (
   Option.bind (at? blk1.1 i1) fun x5 =>
   Option.bind (chk (List.length l2 + List.length ([(x5, (0 : Int), ())] : List ((Int × Int × Unit))) <= lim)) fun _ =>
   go1 (wi64 (i1 + (1 : Int))) k1 (l2 ++ ([(x5, (0 : Int), ())] : List ((Int × Int × Unit))))
  )
 else
  (
   Option.bind (at? blk1.2.1 k1) fun x6 =>
   Option.bind (chk (List.length l2 + List.length ([((0 : Int), x6, ())] : List ((Int × Int × Unit))) <= lim)) fun _ =>
   go1 i1 (wi64 (k1 + (1 : Int))) (l2 ++ ([((0 : Int), x6, ())] : List ((Int × Int × Unit))))
  )
def zdq (blk1 : (List (Int) × List (Int) × List (List (Int)) × List (List (Int)) × Unit)) (i1 : Int) (k1 : Int) (l2 : List ((Int × Int × Unit))) (go1 : Int -> Int -> (List ((Int × Int × Unit))) -> Option (List ((Int × Int × Unit)))) (x2 : Int) (t3 : Bool) : Option (List ((Int × Int × Unit))) :=
 if t3 then
  (
   Option.bind (at? blk1.1 i1) fun x3 =>
   Option.bind (at? blk1.2.1 k1) fun x4 =>
   Option.bind (chk (List.length l2 + List.length ([(x3, x4, ())] : List ((Int × Int × Unit))) <= lim)) fun _ =>
   go1 (wi64 (i1 + (1 : Int))) (wi64 (k1 + (1 : Int))) (l2 ++ ([(x3, x4, ())] : List ((Int × Int × Unit))))
  )
 else
  (
   if decide (i1 < (List.length blk1.1 : Int)) then
    (
     Option.bind (chk (0 <= (wi64 (i1 + (1 : Int))) /\ (wi64 (i1 + (1 : Int))) < (65 : Int))) fun _ =>
     Option.bind (chk (0 <= k1 /\ k1 < (65 : Int))) fun _ =>
     Option.bind (at? blk1.2.2.1 (wi64 (i1 + (1 : Int)))) fun x7 =>
     Option.bind (at? x7 k1) fun x8 =>
     zdp blk1 i1 l2 go1 k1 (x2 == (wi64 ((5 : Int) + x8)))
    )
   else
    zdp blk1 i1 l2 go1 k1 false
  )
def align_table_first_i1_j2 (k : Nat) (blk1 : (List (Int) × List (Int) × List (List (Int)) × List (List (Int)) × Unit)) (i1 : Int) (k1 : Int) (a1 : (List (List UInt8) × List ((Int × Int × Int × Unit)) × Unit)) (l2 : List ((Int × Int × Unit))) (go1 : Int -> Int -> (List ((Int × Int × Unit))) -> Option (List ((Int × Int × Unit)))) (x2 : Int) (t2 : Bool) : Option (List ((Int × Int × Unit))) :=
 if t2 then
  (
   Option.bind (at? blk1.1 i1) fun x9 =>
   Option.bind (at? blk1.2.1 k1) fun x10 =>
   Option.bind (zc6 k (a1.1, a1.2.1, ()) x9 x10) fun v1 =>
   Option.bind (chk (0 <= (wi64 (i1 + (1 : Int))) /\ (wi64 (i1 + (1 : Int))) < (65 : Int))) fun _ =>
   Option.bind (chk (0 <= (wi64 (k1 + (1 : Int))) /\ (wi64 (k1 + (1 : Int))) < (65 : Int))) fun _ =>
   Option.bind (at? blk1.2.2.1 (wi64 (i1 + (1 : Int)))) fun x11 =>
   Option.bind (at? x11 (wi64 (k1 + (1 : Int)))) fun x12 =>
   zdq blk1 i1 k1 l2 go1 x2 (x2 == (wi64 (v1 + x12)))
  )
 else
  zdq blk1 i1 k1 l2 go1 x2 false
def align_table_first_i1_j1 (k : Nat) (i1 : Int) (k1 : Int) (blk1 : (List (Int) × List (Int) × List (List (Int)) × List (List (Int)) × Unit)) (a1 : (List (List UInt8) × List ((Int × Int × Int × Unit)) × Unit)) (l2 : List ((Int × Int × Unit))) (go1 : Int -> Int -> (List ((Int × Int × Unit))) -> Option (List ((Int × Int × Unit)))) (t1 : Bool) : Option (List ((Int × Int × Unit))) :=
 if t1 then
  (
   Option.bind (chk (0 <= i1 /\ i1 < (65 : Int))) fun _ =>
   Option.bind (chk (0 <= k1 /\ k1 < (65 : Int))) fun _ =>
   Option.bind (at? blk1.2.2.1 i1) fun x1 =>
   Option.bind (at? x1 k1) fun x2 =>
   align_table_first_i1_j2 k blk1 i1 k1 a1 l2 go1 x2 (decide (i1 < (List.length blk1.1 : Int)) && (decide (k1 < (List.length blk1.2.1 : Int))))
  )
 else
  some l2
def align_table_first_i1_b1 (k : Nat) (blk1 : (List (Int) × List (Int) × List (List (Int)) × List (List (Int)) × Unit)) (a1 : (List (List UInt8) × List ((Int × Int × Int × Unit)) × Unit)) (go1 : Int -> Int -> (List ((Int × Int × Unit))) -> Option (List ((Int × Int × Unit)))) (i1 : Int) (k1 : Int) (l2 : List ((Int × Int × Unit))) : Option (List ((Int × Int × Unit))) :=
 align_table_first_i1_j1 k i1 k1 blk1 a1 l2 go1 (decide (i1 < (List.length blk1.1 : Int)) || (decide (k1 < (List.length blk1.2.1 : Int))))
def zdr (k : Nat) (blk1 : (List (Int) × List (Int) × List (List (Int)) × List (List (Int)) × Unit)) (a1 : (List (List UInt8) × List ((Int × Int × Int × Unit)) × Unit)) : Nat -> Int -> Int -> (List ((Int × Int × Unit))) -> Option (List ((Int × Int × Unit)))
 | 0, _, _, _ => none
 | n + 1, i1, k1, l2 => align_table_first_i1_b1 k blk1 a1 (zdr k blk1 a1 n) i1 k1 l2
def zds (k : Nat) (a1 : (List (List UInt8) × List ((Int × Int × Int × Unit)) × Unit)) (blk1 : (List (Int) × List (Int) × List (List (Int)) × List (List (Int)) × Unit)) : Option (List ((Int × Int × Unit))) :=
 zdr k blk1 a1 k (0 : Int) (0 : Int) ([] : List ((Int × Int × Unit)))
def zdt (k : Nat) (a1 : (List (List UInt8) × List ((Int × Int × Int × Unit)) × Unit)) (x1 : List UInt8) (y1 : List UInt8) : Option (Int × List ((Int × Int × Unit)) × Int) :=
 Option.bind (zdl k (a1.1, a1.2.1, ()) x1 y1) fun v1 => sumCase v1 (fun v2 =>
  if v2 != (0 : Int) then
   some ((0 : Int), ([] : List ((Int × Int × Unit))), v2)
  else
   none
 ) fun v3 =>
 if v3.1 != (0 : Int) then
  some ((0 : Int), ([] : List ((Int × Int × Unit))), v3.1)
 else
  (
   Option.bind (chk (0 <= (0 : Int) /\ (0 : Int) < (65 : Int))) fun _ =>
   Option.bind (chk (0 <= (0 : Int) /\ (0 : Int) < (65 : Int))) fun _ =>
   Option.bind (at? v3.2.2.2.1 (0 : Int)) fun x2 =>
   Option.bind (at? x2 (0 : Int)) fun x3 =>
   Option.bind (zds k (a1.1, a1.2.1, ()) v3.2) fun v4 =>
   some (x3, v4, (0 : Int))
  )
def corr_aligned_b1 (k : Nat) (l1 : List (List (List UInt8))) (a1 : (List (List UInt8) × List ((Int × Int × Int × Unit)) × Unit)) (go1 : Int -> (List (List ((Int × Int × Unit)))) -> Option (List (List ((Int × Int × Unit))) × Int)) (t1 : Int) (out1 : List (List ((Int × Int × Unit)))) : Option (List (List ((Int × Int × Unit))) × Int) :=
 if decide (t1 < (List.length l1 : Int)) then
  (
   Option.bind (at? l1 t1) fun x1 =>
   Option.bind (chk (0 <= (0 : Int) /\ (0 : Int) < (2 : Int))) fun _ =>
   Option.bind (at? x1 (0 : Int)) fun x2 =>
   Option.bind (chk (0 <= (1 : Int) /\ (1 : Int) < (2 : Int))) fun _ =>
   Option.bind (at? x1 (1 : Int)) fun x3 =>
   Option.bind (zdt k (a1.1, a1.2.1, ()) x2 x3) fun v2 =>
   if v2.2.2 != (0 : Int) then
    some (([] : List (List ((Int × Int × Unit)))), v2.2.2)
   else
    (
     Option.bind (chk (List.length out1 + List.length ([v2.2.1] : List (List ((Int × Int × Unit)))) <= lim)) fun _ =>
     go1 (wi64 (t1 + (1 : Int))) (out1 ++ ([v2.2.1] : List (List ((Int × Int × Unit)))))
    )
  )
 else
  some (out1, (0 : Int))
def zdu (k : Nat) (l1 : List (List (List UInt8))) (a1 : (List (List UInt8) × List ((Int × Int × Int × Unit)) × Unit)) : Nat -> Int -> (List (List ((Int × Int × Unit)))) -> Option (List (List ((Int × Int × Unit))) × Int)
 | 0, _, _ => none
 | n + 1, t1, out1 => corr_aligned_b1 k l1 a1 (zdu k l1 a1 n) t1 out1
def zdv (k : Nat) (a1 : (List (List UInt8) × List ((Int × Int × Int × Unit)) × Unit)) (l1 : List (List (List UInt8))) : Option (List (List ((Int × Int × Unit))) × Int) :=
 Option.bind (zco k (a1.1, a1.2.1, ())) fun v1 =>
 if v1 != (0 : Int) then
  some (([] : List (List ((Int × Int × Unit)))), v1)
 else
  (
   if decide ((4096 : Int) < (List.length l1 : Int)) then
    some (([] : List (List ((Int × Int × Unit)))), (4 : Int))
   else
    zdu k l1 a1 k (0 : Int) ([] : List (List ((Int × Int × Unit))))
  )
def zdw (k : Nat) (m1 : List ((Int × Int × Unit) × Int)) : Option Unit :=
 some ()
def corr_counted_b2 (x1 : List ((Int × Int × Unit))) (go1 : Int -> (List (List UInt8)) -> (List ((Int × Int × Int × Unit))) -> (List ((Int × Int × Unit) × Int)) -> Option (List (((Int × Int × Unit) × Int × Unit)))) (t1 : Int) (a2 : List (List UInt8)) (a3 : List ((Int × Int × Int × Unit))) (go2 : Int -> (List ((Int × Int × Unit) × Int)) -> Option (List (((Int × Int × Unit) × Int × Unit)))) (t2 : Int) (m2 : List ((Int × Int × Unit) × Int)) : Option (List (((Int × Int × Unit) × Int × Unit))) :=
 if decide (t2 < (List.length x1 : Int)) then
  (
   Option.bind (at? x1 t2) fun x2 =>
   go2 (wi64 (t2 + (1 : Int))) (mset (eqEl (.pair (.int .i32) (.pair (.int .i32) .unit))) m2 (x2.1, x2.2.1, ()) (wi64 (((mget (eqEl (.pair (.int .i32) (.pair (.int .i32) .unit))) m2 (x2.1, x2.2.1, ())).getD (0 : Int)) + (1 : Int))))
  )
 else
  go1 (wi64 (t1 + (1 : Int))) a2 a3 m2
def zdx (x1 : List ((Int × Int × Unit))) (go1 : Int -> (List (List UInt8)) -> (List ((Int × Int × Int × Unit))) -> (List ((Int × Int × Unit) × Int)) -> Option (List (((Int × Int × Unit) × Int × Unit)))) (t1 : Int) (a2 : List (List UInt8)) (a3 : List ((Int × Int × Int × Unit))) : Nat -> Int -> (List ((Int × Int × Unit) × Int)) -> Option (List (((Int × Int × Unit) × Int × Unit)))
 | 0, _, _ => none
 | n + 1, t2, m2 => corr_counted_b2 x1 go1 t1 a2 a3 (zdx x1 go1 t1 a2 a3 n) t2 m2
def corr_counted_b4 (v2 : List ((Int × Int × Unit))) (m1 : List ((Int × Int × Unit) × Int)) (go4 : Int -> (List (((Int × Int × Unit) × Int × Unit))) -> Option (List (((Int × Int × Unit) × Int × Unit)))) (t4 : Int) (out1 : List (((Int × Int × Unit) × Int × Unit))) : Option (List (((Int × Int × Unit) × Int × Unit))) :=
 if decide (t4 < (List.length v2 : Int)) then
  (
   Option.bind (at? v2 t4) fun x4 =>
   Option.bind (chk (List.length out1 + List.length ([((x4.1, x4.2.1, ()), (mget (eqEl (.pair (.int .i32) (.pair (.int .i32) .unit))) m1 (x4.1, x4.2.1, ())).getD (0 : Int), ())] : List (((Int × Int × Unit) × Int × Unit))) <= lim)) fun _ =>
   go4 (wi64 (t4 + (1 : Int))) (out1 ++ ([((x4.1, x4.2.1, ()), (mget (eqEl (.pair (.int .i32) (.pair (.int .i32) .unit))) m1 (x4.1, x4.2.1, ())).getD (0 : Int), ())] : List (((Int × Int × Unit) × Int × Unit))))
  )
 else
  some (out1)
def zdy (v2 : List ((Int × Int × Unit))) (m1 : List ((Int × Int × Unit) × Int)) : Nat -> Int -> (List (((Int × Int × Unit) × Int × Unit))) -> Option (List (((Int × Int × Unit) × Int × Unit)))
 | 0, _, _ => none
 | n + 1, t4, out1 => corr_counted_b4 v2 m1 (zdy v2 m1 n) t4 out1
def corr_counted_b3 (k : Nat) (a3 : List ((Int × Int × Int × Unit))) (m1 : List ((Int × Int × Unit) × Int)) (go3 : Int -> (List (Int × Int)) -> Option (List (((Int × Int × Unit) × Int × Unit)))) (t3 : Int) (m3 : List (Int × Int)) : Option (List (((Int × Int × Unit) × Int × Unit))) :=
 if decide (t3 < (List.length a3 : Int)) then
  (
   Option.bind (at? a3 t3) fun x3 =>
   go3 (wi64 (t3 + (1 : Int))) (mset (eqEl (.int .i32)) m3 x3.1 (wi64 (t3 + (1 : Int))))
  )
 else
  (
   Option.bind (zdw k m1) fun v1 =>
   Option.bind (zcu k m1 m3) fun v2 =>
   zdy v2 m1 k (0 : Int) ([] : List (((Int × Int × Unit) × Int × Unit)))
  )
def zdz (k : Nat) (a3 : List ((Int × Int × Int × Unit))) (m1 : List ((Int × Int × Unit) × Int)) : Nat -> Int -> (List (Int × Int)) -> Option (List (((Int × Int × Unit) × Int × Unit)))
 | 0, _, _ => none
 | n + 1, t3, m3 => corr_counted_b3 k a3 m1 (zdz k a3 m1 n) t3 m3
def corr_counted_b1 (k : Nat) (l1 : List (List ((Int × Int × Unit)))) (go1 : Int -> (List (List UInt8)) -> (List ((Int × Int × Int × Unit))) -> (List ((Int × Int × Unit) × Int)) -> Option (List (((Int × Int × Unit) × Int × Unit)))) (t1 : Int) (a2 : List (List UInt8)) (a3 : List ((Int × Int × Int × Unit))) (m1 : List ((Int × Int × Unit) × Int)) : Option (List (((Int × Int × Unit) × Int × Unit))) :=
 if decide (t1 < (List.length l1 : Int)) then
  (
   Option.bind (at? l1 t1) fun x1 =>
   zdx x1 go1 t1 a2 a3 k (0 : Int) m1
  )
 else
  zdz k a3 m1 k (0 : Int) ([] : List (Int × Int))
def zd0 (k : Nat) (l1 : List (List ((Int × Int × Unit)))) : Nat -> Int -> (List (List UInt8)) -> (List ((Int × Int × Int × Unit))) -> (List ((Int × Int × Unit) × Int)) -> Option (List (((Int × Int × Unit) × Int × Unit)))
 | 0, _, _, _, _ => none
 | n + 1, t1, a2, a3, m1 => corr_counted_b1 k l1 (zd0 k l1 n) t1 a2 a3 m1
def zd1 (k : Nat) (a1 : (List (List UInt8) × List ((Int × Int × Int × Unit)) × Unit)) (l1 : List (List ((Int × Int × Unit)))) : Option (List (((Int × Int × Unit) × Int × Unit))) :=
 zd0 k l1 k (0 : Int) a1.1 a1.2.1 ([] : List ((Int × Int × Unit) × Int))
def l28_long_j4 (go1 : Int -> Option Bool) (i1 : Int) (t4 : Bool) : Option Bool :=
 if t4 then
  some (true)
 else
  go1 (wi64 (i1 + (1 : Int)))
def l28_long_b1 (l1 : List (List (List UInt8))) (go1 : Int -> Option Bool) (i1 : Int) : Option Bool :=
 if decide (i1 < (List.length l1 : Int)) then
  (
   Option.bind (at? l1 i1) fun x1 =>
   Option.bind (at? x1 (0 : Int)) fun x2 =>
   if decide ((1000 : Int) < (List.length x2 : Int)) then
    l28_long_j4 go1 i1 true
   else
    (
     Option.bind (at? x1 (1 : Int)) fun x3 =>
     l28_long_j4 go1 i1 (decide ((1000 : Int) < (List.length x3 : Int)))
    )
  )
 else
  some (false)
def l28_long_l1 (l1 : List (List (List UInt8))) : Nat -> Int -> Option Bool
 | 0, _ => none
 | n + 1, i1 => l28_long_b1 l1 (l28_long_l1 l1 n) i1
def l28_long_j3 (k : Nat) (l1 : List (List (List UInt8))) (t3 : Bool) : Option Bool :=
 if t3 then
  some (true)
 else
  l28_long_l1 l1 k (0 : Int)
def l28_long_j2 (k : Nat) (l1 : List (List (List UInt8))) (t2 : Bool) : Option Bool :=
 l28_long_j3 k l1 (t2 || (decide ((5000 : Int) < (List.length l1 : Int))))
def l28_long_j5 (k : Nat) (l1 : List (List (List UInt8))) (t5 : Bool) : Option Bool :=
 l28_long_j2 k l1 t5
def l28_long_j1 (k : Nat) (l1 : List (List (List UInt8))) (t1 : Bool) : Option Bool :=
 if t1 then
  l28_long_j2 k l1 true
 else
  l28_long_j5 k l1 (decide ((40 : Int) < (List.length l1 : Int)) && (decide ((List.length l1 : Int) <= (4096 : Int))))
def l28_long (k : Nat) (a1 : (List (List UInt8) × List ((Int × Int × Int × Unit)) × Unit)) (l1 : List (List (List UInt8))) : Option Bool :=
 l28_long_j1 k l1 (decide ((300 : Int) < (List.length a1.2.1 : Int)) || (decide ((60 : Int) < (List.length a1.1 : Int))))
def zd2 (go2 : Int -> (List (Int × Int)) -> Option (Bool × Int × Int)) (t2 : Int) (m3 : List (Int × Int)) : Option (Bool × Int × Int) :=
 go2 (wi64 (t2 + (1 : Int))) m3
def corr_Regular_j2 (t1 : Int) (go2 : Int -> (List (Int × Int)) -> Option (Bool × Int × Int)) (t2 : Int) (m2 : List (Int × Int)) (x2 : (Int × Int × Unit)) (t3 : Bool) : Option (Bool × Int × Int) :=
 if t3 then
  some (false, t1, (0 : Int))
 else
  zd2 go2 t2 (mset (eqEl (.int .i32)) m2 x2.1 x2.2.1)
def corr_Regular_b2 (x1 : List ((Int × Int × Unit))) (t1 : Int) (go1 : Int -> (List (Int × Int)) -> Option (Bool × Int × Int)) (go2 : Int -> (List (Int × Int)) -> Option (Bool × Int × Int)) (t2 : Int) (m2 : List (Int × Int)) : Option (Bool × Int × Int) :=
 if decide (t2 < (List.length x1 : Int)) then
  (
   Option.bind (at? x1 t2) fun x2 =>
   if x2.1 == (0 : Int) then
    zd2 go2 t2 m2
   else
    corr_Regular_j2 t1 go2 t2 m2 x2 (((mget (eqEl (.int .i32)) m2 x2.1).isSome) && (((mget (eqEl (.int .i32)) m2 x2.1).getD (0 : Int)) != x2.2.1))
  )
 else
  go1 (wi64 (t1 + (1 : Int))) m2
def zd3 (x1 : List ((Int × Int × Unit))) (t1 : Int) (go1 : Int -> (List (Int × Int)) -> Option (Bool × Int × Int)) : Nat -> Int -> (List (Int × Int)) -> Option (Bool × Int × Int)
 | 0, _, _ => none
 | n + 1, t2, m2 => corr_Regular_b2 x1 t1 go1 (zd3 x1 t1 go1 n) t2 m2
def corr_Regular_b1 (k : Nat) (v1 : (List (List ((Int × Int × Unit))) × Int)) (go1 : Int -> (List (Int × Int)) -> Option (Bool × Int × Int)) (t1 : Int) (m1 : List (Int × Int)) : Option (Bool × Int × Int) :=
 if decide (t1 < (List.length v1.1 : Int)) then
  (
   Option.bind (at? v1.1 t1) fun x1 =>
   zd3 x1 t1 go1 k (0 : Int) m1
  )
 else
  some (true, (-1 : Int), (0 : Int))
def zd4 (k : Nat) (v1 : (List (List ((Int × Int × Unit))) × Int)) : Nat -> Int -> (List (Int × Int)) -> Option (Bool × Int × Int)
 | 0, _, _ => none
 | n + 1, t1, m1 => corr_Regular_b1 k v1 (zd4 k v1 n) t1 m1
def corr_Regular (k : Nat) (a1 : (List (List UInt8) × List ((Int × Int × Int × Unit)) × Unit)) (l1 : List (List (List UInt8))) : Option (Bool × Int × Int) :=
 Option.bind (zdv k (a1.1, a1.2.1, ()) l1) fun v1 =>
 if v1.2 != (0 : Int) then
  some (false, (0 : Int), v1.2)
 else
  zd4 k v1 k (0 : Int) ([] : List (Int × Int))
def corr_Odd_c1_j1  (t2 : Bool) : Option Bool :=
 some (t2)
def corr_Odd_c1 (k : Nat) (x1 : (Int × Int × Unit)) (t1 : Option (List (Int × Int))) : Option Bool :=
 corr_Odd_c1_j1 ((x1.1 != (0 : Int)) && (((mget (eqEl (.int .i32)) (t1.getD []) x1.1).getD (0 : Int)) != x1.2.1))
def zd5 (k : Nat) (s1 : List ((Int × Int × Unit))) (f1 : (Option (List (Int × Int)) × Unit)) (go1 : Int -> Option Int) (t1 : Int) : Option Int :=
 if decide (t1 < (List.length s1 : Int)) then
  (
   Option.bind (at? s1 t1) fun x1 =>
   Option.bind (corr_Odd_c1 k x1 f1.1) fun v1 =>
   if v1 then
    some (t1)
   else
    go1 (wi64 (t1 + (1 : Int)))
  )
 else
  some ((-1 : Int))
def zd6 (k : Nat) (s1 : List ((Int × Int × Unit))) (f1 : (Option (List (Int × Int)) × Unit)) : Nat -> Int -> Option Int
 | 0, _ => none
 | n + 1, t1 => zd5 k s1 f1 (zd6 k s1 f1 n) t1
def zd7 (k : Nat) (s1 : List ((Int × Int × Unit))) (f1 : (Option (List (Int × Int)) × Unit)) : Option Int :=
 zd6 k s1 f1 k (0 : Int)
def zd8 (k : Nat) (s1 : List ((Int × Int × Unit))) (f1 : (Option (List (Int × Int)) × Unit)) : Option Bool :=
 Option.bind (zd7 k s1 f1) fun v1 =>
 some (decide ((0 : Int) <= v1))
end Go.Ev
namespace Go.Ev
open Go
set_option linter.unusedVariables false
def corr_counted_i1_b2 (x1 : List ((Int × Int × Unit))) (go1 : Int -> (List (List UInt8)) -> (List ((Int × Int × Int × Unit))) -> (List ((Int × Int × Unit) × Int)) -> Option (List (((Int × Int × Unit) × Int × Unit)))) (t1 : Int) (a2 : List (List UInt8)) (a3 : List ((Int × Int × Int × Unit))) (go2 : Int -> (List ((Int × Int × Unit) × Int)) -> Option (List (((Int × Int × Unit) × Int × Unit)))) (t2 : Int) (m2 : List ((Int × Int × Unit) × Int)) : Option (List (((Int × Int × Unit) × Int × Unit))) :=
 if decide (t2 < (List.length x1 : Int)) then
  (
   Option.bind (at? x1 t2) fun x2 =>
   go2 (wi64 (t2 + (1 : Int))) (mset (eqEl (.pair (.int .i32) (.pair (.int .i32) .unit))) m2 (x2.1, x2.2.1, ()) (wi64 (((mget (eqEl (.pair (.int .i32) (.pair (.int .i32) .unit))) m2 (x2.1, x2.2.1, ())).getD (0 : Int)) + (1 : Int))))
  )
 else
  go1 (wi64 (t1 + (1 : Int))) a2 a3 m2
def zd9 (x1 : List ((Int × Int × Unit))) (go1 : Int -> (List (List UInt8)) -> (List ((Int × Int × Int × Unit))) -> (List ((Int × Int × Unit) × Int)) -> Option (List (((Int × Int × Unit) × Int × Unit)))) (t1 : Int) (a2 : List (List UInt8)) (a3 : List ((Int × Int × Int × Unit))) : Nat -> Int -> (List ((Int × Int × Unit) × Int)) -> Option (List (((Int × Int × Unit) × Int × Unit)))
 | 0, _, _ => none
 | n + 1, t2, m2 => corr_counted_i1_b2 x1 go1 t1 a2 a3 (zd9 x1 go1 t1 a2 a3 n) t2 m2
def corr_counted_i1_b4 (v2 : List ((Int × Int × Unit))) (m1 : List ((Int × Int × Unit) × Int)) (go4 : Int -> (List (((Int × Int × Unit) × Int × Unit))) -> Option (List (((Int × Int × Unit) × Int × Unit)))) (t4 : Int) (out2 : List (((Int × Int × Unit) × Int × Unit))) : Option (List (((Int × Int × Unit) × Int × Unit))) :=
 if decide (t4 < (List.length v2 : Int)) then
  (
   Option.bind (at? v2 t4) fun x4 =>
   Option.bind (chk (List.length out2 + List.length ([((x4.1, x4.2.1, ()), (mget (eqEl (.pair (.int .i32) (.pair (.int .i32) .unit))) m1 (x4.1, x4.2.1, ())).getD (0 : Int), ())] : List (((Int × Int × Unit) × Int × Unit))) <= lim)) fun _ =>
   go4 (wi64 (t4 + (1 : Int))) (out2 ++ ([((x4.1, x4.2.1, ()), (mget (eqEl (.pair (.int .i32) (.pair (.int .i32) .unit))) m1 (x4.1, x4.2.1, ())).getD (0 : Int), ())] : List (((Int × Int × Unit) × Int × Unit))))
  )
 else
  some out2
def zea (v2 : List ((Int × Int × Unit))) (m1 : List ((Int × Int × Unit) × Int)) : Nat -> Int -> (List (((Int × Int × Unit) × Int × Unit))) -> Option (List (((Int × Int × Unit) × Int × Unit)))
 | 0, _, _ => none
 | n + 1, t4, out2 => corr_counted_i1_b4 v2 m1 (zea v2 m1 n) t4 out2
def corr_counted_i1_b3 (k : Nat) (a3 : List ((Int × Int × Int × Unit))) (m1 : List ((Int × Int × Unit) × Int)) (go3 : Int -> (List (Int × Int)) -> Option (List (((Int × Int × Unit) × Int × Unit)))) (t3 : Int) (m3 : List (Int × Int)) : Option (List (((Int × Int × Unit) × Int × Unit))) :=
 if decide (t3 < (List.length a3 : Int)) then
  (
   Option.bind (at? a3 t3) fun x3 =>
   go3 (wi64 (t3 + (1 : Int))) (mset (eqEl (.int .i32)) m3 x3.1 (wi64 (t3 + (1 : Int))))
  )
 else
  (
   Option.bind (zdw k m1) fun v1 =>
   Option.bind (zcu k m1 m3) fun v2 =>
   zea v2 m1 k (0 : Int) ([] : List (((Int × Int × Unit) × Int × Unit)))
  )
def zeb (k : Nat) (a3 : List ((Int × Int × Int × Unit))) (m1 : List ((Int × Int × Unit) × Int)) : Nat -> Int -> (List (Int × Int)) -> Option (List (((Int × Int × Unit) × Int × Unit)))
 | 0, _, _ => none
 | n + 1, t3, m3 => corr_counted_i1_b3 k a3 m1 (zeb k a3 m1 n) t3 m3
def corr_counted_i1_b1 (k : Nat) (l1 : List (List ((Int × Int × Unit)))) (go1 : Int -> (List (List UInt8)) -> (List ((Int × Int × Int × Unit))) -> (List ((Int × Int × Unit) × Int)) -> Option (List (((Int × Int × Unit) × Int × Unit)))) (t1 : Int) (a2 : List (List UInt8)) (a3 : List ((Int × Int × Int × Unit))) (m1 : List ((Int × Int × Unit) × Int)) : Option (List (((Int × Int × Unit) × Int × Unit))) :=
 if decide (t1 < (List.length l1 : Int)) then
  (
   Option.bind (at? l1 t1) fun x1 =>
   zd9 x1 go1 t1 a2 a3 k (0 : Int) m1
  )
 else
  zeb k a3 m1 k (0 : Int) ([] : List (Int × Int))
def zec (k : Nat) (l1 : List (List ((Int × Int × Unit)))) : Nat -> Int -> (List (List UInt8)) -> (List ((Int × Int × Int × Unit))) -> (List ((Int × Int × Unit) × Int)) -> Option (List (((Int × Int × Unit) × Int × Unit)))
 | 0, _, _, _, _ => none
 | n + 1, t1, a2, a3, m1 => corr_counted_i1_b1 k l1 (zec k l1 n) t1 a2 a3 m1
def zed (k : Nat) (a1 : (List (List UInt8) × List ((Int × Int × Int × Unit)) × Unit)) (l1 : List (List ((Int × Int × Unit)))) : Option (List (((Int × Int × Unit) × Int × Unit))) :=
 zec k l1 k (0 : Int) a1.1 a1.2.1 ([] : List ((Int × Int × Unit) × Int))
def zee (k : Nat) (a1 : (List (List UInt8) × List ((Int × Int × Int × Unit)) × Unit)) (l1 : List (List (List UInt8))) : Option (Int × List (((Int × Int × Unit) × Int × Unit))) :=
 Option.bind (zdv k (a1.1, a1.2.1, ()) l1) fun v1 =>
 if v1.2 != (0 : Int) then
  some (v1.2, ([] : List (((Int × Int × Unit) × Int × Unit))))
 else
  (
   Option.bind (zed k (a1.1, a1.2.1, ()) v1.1) fun v2 =>
   some ((0 : Int), v2)
  )
def r03_Number_b1 (a1 : (List (List UInt8) × List ((Int × Int × Int × Unit)) × Unit)) (r1 : Int) (go1 : Int -> Option Int) (i1 : Int) : Option Int :=
 if decide (i1 < (List.length a1.2.1 : Int)) then
  (
   Option.bind (at? a1.2.1 i1) fun x1 =>
   if x1.1 == r1 then
    some (i1)
   else
    go1 (wi64 (i1 + (1 : Int)))
  )
 else
  some ((-1 : Int))
def r03_Number_l1 (a1 : (List (List UInt8) × List ((Int × Int × Int × Unit)) × Unit)) (r1 : Int) : Nat -> Int -> Option Int
 | 0, _ => none
 | n + 1, i1 => r03_Number_b1 a1 r1 (r03_Number_l1 a1 r1 n) i1
def r03_Number (k : Nat) (a1 : (List (List UInt8) × List ((Int × Int × Int × Unit)) × Unit)) (r1 : Int) : Option Int :=
 r03_Number_l1 a1 r1 k (0 : Int)
def r03_Read_j1 (k : Nat) (a1 : (List (List UInt8) × List ((Int × Int × Int × Unit)) × Unit)) (v1 : (Int × Int)) (l1 : List (Int)) (most1 : Int) (go1 : Int -> (List (Int)) -> Option (List (Int) × Int)) (at1 : Int) (t1 : Bool) : Option (List (Int) × Int) :=
 if t1 then
  some (([] : List (Int)), (6 : Int))
 else
  (
   Option.bind (r03_Number k (a1.1, a1.2.1, ()) v1.1) fun v2 =>
   if decide (v2 < (0 : Int)) then
    some (([] : List (Int)), (5 : Int))
   else
    (
     if (List.length l1 : Int) == most1 then
      some (([] : List (Int)), (4 : Int))
     else
      (
       Option.bind (chk (List.length l1 + List.length ([v1.1] : List (Int)) <= lim)) fun _ =>
       go1 (wi64 (at1 + v1.2)) (l1 ++ ([v1.1] : List (Int)))
      )
    )
  )
def r03_Read_b1 (k : Nat) (w1 : List UInt8) (a1 : (List (List UInt8) × List ((Int × Int × Int × Unit)) × Unit)) (most1 : Int) (go1 : Int -> (List (Int)) -> Option (List (Int) × Int)) (at1 : Int) (l1 : List (Int)) : Option (List (Int) × Int) :=
 if decide (at1 < (List.length w1 : Int)) then
  (
   Option.bind (sub? w1 at1 (w1.length : Int)) fun s1 =>
   Option.bind (utf8_DecodeRuneInString k s1) fun v1 =>
   r03_Read_j1 k a1 v1 l1 most1 go1 at1 ((v1.1 == (65533 : Int)) && (v1.2 == (1 : Int)))
  )
 else
  some (l1, (0 : Int))
def r03_Read_l1 (k : Nat) (w1 : List UInt8) (a1 : (List (List UInt8) × List ((Int × Int × Int × Unit)) × Unit)) (most1 : Int) : Nat -> Int -> (List (Int)) -> Option (List (Int) × Int)
 | 0, _, _ => none
 | n + 1, at1, l1 => r03_Read_b1 k w1 a1 most1 (r03_Read_l1 k w1 a1 most1 n) at1 l1
def r03_Read (k : Nat) (a1 : (List (List UInt8) × List ((Int × Int × Int × Unit)) × Unit)) (w1 : List UInt8) (most1 : Int) : Option (List (Int) × Int) :=
 r03_Read_l1 k w1 a1 most1 k (0 : Int) ([] : List (Int))
def zef (k : Nat) (a1 : (List (List UInt8) × List ((Int × Int × Int × Unit)) × Unit)) (w1 : List UInt8) : Option (List (Int) × Int) :=
 Option.bind (r02_Check k (a1.1, a1.2.1, ())) fun v1 =>
 if v1 != (0 : Int) then
  some (([] : List (Int)), v1)
 else
  (
   Option.bind (r03_Read k (a1.1, a1.2.1, ()) w1 (64 : Int)) fun v2 =>
   some (v2.1, v2.2)
  )
def r03_Check (k : Nat) (a1 : (List (List UInt8) × List ((Int × Int × Int × Unit)) × Unit)) (w1 : List UInt8) : Option Int :=
 Option.bind (zef k (a1.1, a1.2.1, ()) w1) fun v1 =>
 some (v1.2)
def r21_two (k : Nat) (a1 : (List (List UInt8) × List ((Int × Int × Int × Unit)) × Unit)) (x1 : List UInt8) (y1 : List UInt8) : Option (List (Int) × List (Int) × Int) :=
 Option.bind (zef k (a1.1, a1.2.1, ()) x1) fun v1 =>
 if v1.2 != (0 : Int) then
  some (([] : List (Int)), ([] : List (Int)), v1.2)
 else
  (
   Option.bind (zef k (a1.1, a1.2.1, ()) y1) fun v2 =>
   some (v1.1, v2.1, v2.2)
  )
def r02_asked_b1 (k : Nat) (l1 : List (Int)) (a1 : (List (List UInt8) × List ((Int × Int × Int × Unit)) × Unit)) (go1 : Int -> Option Int) (i1 : Int) : Option Int :=
 if decide (i1 < (List.length l1 : Int)) then
  (
   Option.bind (at? l1 i1) fun x1 =>
   Option.bind (r02_Find k (a1.1, a1.2.1, ()) x1) fun v2 =>
   if decide (v2 < (0 : Int)) then
    some ((5 : Int))
   else
    go1 (wi64 (i1 + (1 : Int)))
  )
 else
  some ((0 : Int))
def zeg (k : Nat) (l1 : List (Int)) (a1 : (List (List UInt8) × List ((Int × Int × Int × Unit)) × Unit)) : Nat -> Int -> Option Int
 | 0, _ => none
 | n + 1, i1 => r02_asked_b1 k l1 a1 (zeg k l1 a1 n) i1
def r02_asked (k : Nat) (a1 : (List (List UInt8) × List ((Int × Int × Int × Unit)) × Unit)) (l1 : List (Int)) : Option Int :=
 Option.bind (r02_Check k (a1.1, a1.2.1, ())) fun v1 =>
 if v1 != (0 : Int) then
  some ((7 : Int))
 else
  zeg k l1 a1 k (0 : Int)
def r02_unlike_j1 (go1 : Int -> Int -> Option Int) (bit1 : Int) (n2 : Int) : Option Int :=
 go1 n2 (wu32 (bit1 * (2 : Int)))
def r02_unlike_j2 (go1 : Int -> Int -> Option Int) (bit1 : Int) (n1 : Int) (t1 : Bool) : Option Int :=
 if t1 then
  r02_unlike_j1 go1 bit1 (wi64 (n1 + (1 : Int)))
 else
  r02_unlike_j1 go1 bit1 n1
def r02_unlike_b1 (x1 : (Int × Int × Int × Unit)) (y1 : (Int × Int × Int × Unit)) (go1 : Int -> Int -> Option Int) (n1 : Int) (bit1 : Int) : Option Int :=
 if decide (bit1 < (16777216 : Int)) then
  r02_unlike_j2 go1 bit1 n1 (((wu32 (BitVec.toNat (BitVec.ofInt 32 x1.2.1 &&& BitVec.ofInt 32 bit1))) != (wu32 (BitVec.toNat (BitVec.ofInt 32 y1.2.1 &&& BitVec.ofInt 32 bit1)))) || ((wu32 (BitVec.toNat (BitVec.ofInt 32 x1.2.2.1 &&& BitVec.ofInt 32 bit1))) != (wu32 (BitVec.toNat (BitVec.ofInt 32 y1.2.2.1 &&& BitVec.ofInt 32 bit1)))))
 else
  some (n1)
def r02_unlike_l1 (x1 : (Int × Int × Int × Unit)) (y1 : (Int × Int × Int × Unit)) : Nat -> Int -> Int -> Option Int
 | 0, _, _ => none
 | n + 1, n1, bit1 => r02_unlike_b1 x1 y1 (r02_unlike_l1 x1 y1 n) n1 bit1
def r02_unlike (k : Nat) (x1 : (Int × Int × Int × Unit)) (y1 : (Int × Int × Int × Unit)) : Option Int :=
 r02_unlike_l1 x1 y1 k (0 : Int) (1 : Int)
def r02_Far (k : Nat) (a1 : (List (List UInt8) × List ((Int × Int × Int × Unit)) × Unit)) (x1 : Int) (y1 : Int) : Option (Int × Int) :=
 Option.bind (r02_asked k (a1.1, a1.2.1, ()) ([x1, y1] : List (Int))) fun v1 =>
 if v1 != (0 : Int) then
  some ((0 : Int), v1)
 else
  (
   Option.bind (r02_Find k (a1.1, a1.2.1, ()) x1) fun v2 =>
   Option.bind (at? a1.2.1 v2) fun x2 =>
   Option.bind (r02_Find k (a1.1, a1.2.1, ()) y1) fun v3 =>
   Option.bind (at? a1.2.1 v3) fun x3 =>
   Option.bind (r02_unlike k x2 x3) fun v4 =>
   some (v4, (0 : Int))
  )
def r21_Of_j1 (k : Nat) (a1 : (List (List UInt8) × List ((Int × Int × Int × Unit)) × Unit)) (x1 : Int) (y1 : Int) (t1 : Bool) : Option Int :=
 if t1 then
  some ((5 : Int))
 else
  (
   Option.bind (r02_Far k (a1.1, a1.2.1, ()) x1 y1) fun v1 =>
   some (wi64 ((2 : Int) + v1.1))
  )
def r21_Of (k : Nat) (a1 : (List (List UInt8) × List ((Int × Int × Int × Unit)) × Unit)) (x1 : Int) (y1 : Int) : Option Int :=
 if x1 == y1 then
  some ((0 : Int))
 else
  r21_Of_j1 k a1 x1 y1 ((x1 == (0 : Int)) || (y1 == (0 : Int)))
def r21_Table_j1 (go2 : Int -> (List (List UInt8)) -> (List ((Int × Int × Int × Unit))) -> (List (List (Int))) -> (List (List (Int))) -> Option (List (List (Int)) × List (List (Int)))) (k1 : Int) (a6 : List (List UInt8)) (a7 : List ((Int × Int × Int × Unit))) (rows5 : List (List (Int))) (rows6 : List (List (Int))) : Option (List (List (Int)) × List (List (Int))) :=
 go2 (wi64 (k1 - (1 : Int))) a6 a7 rows5 rows6
def zeh (go3 : Int -> Int -> Int -> Option (List (List (Int)) × List (List (Int)))) (way1 : Int) (best2 : Int) (n2 : Int) : Option (List (List (Int)) × List (List (Int))) :=
 go3 best2 n2 (wi64 (way1 + (1 : Int)))
def r21_Table_j8 (v1 : Int) (x7 : Int) (p1 : Int) (rows4 : List (List (Int))) (q1 : Int) (go3 : Int -> Int -> Int -> Option (List (List (Int)) × List (List (Int)))) (way1 : Int) (best3 : Int) (n3 : Int) : Option (List (List (Int)) × List (List (Int))) :=
 if (wi64 (v1 + x7)) == best3 then
  (
   Option.bind (chk (0 <= p1 /\ p1 < (List.length rows4 : Int))) fun _ =>
   Option.bind (at? rows4 p1) fun x8 =>
   Option.bind (chk (0 <= q1 /\ q1 < (List.length x8 : Int))) fun _ =>
   Option.bind (at? x8 q1) fun x9 =>
   zeh go3 way1 best3 (mnI (wi64 (n3 + x9)) (1048577 : Int))
  )
 else
  zeh go3 way1 best3 n3
def r21_Table_j9 (v1 : Int) (x7 : Int) (p1 : Int) (rows4 : List (List (Int))) (q1 : Int) (go3 : Int -> Int -> Int -> Option (List (List (Int)) × List (List (Int)))) (way1 : Int) (best1 : Int) (n1 : Int) (t5 : Bool) : Option (List (List (Int)) × List (List (Int))) :=
 if t5 then
  r21_Table_j8 v1 x7 p1 rows4 q1 go3 way1 (wi64 (v1 + x7)) (0 : Int)
 else
  r21_Table_j8 v1 x7 p1 rows4 q1 go3 way1 best1 n1
def zei (k : Nat) (go3 : Int -> Int -> Int -> Option (List (List (Int)) × List (List (Int)))) (way1 : Int) (best1 : Int) (n1 : Int) (a4 : List (List UInt8)) (a5 : List ((Int × Int × Int × Unit))) (s1 : Int) (t2 : Int) (p1 : Int) (rows3 : List (List (Int))) (q1 : Int) (rows4 : List (List (Int))) (t4 : Bool) : Option (List (List (Int)) × List (List (Int))) :=
 if t4 then
  zeh go3 way1 best1 n1
 else
  (
   Option.bind (r21_Of k (a4, a5, ()) s1 t2) fun v1 =>
   Option.bind (chk (0 <= p1 /\ p1 < (List.length rows3 : Int))) fun _ =>
   Option.bind (at? rows3 p1) fun x6 =>
   Option.bind (chk (0 <= q1 /\ q1 < (List.length x6 : Int))) fun _ =>
   Option.bind (at? x6 q1) fun x7 =>
   r21_Table_j9 v1 x7 p1 rows4 q1 go3 way1 best1 n1 (decide (best1 < (0 : Int)) || (decide ((wi64 (v1 + x7)) < best1)))
  )
def zej (k : Nat) (go3 : Int -> Int -> Int -> Option (List (List (Int)) × List (List (Int)))) (way1 : Int) (best1 : Int) (n1 : Int) (a4 : List (List UInt8)) (a5 : List ((Int × Int × Int × Unit))) (s1 : Int) (t2 : Int) (p1 : Int) (rows3 : List (List (Int))) (q1 : Int) (rows4 : List (List (Int))) (t6 : Bool) : Option (List (List (Int)) × List (List (Int))) :=
 zei k go3 way1 best1 n1 a4 a5 s1 t2 p1 rows3 q1 rows4 t6
def zek (k : Nat) (go3 : Int -> Int -> Int -> Option (List (List (Int)) × List (List (Int)))) (way1 : Int) (best1 : Int) (n1 : Int) (a4 : List (List UInt8)) (a5 : List ((Int × Int × Int × Unit))) (s1 : Int) (t2 : Int) (p1 : Int) (rows3 : List (List (Int))) (q1 : Int) (rows4 : List (List (Int))) (t3 : Bool) : Option (List (List (Int)) × List (List (Int))) :=
 if t3 then
  zei k go3 way1 best1 n1 a4 a5 s1 t2 p1 rows3 q1 rows4 true
 else
  zej k go3 way1 best1 n1 a4 a5 s1 t2 p1 rows3 q1 rows4 ((t2 == (0 : Int)) && (way1 != (1 : Int)))
def zel (k : Nat) (go3 : Int -> Int -> Int -> Option (List (List (Int)) × List (List (Int)))) (way1 : Int) (best1 : Int) (n1 : Int) (a4 : List (List UInt8)) (a5 : List ((Int × Int × Int × Unit))) (s1 : Int) (p1 : Int) (rows3 : List (List (Int))) (rows4 : List (List (Int))) (q1 : Int) (t2 : Int) : Option (List (List (Int)) × List (List (Int))) :=
 zek k go3 way1 best1 n1 a4 a5 s1 t2 p1 rows3 q1 rows4 ((s1 == (0 : Int)) && (decide (way1 < (2 : Int))))
def zem (k : Nat) (y1 : List (Int)) (k1 : Int) (go3 : Int -> Int -> Int -> Option (List (List (Int)) × List (List (Int)))) (way1 : Int) (best1 : Int) (n1 : Int) (a4 : List (List UInt8)) (a5 : List ((Int × Int × Int × Unit))) (s1 : Int) (p1 : Int) (rows3 : List (List (Int))) (rows4 : List (List (Int))) (t7 : Bool) : Option (List (List (Int)) × List (List (Int))) :=
 if t7 then
  (
   Option.bind (at? y1 k1) fun x10 =>
   zel k go3 way1 best1 n1 a4 a5 s1 p1 rows3 rows4 (wi64 (k1 + (1 : Int))) x10
  )
 else
  zel k go3 way1 best1 n1 a4 a5 s1 p1 rows3 rows4 k1 (0 : Int)
def zen (k : Nat) (y1 : List (Int)) (k1 : Int) (go3 : Int -> Int -> Int -> Option (List (List (Int)) × List (List (Int)))) (way1 : Int) (best1 : Int) (n1 : Int) (a4 : List (List UInt8)) (a5 : List ((Int × Int × Int × Unit))) (rows3 : List (List (Int))) (rows4 : List (List (Int))) (p1 : Int) (s1 : Int) : Option (List (List (Int)) × List (List (Int))) :=
 zem k y1 k1 go3 way1 best1 n1 a4 a5 s1 p1 rows3 rows4 ((way1 != (1 : Int)) && (decide (k1 < (List.length y1 : Int))))
def r21_Table_j12 (k : Nat) (x1 : List (Int)) (i1 : Int) (y1 : List (Int)) (k1 : Int) (go3 : Int -> Int -> Int -> Option (List (List (Int)) × List (List (Int)))) (way1 : Int) (best1 : Int) (n1 : Int) (a4 : List (List UInt8)) (a5 : List ((Int × Int × Int × Unit))) (rows3 : List (List (Int))) (rows4 : List (List (Int))) (t8 : Bool) : Option (List (List (Int)) × List (List (Int))) :=
 if t8 then
  (
   Option.bind (at? x1 i1) fun x11 =>
   zen k y1 k1 go3 way1 best1 n1 a4 a5 rows3 rows4 (wi64 (i1 + (1 : Int))) x11
  )
 else
  zen k y1 k1 go3 way1 best1 n1 a4 a5 rows3 rows4 i1 (0 : Int)
def r21_Table_b3 (k : Nat) (x1 : List (Int)) (i1 : Int) (y1 : List (Int)) (k1 : Int) (a4 : List (List UInt8)) (a5 : List ((Int × Int × Int × Unit))) (rows3 : List (List (Int))) (rows4 : List (List (Int))) (go2 : Int -> (List (List UInt8)) -> (List ((Int × Int × Int × Unit))) -> (List (List (Int))) -> (List (List (Int))) -> Option (List (List (Int)) × List (List (Int)))) (go3 : Int -> Int -> Int -> Option (List (List (Int)) × List (List (Int)))) (best1 : Int) (n1 : Int) (way1 : Int) : Option (List (List (Int)) × List (List (Int))) :=
 if decide (way1 < (3 : Int)) then
  r21_Table_j12 k x1 i1 y1 k1 go3 way1 best1 n1 a4 a5 rows3 rows4 (decide (way1 < (2 : Int)) && (decide (i1 < (List.length x1 : Int))))
 else
  (
   Option.bind (chk (0 <= i1 /\ i1 < (List.length rows3 : Int))) fun _ =>
   Option.bind (at? rows3 i1) fun x12 =>
   Option.bind (chk (0 <= k1 /\ k1 < (List.length x12 : Int))) fun _ =>
   Option.bind (at? x12 k1) fun x13 =>
   Option.bind (chk (0 <= i1 /\ i1 < (List.length rows4 : Int))) fun _ =>
   Option.bind (at? rows4 i1) fun x14 =>
   Option.bind (chk (0 <= k1 /\ k1 < (List.length x14 : Int))) fun _ =>
   Option.bind (at? x14 k1) fun x15 =>
   r21_Table_j1 go2 k1 a4 a5 (List.set rows3 (i1).toNat (List.set x12 (k1).toNat best1)) (List.set rows4 (i1).toNat (List.set x14 (k1).toNat n1))
  )
def zeo (k : Nat) (x1 : List (Int)) (i1 : Int) (y1 : List (Int)) (k1 : Int) (a4 : List (List UInt8)) (a5 : List ((Int × Int × Int × Unit))) (rows3 : List (List (Int))) (rows4 : List (List (Int))) (go2 : Int -> (List (List UInt8)) -> (List ((Int × Int × Int × Unit))) -> (List (List (Int))) -> (List (List (Int))) -> Option (List (List (Int)) × List (List (Int)))) : Nat -> Int -> Int -> Int -> Option (List (List (Int)) × List (List (Int)))
 | 0, _, _, _ => none
 | n + 1, best1, n1, way1 => r21_Table_b3 k x1 i1 y1 k1 a4 a5 rows3 rows4 go2 (zeo k x1 i1 y1 k1 a4 a5 rows3 rows4 go2 n) best1 n1 way1
def r21_Table_j2 (k : Nat) (i1 : Int) (rows4 : List (List (Int))) (k1 : Int) (go2 : Int -> (List (List UInt8)) -> (List ((Int × Int × Int × Unit))) -> (List (List (Int))) -> (List (List (Int))) -> Option (List (List (Int)) × List (List (Int)))) (a4 : List (List UInt8)) (a5 : List ((Int × Int × Int × Unit))) (rows3 : List (List (Int))) (x1 : List (Int)) (y1 : List (Int)) (t1 : Bool) : Option (List (List (Int)) × List (List (Int))) :=
 if t1 then
  (
   Option.bind (chk (0 <= i1 /\ i1 < (List.length rows4 : Int))) fun _ =>
   Option.bind (at? rows4 i1) fun x4 =>
   Option.bind (chk (0 <= k1 /\ k1 < (List.length x4 : Int))) fun _ =>
   Option.bind (at? x4 k1) fun x5 =>
   r21_Table_j1 go2 k1 a4 a5 rows3 (List.set rows4 (i1).toNat (List.set x4 (k1).toNat (1 : Int)))
  )
 else
  zeo k x1 i1 y1 k1 a4 a5 rows3 rows4 go2 k (-1 : Int) (0 : Int) (0 : Int)
def r21_Table_b2 (k : Nat) (i1 : Int) (x1 : List (Int)) (y1 : List (Int)) (go1 : Int -> (List (List UInt8)) -> (List ((Int × Int × Int × Unit))) -> (List (List (Int))) -> (List (List (Int))) -> Option (List (List (Int)) × List (List (Int)))) (go2 : Int -> (List (List UInt8)) -> (List ((Int × Int × Int × Unit))) -> (List (List (Int))) -> (List (List (Int))) -> Option (List (List (Int)) × List (List (Int)))) (k1 : Int) (a4 : List (List UInt8)) (a5 : List ((Int × Int × Int × Unit))) (rows3 : List (List (Int))) (rows4 : List (List (Int))) : Option (List (List (Int)) × List (List (Int))) :=
 if decide ((0 : Int) <= k1) then
  r21_Table_j2 k i1 rows4 k1 go2 a4 a5 rows3 x1 y1 ((i1 == (List.length x1 : Int)) && (k1 == (List.length y1 : Int)))
 else
  go1 (wi64 (i1 - (1 : Int))) a4 a5 rows3 rows4
def zep (k : Nat) (i1 : Int) (x1 : List (Int)) (y1 : List (Int)) (go1 : Int -> (List (List UInt8)) -> (List ((Int × Int × Int × Unit))) -> (List (List (Int))) -> (List (List (Int))) -> Option (List (List (Int)) × List (List (Int)))) : Nat -> Int -> (List (List UInt8)) -> (List ((Int × Int × Int × Unit))) -> (List (List (Int))) -> (List (List (Int))) -> Option (List (List (Int)) × List (List (Int)))
 | 0, _, _, _, _, _ => none
 | n + 1, k1, a4, a5, rows3, rows4 => r21_Table_b2 k i1 x1 y1 go1 (zep k i1 x1 y1 go1 n) k1 a4 a5 rows3 rows4
def r21_Table_b1 (k : Nat) (y1 : List (Int)) (x1 : List (Int)) (go1 : Int -> (List (List UInt8)) -> (List ((Int × Int × Int × Unit))) -> (List (List (Int))) -> (List (List (Int))) -> Option (List (List (Int)) × List (List (Int)))) (i1 : Int) (a2 : List (List UInt8)) (a3 : List ((Int × Int × Int × Unit))) (rows1 : List (List (Int))) (rows2 : List (List (Int))) : Option (List (List (Int)) × List (List (Int))) :=
 if decide ((0 : Int) <= i1) then
  (
   Option.bind (chk (0 <= (wi64 ((List.length y1 : Int) + (1 : Int))) /\ (wi64 ((List.length y1 : Int) + (1 : Int))) <= (wi64 ((List.length y1 : Int) + (1 : Int))) /\ (wi64 ((List.length y1 : Int) + (1 : Int))) <= (lim : Int))) fun _ =>
   Option.bind (chk (0 <= i1 /\ i1 < (List.length rows1 : Int))) fun _ =>
   Option.bind (at? rows1 i1) fun x2 =>
   Option.bind (chk (0 <= (wi64 ((List.length y1 : Int) + (1 : Int))) /\ (wi64 ((List.length y1 : Int) + (1 : Int))) <= (wi64 ((List.length y1 : Int) + (1 : Int))) /\ (wi64 ((List.length y1 : Int) + (1 : Int))) <= (lim : Int))) fun _ =>
   Option.bind (chk (0 <= i1 /\ i1 < (List.length rows2 : Int))) fun _ =>
   Option.bind (at? rows2 i1) fun x3 =>
   zep k i1 x1 y1 go1 k (List.length y1 : Int) a2 a3 (List.set rows1 (i1).toNat (List.replicate (wi64 ((List.length y1 : Int) + (1 : Int))).toNat (0 : Int))) (List.set rows2 (i1).toNat (List.replicate (wi64 ((List.length y1 : Int) + (1 : Int))).toNat (0 : Int)))
  )
 else
  some (rows1, rows2)
def zeq (k : Nat) (y1 : List (Int)) (x1 : List (Int)) : Nat -> Int -> (List (List UInt8)) -> (List ((Int × Int × Int × Unit))) -> (List (List (Int))) -> (List (List (Int))) -> Option (List (List (Int)) × List (List (Int)))
 | 0, _, _, _, _, _ => none
 | n + 1, i1, a2, a3, rows1, rows2 => r21_Table_b1 k y1 x1 (zeq k y1 x1 n) i1 a2 a3 rows1 rows2
def r21_Table (k : Nat) (a1 : (List (List UInt8) × List ((Int × Int × Int × Unit)) × Unit)) (x1 : List (Int)) (y1 : List (Int)) : Option (List (List (Int)) × List (List (Int))) :=
 Option.bind (chk (0 <= (wi64 ((List.length x1 : Int) + (1 : Int))) /\ (wi64 ((List.length x1 : Int) + (1 : Int))) <= (wi64 ((List.length x1 : Int) + (1 : Int))) /\ (wi64 ((List.length x1 : Int) + (1 : Int))) <= (lim : Int))) fun _ =>
 Option.bind (chk (0 <= (wi64 ((List.length x1 : Int) + (1 : Int))) /\ (wi64 ((List.length x1 : Int) + (1 : Int))) <= (wi64 ((List.length x1 : Int) + (1 : Int))) /\ (wi64 ((List.length x1 : Int) + (1 : Int))) <= (lim : Int))) fun _ =>
 zeq k y1 x1 k (List.length x1 : Int) a1.1 a1.2.1 (List.replicate (wi64 ((List.length x1 : Int) + (1 : Int))).toNat ([] : List (Int))) (List.replicate (wi64 ((List.length x1 : Int) + (1 : Int))).toNat ([] : List (Int)))
def r21_First_j4 (x1 : List (Int)) (i1 : Int) (l1 : List ((Int × Int × Unit))) (go1 : Int -> Int -> (List ((Int × Int × Unit))) -> Option (List ((Int × Int × Unit)))) (k1 : Int) (y1 : List (Int)) (t4 : Bool) : Option (List ((Int × Int × Unit))) :=
 if t4 then
  (
   Option.bind (at? x1 i1) fun x4 =>
   Option.bind (chk (List.length l1 + List.length ([(x4, (0 : Int), ())] : List ((Int × Int × Unit))) <= lim)) fun _ =>
   go1 (wi64 (i1 + (1 : Int))) k1 (l1 ++ ([(x4, (0 : Int), ())] : List ((Int × Int × Unit))))
  )
 else
  (
   Option.bind (at? y1 k1) fun x5 =>
   Option.bind (chk (List.length l1 + List.length ([((0 : Int), x5, ())] : List ((Int × Int × Unit))) <= lim)) fun _ =>
   go1 i1 (wi64 (k1 + (1 : Int))) (l1 ++ ([((0 : Int), x5, ())] : List ((Int × Int × Unit))))
  )
def r21_First_j3 (x1 : List (Int)) (i1 : Int) (y1 : List (Int)) (k1 : Int) (l1 : List ((Int × Int × Unit))) (go1 : Int -> Int -> (List ((Int × Int × Unit))) -> Option (List ((Int × Int × Unit)))) (v1 : (List (List (Int)) × List (List (Int)))) (t3 : Bool) : Option (List ((Int × Int × Unit))) :=
 if t3 then
  (
   Option.bind (at? x1 i1) fun x2 =>
   Option.bind (at? y1 k1) fun x3 =>
   Option.bind (chk (List.length l1 + List.length ([(x2, x3, ())] : List ((Int × Int × Unit))) <= lim)) fun _ =>
   go1 (wi64 (i1 + (1 : Int))) (wi64 (k1 + (1 : Int))) (l1 ++ ([(x2, x3, ())] : List ((Int × Int × Unit))))
  )
 else
  (
   if decide (i1 < (List.length x1 : Int)) then
    (
     Option.bind (at? v1.1 i1) fun x6 =>
     Option.bind (at? x6 k1) fun x7 =>
     Option.bind (at? v1.1 (wi64 (i1 + (1 : Int)))) fun x8 =>
     Option.bind (at? x8 k1) fun x9 =>
     r21_First_j4 x1 i1 l1 go1 k1 y1 (x7 == (wi64 ((5 : Int) + x9)))
    )
   else
    r21_First_j4 x1 i1 l1 go1 k1 y1 false
  )
def r21_First_j2 (k : Nat) (v1 : (List (List (Int)) × List (List (Int)))) (i1 : Int) (k1 : Int) (x1 : List (Int)) (y1 : List (Int)) (a1 : (List (List UInt8) × List ((Int × Int × Int × Unit)) × Unit)) (l1 : List ((Int × Int × Unit))) (go1 : Int -> Int -> (List ((Int × Int × Unit))) -> Option (List ((Int × Int × Unit)))) (t2 : Bool) : Option (List ((Int × Int × Unit))) :=
 if t2 then
  (
   Option.bind (at? v1.1 i1) fun x10 =>
   Option.bind (at? x10 k1) fun x11 =>
   Option.bind (at? x1 i1) fun x12 =>
   Option.bind (at? y1 k1) fun x13 =>
   Option.bind (r21_Of k (a1.1, a1.2.1, ()) x12 x13) fun v2 =>
   Option.bind (at? v1.1 (wi64 (i1 + (1 : Int)))) fun x14 =>
   Option.bind (at? x14 (wi64 (k1 + (1 : Int)))) fun x15 =>
   r21_First_j3 x1 i1 y1 k1 l1 go1 v1 (x11 == (wi64 (v2 + x15)))
  )
 else
  r21_First_j3 x1 i1 y1 k1 l1 go1 v1 false
def r21_First_j1 (k : Nat) (v1 : (List (List (Int)) × List (List (Int)))) (i1 : Int) (k1 : Int) (x1 : List (Int)) (y1 : List (Int)) (a1 : (List (List UInt8) × List ((Int × Int × Int × Unit)) × Unit)) (l1 : List ((Int × Int × Unit))) (go1 : Int -> Int -> (List ((Int × Int × Unit))) -> Option (List ((Int × Int × Unit)))) (t1 : Bool) : Option (List ((Int × Int × Unit))) :=
 if t1 then
  r21_First_j2 k v1 i1 k1 x1 y1 a1 l1 go1 (decide (i1 < (List.length x1 : Int)) && (decide (k1 < (List.length y1 : Int))))
 else
  some (l1)
def r21_First_b1 (k : Nat) (v1 : (List (List (Int)) × List (List (Int)))) (x1 : List (Int)) (y1 : List (Int)) (a1 : (List (List UInt8) × List ((Int × Int × Int × Unit)) × Unit)) (go1 : Int -> Int -> (List ((Int × Int × Unit))) -> Option (List ((Int × Int × Unit)))) (i1 : Int) (k1 : Int) (l1 : List ((Int × Int × Unit))) : Option (List ((Int × Int × Unit))) :=
 r21_First_j1 k v1 i1 k1 x1 y1 a1 l1 go1 (decide (i1 < (List.length x1 : Int)) || (decide (k1 < (List.length y1 : Int))))
def zer (k : Nat) (v1 : (List (List (Int)) × List (List (Int)))) (x1 : List (Int)) (y1 : List (Int)) (a1 : (List (List UInt8) × List ((Int × Int × Int × Unit)) × Unit)) : Nat -> Int -> Int -> (List ((Int × Int × Unit))) -> Option (List ((Int × Int × Unit)))
 | 0, _, _, _ => none
 | n + 1, i1, k1, l1 => r21_First_b1 k v1 x1 y1 a1 (zer k v1 x1 y1 a1 n) i1 k1 l1
def r21_First (k : Nat) (a1 : (List (List UInt8) × List ((Int × Int × Int × Unit)) × Unit)) (x1 : List (Int)) (y1 : List (Int)) : Option (List ((Int × Int × Unit))) :=
 Option.bind (r21_Table k (a1.1, a1.2.1, ()) x1 y1) fun v1 =>
 zer k v1 x1 y1 a1 k (0 : Int) (0 : Int) ([] : List ((Int × Int × Unit)))
def r21_Words (k : Nat) (a1 : (List (List UInt8) × List ((Int × Int × Int × Unit)) × Unit)) (x1 : List UInt8) (y1 : List UInt8) : Option (Int × List ((Int × Int × Unit)) × Int) :=
 Option.bind (r21_two k (a1.1, a1.2.1, ()) x1 y1) fun v1 =>
 if v1.2.2 != (0 : Int) then
  some ((0 : Int), ([] : List ((Int × Int × Unit))), v1.2.2)
 else
  (
   Option.bind (r21_Table k (a1.1, a1.2.1, ()) v1.1 v1.2.1) fun v2 =>
   Option.bind (at? v2.1 (0 : Int)) fun x2 =>
   Option.bind (at? x2 (0 : Int)) fun x3 =>
   Option.bind (r21_First k (a1.1, a1.2.1, ()) v1.1 v1.2.1) fun v3 =>
   some (x3, v3, (0 : Int))
  )
def r28_aligned_b2 (k : Nat) (l1 : List (List (List UInt8))) (i1 : Int) (a2 : List (List UInt8)) (a3 : List ((Int × Int × Int × Unit))) (go1 : Int -> (List (List UInt8)) -> (List ((Int × Int × Int × Unit))) -> Option (List (List ((Int × Int × Unit))) × Int)) (go2 : Int -> Option (List (List ((Int × Int × Unit))) × Int)) (k1 : Int) : Option (List (List ((Int × Int × Unit))) × Int) :=
 if decide (k1 < (2 : Int)) then
  (
   Option.bind (at? l1 i1) fun x1 =>
   Option.bind (at? x1 k1) fun x2 =>
   Option.bind (r03_Check k (a2, a3, ()) x2) fun v2 =>
   if v2 != (0 : Int) then
    some (([] : List (List ((Int × Int × Unit)))), v2)
   else
    go2 (wi64 (k1 + (1 : Int)))
  )
 else
  go1 (wi64 (i1 + (1 : Int))) a2 a3
def zes (k : Nat) (l1 : List (List (List UInt8))) (i1 : Int) (a2 : List (List UInt8)) (a3 : List ((Int × Int × Int × Unit))) (go1 : Int -> (List (List UInt8)) -> (List ((Int × Int × Int × Unit))) -> Option (List (List ((Int × Int × Unit))) × Int)) : Nat -> Int -> Option (List (List ((Int × Int × Unit))) × Int)
 | 0, _ => none
 | n + 1, k1 => r28_aligned_b2 k l1 i1 a2 a3 go1 (zes k l1 i1 a2 a3 go1 n) k1
def r28_aligned_b3 (k : Nat) (l1 : List (List (List UInt8))) (a2 : List (List UInt8)) (a3 : List ((Int × Int × Int × Unit))) (go3 : Int -> (List (List ((Int × Int × Unit)))) -> Option (List (List ((Int × Int × Unit))) × Int)) (i2 : Int) (out1 : List (List ((Int × Int × Unit)))) : Option (List (List ((Int × Int × Unit))) × Int) :=
 if decide (i2 < (List.length l1 : Int)) then
  (
   Option.bind (at? l1 i2) fun x3 =>
   Option.bind (at? x3 (0 : Int)) fun x4 =>
   Option.bind (at? x3 (1 : Int)) fun x5 =>
   Option.bind (r21_Words k (a2, a3, ()) x4 x5) fun v3 =>
   Option.bind (chk (List.length out1 + List.length ([v3.2.1] : List (List ((Int × Int × Unit)))) <= lim)) fun _ =>
   go3 (wi64 (i2 + (1 : Int))) (out1 ++ ([v3.2.1] : List (List ((Int × Int × Unit)))))
  )
 else
  some (out1, (0 : Int))
def zet (k : Nat) (l1 : List (List (List UInt8))) (a2 : List (List UInt8)) (a3 : List ((Int × Int × Int × Unit))) : Nat -> Int -> (List (List ((Int × Int × Unit)))) -> Option (List (List ((Int × Int × Unit))) × Int)
 | 0, _, _ => none
 | n + 1, i2, out1 => r28_aligned_b3 k l1 a2 a3 (zet k l1 a2 a3 n) i2 out1
def r28_aligned_b1 (k : Nat) (l1 : List (List (List UInt8))) (go1 : Int -> (List (List UInt8)) -> (List ((Int × Int × Int × Unit))) -> Option (List (List ((Int × Int × Unit))) × Int)) (i1 : Int) (a2 : List (List UInt8)) (a3 : List ((Int × Int × Int × Unit))) : Option (List (List ((Int × Int × Unit))) × Int) :=
 if decide (i1 < (List.length l1 : Int)) then
  zes k l1 i1 a2 a3 go1 k (0 : Int)
 else
  zet k l1 a2 a3 k (0 : Int) ([] : List (List ((Int × Int × Unit))))
def zeu (k : Nat) (l1 : List (List (List UInt8))) : Nat -> Int -> (List (List UInt8)) -> (List ((Int × Int × Int × Unit))) -> Option (List (List ((Int × Int × Unit))) × Int)
 | 0, _, _, _ => none
 | n + 1, i1, a2, a3 => r28_aligned_b1 k l1 (zeu k l1 n) i1 a2 a3
def r28_aligned (k : Nat) (a1 : (List (List UInt8) × List ((Int × Int × Int × Unit)) × Unit)) (l1 : List (List (List UInt8))) : Option (List (List ((Int × Int × Unit))) × Int) :=
 Option.bind (r02_Check k (a1.1, a1.2.1, ())) fun v1 =>
 if v1 != (0 : Int) then
  some (([] : List (List ((Int × Int × Unit)))), v1)
 else
  (
   if decide ((4096 : Int) < (List.length l1 : Int)) then
    some (([] : List (List ((Int × Int × Unit)))), (4 : Int))
   else
    zeu k l1 k (0 : Int) a1.1 a1.2.1
  )
def r28_place (k : Nat) (a1 : (List (List UInt8) × List ((Int × Int × Int × Unit)) × Unit)) (r1 : Int) : Option Int :=
 Option.bind (r02_Find k (a1.1, a1.2.1, ()) r1) fun v1 =>
 some (wi64 (v1 + (1 : Int)))
def r28_before (k : Nat) (a1 : (List (List UInt8) × List ((Int × Int × Int × Unit)) × Unit)) (x1 : ((Int × Int × Unit) × Int × Unit)) (y1 : ((Int × Int × Unit) × Int × Unit)) : Option Bool :=
 if x1.2.1 != y1.2.1 then
  some (decide (y1.2.1 < x1.2.1))
 else
  (
   if x1.1.1 != y1.1.1 then
    (
     Option.bind (r28_place k (a1.1, a1.2.1, ()) x1.1.1) fun v1 =>
     Option.bind (r28_place k (a1.1, a1.2.1, ()) y1.1.1) fun v2 =>
     some (decide (v1 < v2))
    )
   else
    (
     Option.bind (r28_place k (a1.1, a1.2.1, ()) x1.1.2.1) fun v3 =>
     Option.bind (r28_place k (a1.1, a1.2.1, ()) y1.1.2.1) fun v4 =>
     some (decide (v3 < v4))
    )
  )
def zev (n1 : Int) (go2 : Int -> (List (List UInt8)) -> (List ((Int × Int × Int × Unit))) -> (List (((Int × Int × Unit) × Int × Unit))) -> Option (List (((Int × Int × Unit) × Int × Unit)))) (k1 : Int) (a4 : List (List UInt8)) (a5 : List ((Int × Int × Int × Unit))) (out3 : List (((Int × Int × Unit) × Int × Unit))) : Option (List (((Int × Int × Unit) × Int × Unit))) :=
 Option.bind (at? out3 n1) fun x2 =>
 go2 (wi64 (k1 + (1 : Int))) a4 a5 (List.set out3 (n1).toNat (x2.1, wi64 (x2.2.1 + (1 : Int)), ()))
def zew (go3 : Int -> Option (List (((Int × Int × Unit) × Int × Unit)))) (n1 : Int) (out2 : List (((Int × Int × Unit) × Int × Unit))) (l1 : List (List ((Int × Int × Unit)))) (i1 : Int) (k1 : Int) (go2 : Int -> (List (List UInt8)) -> (List ((Int × Int × Int × Unit))) -> (List (((Int × Int × Unit) × Int × Unit))) -> Option (List (((Int × Int × Unit) × Int × Unit)))) (a4 : List (List UInt8)) (a5 : List ((Int × Int × Int × Unit))) (t1 : Bool) : Option (List (((Int × Int × Unit) × Int × Unit))) :=
 if t1 then
  go3 (wi64 (n1 + (1 : Int)))
 else
  (
   if n1 == (List.length out2 : Int) then
    (
     Option.bind (at? l1 i1) fun x3 =>
     Option.bind (at? x3 k1) fun x4 =>
     Option.bind (chk (List.length out2 + List.length ([(x4, (0 : Int), ())] : List (((Int × Int × Unit) × Int × Unit))) <= lim)) fun _ =>
     zev n1 go2 k1 a4 a5 (out2 ++ ([(x4, (0 : Int), ())] : List (((Int × Int × Unit) × Int × Unit))))
    )
   else
    zev n1 go2 k1 a4 a5 out2
  )
def r28_counted_b3 (out2 : List (((Int × Int × Unit) × Int × Unit))) (l1 : List (List ((Int × Int × Unit)))) (i1 : Int) (k1 : Int) (go2 : Int -> (List (List UInt8)) -> (List ((Int × Int × Int × Unit))) -> (List (((Int × Int × Unit) × Int × Unit))) -> Option (List (((Int × Int × Unit) × Int × Unit)))) (a4 : List (List UInt8)) (a5 : List ((Int × Int × Int × Unit))) (go3 : Int -> Option (List (((Int × Int × Unit) × Int × Unit)))) (n1 : Int) : Option (List (((Int × Int × Unit) × Int × Unit))) :=
 if decide (n1 < (List.length out2 : Int)) then
  (
   Option.bind (at? out2 n1) fun x5 =>
   Option.bind (at? l1 i1) fun x6 =>
   Option.bind (at? x6 k1) fun x7 =>
   zew go3 n1 out2 l1 i1 k1 go2 a4 a5 (!((eqInt x5.1.1 x7.1) && ((eqInt x5.1.2.1 x7.2.1) && (true))))
  )
 else
  zew go3 n1 out2 l1 i1 k1 go2 a4 a5 false
def zex (out2 : List (((Int × Int × Unit) × Int × Unit))) (l1 : List (List ((Int × Int × Unit)))) (i1 : Int) (k1 : Int) (go2 : Int -> (List (List UInt8)) -> (List ((Int × Int × Int × Unit))) -> (List (((Int × Int × Unit) × Int × Unit))) -> Option (List (((Int × Int × Unit) × Int × Unit)))) (a4 : List (List UInt8)) (a5 : List ((Int × Int × Int × Unit))) : Nat -> Int -> Option (List (((Int × Int × Unit) × Int × Unit)))
 | 0, _ => none
 | n + 1, n1 => r28_counted_b3 out2 l1 i1 k1 go2 a4 a5 (zex out2 l1 i1 k1 go2 a4 a5 n) n1
def r28_counted_b2 (k : Nat) (l1 : List (List ((Int × Int × Unit)))) (i1 : Int) (go1 : Int -> (List (List UInt8)) -> (List ((Int × Int × Int × Unit))) -> (List (((Int × Int × Unit) × Int × Unit))) -> Option (List (((Int × Int × Unit) × Int × Unit)))) (go2 : Int -> (List (List UInt8)) -> (List ((Int × Int × Int × Unit))) -> (List (((Int × Int × Unit) × Int × Unit))) -> Option (List (((Int × Int × Unit) × Int × Unit)))) (k1 : Int) (a4 : List (List UInt8)) (a5 : List ((Int × Int × Int × Unit))) (out2 : List (((Int × Int × Unit) × Int × Unit))) : Option (List (((Int × Int × Unit) × Int × Unit))) :=
 Option.bind (at? l1 i1) fun x1 =>
 if decide (k1 < (List.length x1 : Int)) then
  zex out2 l1 i1 k1 go2 a4 a5 k (0 : Int)
 else
  go1 (wi64 (i1 + (1 : Int))) a4 a5 out2
def zey (k : Nat) (l1 : List (List ((Int × Int × Unit)))) (i1 : Int) (go1 : Int -> (List (List UInt8)) -> (List ((Int × Int × Int × Unit))) -> (List (((Int × Int × Unit) × Int × Unit))) -> Option (List (((Int × Int × Unit) × Int × Unit)))) : Nat -> Int -> (List (List UInt8)) -> (List ((Int × Int × Int × Unit))) -> (List (((Int × Int × Unit) × Int × Unit))) -> Option (List (((Int × Int × Unit) × Int × Unit)))
 | 0, _, _, _, _ => none
 | n + 1, k1, a4, a5, out2 => r28_counted_b2 k l1 i1 go1 (zey k l1 i1 go1 n) k1 a4 a5 out2
def zez (out5 : List (((Int × Int × Unit) × Int × Unit))) (k2 : Int) (go5 : Int -> (List (((Int × Int × Unit) × Int × Unit))) -> Option (List (((Int × Int × Unit) × Int × Unit)))) (go4 : Int -> (List (List UInt8)) -> (List ((Int × Int × Int × Unit))) -> (List (((Int × Int × Unit) × Int × Unit))) -> Option (List (((Int × Int × Unit) × Int × Unit)))) (i2 : Int) (a6 : List (List UInt8)) (a7 : List ((Int × Int × Int × Unit))) (t2 : Bool) : Option (List (((Int × Int × Unit) × Int × Unit))) :=
 if t2 then
  (
   Option.bind (at? out5 (wi64 (k2 - (1 : Int)))) fun x8 =>
   Option.bind (at? out5 k2) fun x9 =>
   Option.bind (at? (List.set out5 (k2).toNat x8) (wi64 (k2 - (1 : Int)))) fun x10 =>
   go5 (wi64 (k2 - (1 : Int))) (List.set (List.set out5 (k2).toNat x8) (wi64 (k2 - (1 : Int))).toNat x9)
  )
 else
  go4 (wi64 (i2 + (1 : Int))) a6 a7 out5
def r28_counted_b5 (k : Nat) (a6 : List (List UInt8)) (a7 : List ((Int × Int × Int × Unit))) (go4 : Int -> (List (List UInt8)) -> (List ((Int × Int × Int × Unit))) -> (List (((Int × Int × Unit) × Int × Unit))) -> Option (List (((Int × Int × Unit) × Int × Unit)))) (i2 : Int) (go5 : Int -> (List (((Int × Int × Unit) × Int × Unit))) -> Option (List (((Int × Int × Unit) × Int × Unit)))) (k2 : Int) (out5 : List (((Int × Int × Unit) × Int × Unit))) : Option (List (((Int × Int × Unit) × Int × Unit))) :=
 if decide ((0 : Int) < k2) then
  (
   Option.bind (at? out5 k2) fun x11 =>
   Option.bind (at? out5 (wi64 (k2 - (1 : Int)))) fun x12 =>
   Option.bind (r28_before k (a6, a7, ()) x11 x12) fun v1 =>
   zez out5 k2 go5 go4 i2 a6 a7 v1
  )
 else
  zez out5 k2 go5 go4 i2 a6 a7 false
def ze0 (k : Nat) (a6 : List (List UInt8)) (a7 : List ((Int × Int × Int × Unit))) (go4 : Int -> (List (List UInt8)) -> (List ((Int × Int × Int × Unit))) -> (List (((Int × Int × Unit) × Int × Unit))) -> Option (List (((Int × Int × Unit) × Int × Unit)))) (i2 : Int) : Nat -> Int -> (List (((Int × Int × Unit) × Int × Unit))) -> Option (List (((Int × Int × Unit) × Int × Unit)))
 | 0, _, _ => none
 | n + 1, k2, out5 => r28_counted_b5 k a6 a7 go4 i2 (ze0 k a6 a7 go4 i2 n) k2 out5
def r28_counted_b4 (k : Nat) (go4 : Int -> (List (List UInt8)) -> (List ((Int × Int × Int × Unit))) -> (List (((Int × Int × Unit) × Int × Unit))) -> Option (List (((Int × Int × Unit) × Int × Unit)))) (i2 : Int) (a6 : List (List UInt8)) (a7 : List ((Int × Int × Int × Unit))) (out4 : List (((Int × Int × Unit) × Int × Unit))) : Option (List (((Int × Int × Unit) × Int × Unit))) :=
 if decide (i2 < (List.length out4 : Int)) then
  ze0 k a6 a7 go4 i2 k i2 out4
 else
  some (out4)
def ze1 (k : Nat) : Nat -> Int -> (List (List UInt8)) -> (List ((Int × Int × Int × Unit))) -> (List (((Int × Int × Unit) × Int × Unit))) -> Option (List (((Int × Int × Unit) × Int × Unit)))
 | 0, _, _, _, _ => none
 | n + 1, i2, a6, a7, out4 => r28_counted_b4 k (ze1 k n) i2 a6 a7 out4
def r28_counted_b1 (k : Nat) (l1 : List (List ((Int × Int × Unit)))) (go1 : Int -> (List (List UInt8)) -> (List ((Int × Int × Int × Unit))) -> (List (((Int × Int × Unit) × Int × Unit))) -> Option (List (((Int × Int × Unit) × Int × Unit)))) (i1 : Int) (a2 : List (List UInt8)) (a3 : List ((Int × Int × Int × Unit))) (out1 : List (((Int × Int × Unit) × Int × Unit))) : Option (List (((Int × Int × Unit) × Int × Unit))) :=
 if decide (i1 < (List.length l1 : Int)) then
  zey k l1 i1 go1 k (0 : Int) a2 a3 out1
 else
  ze1 k k (1 : Int) a2 a3 out1
def ze2 (k : Nat) (l1 : List (List ((Int × Int × Unit)))) : Nat -> Int -> (List (List UInt8)) -> (List ((Int × Int × Int × Unit))) -> (List (((Int × Int × Unit) × Int × Unit))) -> Option (List (((Int × Int × Unit) × Int × Unit)))
 | 0, _, _, _, _ => none
 | n + 1, i1, a2, a3, out1 => r28_counted_b1 k l1 (ze2 k l1 n) i1 a2 a3 out1
def r28_counted (k : Nat) (a1 : (List (List UInt8) × List ((Int × Int × Int × Unit)) × Unit)) (l1 : List (List ((Int × Int × Unit)))) : Option (List (((Int × Int × Unit) × Int × Unit))) :=
 ze2 k l1 k (0 : Int) a1.1 a1.2.1 ([] : List (((Int × Int × Unit) × Int × Unit)))
def r28_Counts (k : Nat) (a1 : (List (List UInt8) × List ((Int × Int × Int × Unit)) × Unit)) (l1 : List (List (List UInt8))) : Option (List (((Int × Int × Unit) × Int × Unit)) × Int) :=
 Option.bind (r28_aligned k (a1.1, a1.2.1, ()) l1) fun v1 =>
 if v1.2 != (0 : Int) then
  some (([] : List (((Int × Int × Unit) × Int × Unit))), v1.2)
 else
  (
   Option.bind (r28_counted k (a1.1, a1.2.1, ()) v1.1) fun v2 =>
   some (v2, (0 : Int))
  )
def ze3 (go2 : Int -> (List (Int)) -> (List (Bool)) -> Option (Bool × Int × Int)) (k1 : Int) (t5 : List (Int)) (t6 : List (Bool)) : Option (Bool × Int × Int) :=
 go2 (wi64 (k1 + (1 : Int))) t5 t6
def ze4 (i1 : Int) (t4 : List (Bool)) (v2 : Int) (v1 : (List (List ((Int × Int × Unit))) × Int)) (k1 : Int) (t3 : List (Int)) (go2 : Int -> (List (Int)) -> (List (Bool)) -> Option (Bool × Int × Int)) (t7 : Bool) : Option (Bool × Int × Int) :=
 if t7 then
  some (false, i1, (0 : Int))
 else
  (
   Option.bind (at? t4 (wi64 (v2 - (1 : Int)))) fun x4 =>
   Option.bind (at? v1.1 i1) fun x5 =>
   Option.bind (at? x5 k1) fun x6 =>
   Option.bind (at? t3 (wi64 (v2 - (1 : Int)))) fun x7 =>
   ze3 go2 k1 (List.set t3 (wi64 (v2 - (1 : Int))).toNat x6.2.1) (List.set t4 (wi64 (v2 - (1 : Int))).toNat true)
  )
def r28_Regular_b2 (k : Nat) (v1 : (List (List ((Int × Int × Unit))) × Int)) (i1 : Int) (a2 : List (List UInt8)) (a3 : List ((Int × Int × Int × Unit))) (go1 : Int -> (List (List UInt8)) -> (List ((Int × Int × Int × Unit))) -> (List (Int)) -> (List (Bool)) -> Option (Bool × Int × Int)) (go2 : Int -> (List (Int)) -> (List (Bool)) -> Option (Bool × Int × Int)) (k1 : Int) (t3 : List (Int)) (t4 : List (Bool)) : Option (Bool × Int × Int) :=
 Option.bind (at? v1.1 i1) fun x1 =>
 if decide (k1 < (List.length x1 : Int)) then
  (
   Option.bind (at? x1 k1) fun x2 =>
   Option.bind (r28_place k (a2, a3, ()) x2.1) fun v2 =>
   if decide ((wi64 (v2 - (1 : Int))) < (0 : Int)) then
    ze3 go2 k1 t3 t4
   else
    (
     Option.bind (at? t4 (wi64 (v2 - (1 : Int)))) fun x3 =>
     if x3 then
      (
       Option.bind (at? t3 (wi64 (v2 - (1 : Int)))) fun x8 =>
       ze4 i1 t4 v2 v1 k1 t3 go2 (x8 != x2.2.1)
      )
     else
      ze4 i1 t4 v2 v1 k1 t3 go2 false
    )
  )
 else
  go1 (wi64 (i1 + (1 : Int))) a2 a3 t3 t4
def ze5 (k : Nat) (v1 : (List (List ((Int × Int × Unit))) × Int)) (i1 : Int) (a2 : List (List UInt8)) (a3 : List ((Int × Int × Int × Unit))) (go1 : Int -> (List (List UInt8)) -> (List ((Int × Int × Int × Unit))) -> (List (Int)) -> (List (Bool)) -> Option (Bool × Int × Int)) : Nat -> Int -> (List (Int)) -> (List (Bool)) -> Option (Bool × Int × Int)
 | 0, _, _, _ => none
 | n + 1, k1, t3, t4 => r28_Regular_b2 k v1 i1 a2 a3 go1 (ze5 k v1 i1 a2 a3 go1 n) k1 t3 t4
def r28_Regular_b1 (k : Nat) (v1 : (List (List ((Int × Int × Unit))) × Int)) (go1 : Int -> (List (List UInt8)) -> (List ((Int × Int × Int × Unit))) -> (List (Int)) -> (List (Bool)) -> Option (Bool × Int × Int)) (i1 : Int) (a2 : List (List UInt8)) (a3 : List ((Int × Int × Int × Unit))) (t1 : List (Int)) (t2 : List (Bool)) : Option (Bool × Int × Int) :=
 if decide (i1 < (List.length v1.1 : Int)) then
  ze5 k v1 i1 a2 a3 go1 k (0 : Int) t1 t2
 else
  some (true, (-1 : Int), (0 : Int))
def ze6 (k : Nat) (v1 : (List (List ((Int × Int × Unit))) × Int)) : Nat -> Int -> (List (List UInt8)) -> (List ((Int × Int × Int × Unit))) -> (List (Int)) -> (List (Bool)) -> Option (Bool × Int × Int)
 | 0, _, _, _, _, _ => none
 | n + 1, i1, a2, a3, t1, t2 => r28_Regular_b1 k v1 (ze6 k v1 n) i1 a2 a3 t1 t2
def r28_Regular (k : Nat) (a1 : (List (List UInt8) × List ((Int × Int × Int × Unit)) × Unit)) (l1 : List (List (List UInt8))) : Option (Bool × Int × Int) :=
 Option.bind (r28_aligned k (a1.1, a1.2.1, ()) l1) fun v1 =>
 if v1.2 != (0 : Int) then
  some (false, (0 : Int), v1.2)
 else
  (
   Option.bind (chk (0 <= (List.length a1.2.1 : Int) /\ (List.length a1.2.1 : Int) <= (List.length a1.2.1 : Int) /\ (List.length a1.2.1 : Int) <= (lim : Int))) fun _ =>
   Option.bind (chk (0 <= (List.length a1.2.1 : Int) /\ (List.length a1.2.1 : Int) <= (List.length a1.2.1 : Int) /\ (List.length a1.2.1 : Int) <= (lim : Int))) fun _ =>
   ze6 k v1 k (0 : Int) a1.1 a1.2.1 (List.replicate ((List.length a1.2.1 : Int)).toNat (0 : Int)) (List.replicate ((List.length a1.2.1 : Int)).toNat false)
  )
def ze7 (go1 : Int -> (List (Int × Int)) -> Option (Int × List (Int))) (t2 : Int) (m2 : List (Int × Int)) : Option (Int × List (Int)) :=
 go1 (wi64 (t2 + (1 : Int))) m2
def ze8 (go2 : Int -> (List (Int)) -> Option (Int × List (Int))) (t3 : Int) (out2 : List (Int)) : Option (Int × List (Int)) :=
 go2 (wi64 (t3 + (1 : Int))) out2
def corr_Odd_i1_b2 (k : Nat) (v1 : (List (List ((Int × Int × Unit))) × Int)) (m1 : List (Int × Int)) (go2 : Int -> (List (Int)) -> Option (Int × List (Int))) (t3 : Int) (out1 : List (Int)) : Option (Int × List (Int)) :=
 if decide (t3 < (List.length v1.1 : Int)) then
  (
   Option.bind (at? v1.1 t3) fun x2 =>
   Option.bind (zd8 k x2 (some m1, ())) fun v3 =>
   if v3 then
    (
     Option.bind (chk (List.length out1 + List.length ([t3] : List (Int)) <= lim)) fun _ =>
     ze8 go2 t3 (out1 ++ ([t3] : List (Int)))
    )
   else
    ze8 go2 t3 out1
  )
 else
  some ((0 : Int), out1)
def ze9 (k : Nat) (v1 : (List (List ((Int × Int × Unit))) × Int)) (m1 : List (Int × Int)) : Nat -> Int -> (List (Int)) -> Option (Int × List (Int))
 | 0, _, _ => none
 | n + 1, t3, out1 => corr_Odd_i1_b2 k v1 m1 (ze9 k v1 m1 n) t3 out1
def corr_Odd_i1_b1 (k : Nat) (v2 : List (((Int × Int × Unit) × Int × Unit))) (v1 : (List (List ((Int × Int × Unit))) × Int)) (go1 : Int -> (List (Int × Int)) -> Option (Int × List (Int))) (t2 : Int) (m1 : List (Int × Int)) : Option (Int × List (Int)) :=
 if decide (t2 < (List.length v2 : Int)) then
  (
   Option.bind (at? v2 t2) fun x1 =>
   if !((mget (eqEl (.int .i32)) m1 x1.1.1).isSome) then
    ze7 go1 t2 (mset (eqEl (.int .i32)) m1 x1.1.1 x1.1.2.1)
   else
    ze7 go1 t2 m1
  )
 else
  ze9 k v1 m1 k (0 : Int) ([] : List (Int))
def zfa (k : Nat) (v2 : List (((Int × Int × Unit) × Int × Unit))) (v1 : (List (List ((Int × Int × Unit))) × Int)) : Nat -> Int -> (List (Int × Int)) -> Option (Int × List (Int))
 | 0, _, _ => none
 | n + 1, t2, m1 => corr_Odd_i1_b1 k v2 v1 (zfa k v2 v1 n) t2 m1
def zfb (k : Nat) (a1 : (List (List UInt8) × List ((Int × Int × Int × Unit)) × Unit)) (l1 : List (List (List UInt8))) : Option (Int × List (Int)) :=
 Option.bind (zdv k (a1.1, a1.2.1, ()) l1) fun v1 =>
 if v1.2 != (0 : Int) then
  some (v1.2, ([] : List (Int)))
 else
  (
   Option.bind (zd1 k (a1.1, a1.2.1, ()) v1.1) fun v2 =>
   zfa k v2 v1 k (0 : Int) ([] : List (Int × Int))
  )
def r28_usual_j1 (go1 : Int -> Int -> Int -> Int -> Option Int) (i1 : Int) (best4 : Int) (best5 : Int) (best6 : Int) : Option Int :=
 go1 (wi64 (i1 + (1 : Int))) best4 best5 best6
def r28_usual_j2 (l1 : List (((Int × Int × Unit) × Int × Unit))) (i1 : Int) (go1 : Int -> Int -> Int -> Int -> Option Int) (best1 : Int) (best2 : Int) (best3 : Int) (t1 : Bool) : Option Int :=
 if t1 then
  (
   Option.bind (at? l1 i1) fun x3 =>
   r28_usual_j1 go1 i1 x3.1.1 x3.1.2.1 x3.2.1
  )
 else
  r28_usual_j1 go1 i1 best1 best2 best3
def r28_usual_j3 (l1 : List (((Int × Int × Unit) × Int × Unit))) (i1 : Int) (go1 : Int -> Int -> Int -> Int -> Option Int) (best1 : Int) (best2 : Int) (best3 : Int) (t2 : Bool) : Option Int :=
 r28_usual_j2 l1 i1 go1 best1 best2 best3 t2
def r28_usual_b1 (k : Nat) (l1 : List (((Int × Int × Unit) × Int × Unit))) (x1 : Int) (a1 : (List (List UInt8) × List ((Int × Int × Int × Unit)) × Unit)) (go1 : Int -> Int -> Int -> Int -> Option Int) (i1 : Int) (best1 : Int) (best2 : Int) (best3 : Int) : Option Int :=
 if decide (i1 < (List.length l1 : Int)) then
  (
   Option.bind (at? l1 i1) fun x2 =>
   if x2.1.1 == x1 then
    (
     if best3 == (0 : Int) then
      r28_usual_j3 l1 i1 go1 best1 best2 best3 true
     else
      (
       Option.bind (r28_before k (a1.1, a1.2.1, ()) x2 ((best1, best2, ()), best3, ())) fun v1 =>
       r28_usual_j3 l1 i1 go1 best1 best2 best3 v1
      )
    )
   else
    r28_usual_j2 l1 i1 go1 best1 best2 best3 false
  )
 else
  some (best2)
def r28_usual_l1 (k : Nat) (l1 : List (((Int × Int × Unit) × Int × Unit))) (x1 : Int) (a1 : (List (List UInt8) × List ((Int × Int × Int × Unit)) × Unit)) : Nat -> Int -> Int -> Int -> Int -> Option Int
 | 0, _, _, _, _ => none
 | n + 1, i1, best1, best2, best3 => r28_usual_b1 k l1 x1 a1 (r28_usual_l1 k l1 x1 a1 n) i1 best1 best2 best3
def r28_usual (k : Nat) (a1 : (List (List UInt8) × List ((Int × Int × Int × Unit)) × Unit)) (l1 : List (((Int × Int × Unit) × Int × Unit))) (x1 : Int) : Option Int :=
 r28_usual_l1 k l1 x1 a1 k (0 : Int) (0 : Int) (0 : Int) (0 : Int)
def r28_Odd_j1 (go1 : Int -> (List (List UInt8)) -> (List ((Int × Int × Int × Unit))) -> (List (Int)) -> Option (List (Int) × Int)) (i1 : Int) (a4 : List (List UInt8)) (a5 : List ((Int × Int × Int × Unit))) (out2 : List (Int)) : Option (List (Int) × Int) :=
 go1 (wi64 (i1 + (1 : Int))) a4 a5 out2
def r28_Odd_j2 (go2 : Bool -> Int -> Option (List (Int) × Int)) (k1 : Int) (t1 : Bool) : Option (List (Int) × Int) :=
 go2 t1 (wi64 (k1 + (1 : Int)))
def r28_Odd_j3 (go2 : Bool -> Int -> Option (List (Int) × Int)) (k1 : Int) (t2 : Bool) : Option (List (Int) × Int) :=
 r28_Odd_j2 go2 k1 t2
def r28_Odd_b2 (k : Nat) (v1 : (List (List ((Int × Int × Unit))) × Int)) (i1 : Int) (a2 : List (List UInt8)) (a3 : List ((Int × Int × Int × Unit))) (v2 : List (((Int × Int × Unit) × Int × Unit))) (out1 : List (Int)) (go1 : Int -> (List (List UInt8)) -> (List ((Int × Int × Int × Unit))) -> (List (Int)) -> Option (List (Int) × Int)) (go2 : Bool -> Int -> Option (List (Int) × Int)) (odd1 : Bool) (k1 : Int) : Option (List (Int) × Int) :=
 Option.bind (at? v1.1 i1) fun x1 =>
 if decide (k1 < (List.length x1 : Int)) then
  (
   Option.bind (at? x1 k1) fun x2 =>
   if odd1 then
    r28_Odd_j2 go2 k1 true
   else
    (
     if x2.1 != (0 : Int) then
      (
       Option.bind (r28_usual k (a2, a3, ()) v2 x2.1) fun v3 =>
       r28_Odd_j3 go2 k1 (v3 != x2.2.1)
      )
     else
      r28_Odd_j3 go2 k1 false
    )
  )
 else
  (
   if odd1 then
    (
     Option.bind (chk (List.length out1 + List.length ([i1] : List (Int)) <= lim)) fun _ =>
     r28_Odd_j1 go1 i1 a2 a3 (out1 ++ ([i1] : List (Int)))
    )
   else
    r28_Odd_j1 go1 i1 a2 a3 out1
  )
def r28_Odd_l2 (k : Nat) (v1 : (List (List ((Int × Int × Unit))) × Int)) (i1 : Int) (a2 : List (List UInt8)) (a3 : List ((Int × Int × Int × Unit))) (v2 : List (((Int × Int × Unit) × Int × Unit))) (out1 : List (Int)) (go1 : Int -> (List (List UInt8)) -> (List ((Int × Int × Int × Unit))) -> (List (Int)) -> Option (List (Int) × Int)) : Nat -> Bool -> Int -> Option (List (Int) × Int)
 | 0, _, _ => none
 | n + 1, odd1, k1 => r28_Odd_b2 k v1 i1 a2 a3 v2 out1 go1 (r28_Odd_l2 k v1 i1 a2 a3 v2 out1 go1 n) odd1 k1
def r28_Odd_b1 (k : Nat) (v1 : (List (List ((Int × Int × Unit))) × Int)) (v2 : List (((Int × Int × Unit) × Int × Unit))) (go1 : Int -> (List (List UInt8)) -> (List ((Int × Int × Int × Unit))) -> (List (Int)) -> Option (List (Int) × Int)) (i1 : Int) (a2 : List (List UInt8)) (a3 : List ((Int × Int × Int × Unit))) (out1 : List (Int)) : Option (List (Int) × Int) :=
 if decide (i1 < (List.length v1.1 : Int)) then
  r28_Odd_l2 k v1 i1 a2 a3 v2 out1 go1 k false (0 : Int)
 else
  some (out1, (0 : Int))
def r28_Odd_l1 (k : Nat) (v1 : (List (List ((Int × Int × Unit))) × Int)) (v2 : List (((Int × Int × Unit) × Int × Unit))) : Nat -> Int -> (List (List UInt8)) -> (List ((Int × Int × Int × Unit))) -> (List (Int)) -> Option (List (Int) × Int)
 | 0, _, _, _, _ => none
 | n + 1, i1, a2, a3, out1 => r28_Odd_b1 k v1 v2 (r28_Odd_l1 k v1 v2 n) i1 a2 a3 out1
def r28_Odd (k : Nat) (a1 : (List (List UInt8) × List ((Int × Int × Int × Unit)) × Unit)) (l1 : List (List (List UInt8))) : Option (List (Int) × Int) :=
 Option.bind (r28_aligned k (a1.1, a1.2.1, ()) l1) fun v1 =>
 if v1.2 != (0 : Int) then
  some (([] : List (Int)), v1.2)
 else
  (
   Option.bind (r28_counted k (a1.1, a1.2.1, ()) v1.1) fun v2 =>
   r28_Odd_l1 k v1 v2 k (0 : Int) a1.1 a1.2.1 ([] : List (Int))
  )
def r28_Same_i1_b1 (l1 : List (((Int × Int × Unit) × Int × Unit))) (b1 : List (((Int × Int × Unit) × Int × Unit))) (go1 : Int -> Option Bool) (i1 : Int) : Option Bool :=
 if decide (i1 < (List.length l1 : Int)) then
  (
   Option.bind (at? l1 i1) fun x1 =>
   Option.bind (at? b1 i1) fun x2 =>
   if !(((eqInt x1.1.1 x2.1.1) && ((eqInt x1.1.2.1 x2.1.2.1) && (true))) && ((eqInt x1.2.1 x2.2.1) && (true))) then
    some false
   else
    go1 (wi64 (i1 + (1 : Int)))
  )
 else
  some true
def zfc (l1 : List (((Int × Int × Unit) × Int × Unit))) (b1 : List (((Int × Int × Unit) × Int × Unit))) : Nat -> Int -> Option Bool
 | 0, _ => none
 | n + 1, i1 => r28_Same_i1_b1 l1 b1 (zfc l1 b1 n) i1
def zfd (k : Nat) (b1 : List (((Int × Int × Unit) × Int × Unit))) (l1 : List (((Int × Int × Unit) × Int × Unit))) : Option Bool :=
 if (List.length l1 : Int) != (List.length b1 : Int) then
  some false
 else
  zfc l1 b1 k (0 : Int)
def r03_SameInts_i1_b1 (l1 : List (Int)) (b1 : List (Int)) (go1 : Int -> Option Bool) (i1 : Int) : Option Bool :=
 if decide (i1 < (List.length l1 : Int)) then
  (
   Option.bind (at? l1 i1) fun x1 =>
   Option.bind (at? b1 i1) fun x2 =>
   if x1 != x2 then
    some false
   else
    go1 (wi64 (i1 + (1 : Int)))
  )
 else
  some true
def zfe (l1 : List (Int)) (b1 : List (Int)) : Nat -> Int -> Option Bool
 | 0, _ => none
 | n + 1, i1 => r03_SameInts_i1_b1 l1 b1 (zfe l1 b1 n) i1
def zff (k : Nat) (b1 : List (Int)) (l1 : List (Int)) : Option Bool :=
 if (List.length l1 : Int) != (List.length b1 : Int) then
  some false
 else
  zfe l1 b1 k (0 : Int)
def zfg  (t10 : Bool) : Option Bool :=
 some (t10)
def zfh (l1 : List (List (List UInt8))) (t9 : Bool) : Option Bool :=
 if t9 then
  (
   Option.bind (at? ((([] : List (List (List UInt8))) ++ l1) ++ ([([([55, 55] : List UInt8), ([] : List UInt8)] : List (List UInt8))] : List (List (List UInt8)))) (List.length l1 : Int)) fun x5 =>
   Option.bind (at? x5 (0 : Int)) fun x6 =>
   zfg (x6 == ([55, 55] : List UInt8))
  )
 else
  zfg false
def l28_CorrCounts_b3 (k : Nat) (l1 : List (List (List UInt8))) (a1 : (List (List UInt8) × List ((Int × Int × Int × Unit)) × Unit)) (v3 : (List (((Int × Int × Unit) × Int × Unit)) × Int)) (go3 : Int -> Option Bool) (k3 : Int) : Option Bool :=
 if decide (k3 < (List.length l1 : Int)) then
  (
   Option.bind (at? ((([] : List (List (List UInt8))) ++ l1) ++ ([([([55, 55] : List UInt8), ([] : List UInt8)] : List (List UInt8))] : List (List (List UInt8)))) k3) fun x3 =>
   Option.bind (at? l1 k3) fun x4 =>
   if !(eqEl (.arr 2 .str) x3 x4) then
    some (false)
   else
    go3 (wi64 (k3 + (1 : Int)))
  )
 else
  (
   Option.bind (sub? ((([] : List (List (List UInt8))) ++ l1) ++ ([([([55, 55] : List UInt8), ([] : List UInt8)] : List (List UInt8))] : List (List (List UInt8)))) (0 : Int) (List.length l1 : Int)) fun s4 =>
   Option.bind (zee k (a1.1, a1.2.1, ()) s4) fun v8 =>
   if v8.1 == v3.2 then
    (
     Option.bind (zfd k v3.1 v8.2) fun v9 =>
     zfh l1 v9
    )
   else
    zfh l1 false
  )
def zfi (k : Nat) (l1 : List (List (List UInt8))) (a1 : (List (List UInt8) × List ((Int × Int × Int × Unit)) × Unit)) (v3 : (List (((Int × Int × Unit) × Int × Unit)) × Int)) : Nat -> Int -> Option Bool
 | 0, _ => none
 | n + 1, k3 => l28_CorrCounts_b3 k l1 a1 v3 (zfi k l1 a1 v3 n) k3
def l28_CorrCounts_b2 (k : Nat) (l1 : List (List (List UInt8))) (a1 : (List (List UInt8) × List ((Int × Int × Int × Unit)) × Unit)) (v3 : (List (((Int × Int × Unit) × Int × Unit)) × Int)) (go2 : Int -> (List (Int)) -> Option Bool) (k2 : Int) (t8 : List (Int)) : Option Bool :=
 if decide (k2 < (List.length t8 : Int)) then
  (
   Option.bind (at? t8 k2) fun x2 =>
   go2 (wi64 (k2 + (1 : Int))) (List.set t8 (k2).toNat (77 : Int))
  )
 else
  zfi k l1 a1 v3 k (0 : Int)
def zfj (k : Nat) (l1 : List (List (List UInt8))) (a1 : (List (List UInt8) × List ((Int × Int × Int × Unit)) × Unit)) (v3 : (List (((Int × Int × Unit) × Int × Unit)) × Int)) : Nat -> Int -> (List (Int)) -> Option Bool
 | 0, _, _ => none
 | n + 1, k2, t8 => l28_CorrCounts_b2 k l1 a1 v3 (zfj k l1 a1 v3 n) k2 t8
def l28_CorrCounts_b1 (k : Nat) (l1 : List (List (List UInt8))) (a1 : (List (List UInt8) × List ((Int × Int × Int × Unit)) × Unit)) (v3 : (List (((Int × Int × Unit) × Int × Unit)) × Int)) (v6 : (Int × List (Int))) (go1 : Int -> (List (((Int × Int × Unit) × Int × Unit))) -> Option Bool) (k1 : Int) (t7 : List (((Int × Int × Unit) × Int × Unit))) : Option Bool :=
 if decide (k1 < (List.length t7 : Int)) then
  (
   Option.bind (at? t7 k1) fun x1 =>
   go1 (wi64 (k1 + (1 : Int))) (List.set t7 (k1).toNat (((0 : Int), (0 : Int), ()), (77 : Int), ()))
  )
 else
  zfj k l1 a1 v3 k (0 : Int) v6.2
def zfk (k : Nat) (l1 : List (List (List UInt8))) (a1 : (List (List UInt8) × List ((Int × Int × Int × Unit)) × Unit)) (v3 : (List (((Int × Int × Unit) × Int × Unit)) × Int)) (v6 : (Int × List (Int))) : Nat -> Int -> (List (((Int × Int × Unit) × Int × Unit))) -> Option Bool
 | 0, _, _ => none
 | n + 1, k1, t7 => l28_CorrCounts_b1 k l1 a1 v3 v6 (zfk k l1 a1 v3 v6 n) k1 t7
def zfl (k : Nat) (l1 : List (List (List UInt8))) (a1 : (List (List UInt8) × List ((Int × Int × Int × Unit)) × Unit)) (v3 : (List (((Int × Int × Unit) × Int × Unit)) × Int)) (v6 : (Int × List (Int))) (v2 : (Int × List (((Int × Int × Unit) × Int × Unit)))) (t6 : Bool) : Option Bool :=
 if t6 then
  some (false)
 else
  zfk k l1 a1 v3 v6 k (0 : Int) v2.2
def l28_CorrCounts_j5 (k : Nat) (l1 : List (List (List UInt8))) (a1 : (List (List UInt8) × List ((Int × Int × Int × Unit)) × Unit)) (v3 : (List (((Int × Int × Unit) × Int × Unit)) × Int)) (v6 : (Int × List (Int))) (v2 : (Int × List (((Int × Int × Unit) × Int × Unit)))) (v7 : (List (Int) × Int)) (t5 : Bool) : Option Bool :=
 if t5 then
  zfl k l1 a1 v3 v6 v2 true
 else
  (
   Option.bind (zff k v7.1 v6.2) fun v10 =>
   zfl k l1 a1 v3 v6 v2 (!v10)
  )
def l28_CorrCounts_j4 (k : Nat) (l1 : List (List (List UInt8))) (a1 : (List (List UInt8) × List ((Int × Int × Int × Unit)) × Unit)) (v3 : (List (((Int × Int × Unit) × Int × Unit)) × Int)) (v6 : (Int × List (Int))) (v2 : (Int × List (((Int × Int × Unit) × Int × Unit)))) (v7 : (List (Int) × Int)) (t4 : Bool) : Option Bool :=
 l28_CorrCounts_j5 k l1 a1 v3 v6 v2 v7 (t4 || (v6.1 != v7.2))
def l28_CorrCounts_j3 (k : Nat) (l1 : List (List (List UInt8))) (a1 : (List (List UInt8) × List ((Int × Int × Int × Unit)) × Unit)) (v3 : (List (((Int × Int × Unit) × Int × Unit)) × Int)) (v6 : (Int × List (Int))) (v2 : (Int × List (((Int × Int × Unit) × Int × Unit)))) (v7 : (List (Int) × Int)) (v4 : (Bool × Int × Int)) (v5 : (Bool × Int × Int)) (t3 : Bool) : Option Bool :=
 l28_CorrCounts_j4 k l1 a1 v3 v6 v2 v7 (t3 || (v4.2.2 != v5.2.2))
def l28_CorrCounts_j2 (k : Nat) (l1 : List (List (List UInt8))) (a1 : (List (List UInt8) × List ((Int × Int × Int × Unit)) × Unit)) (v3 : (List (((Int × Int × Unit) × Int × Unit)) × Int)) (v6 : (Int × List (Int))) (v2 : (Int × List (((Int × Int × Unit) × Int × Unit)))) (v7 : (List (Int) × Int)) (v4 : (Bool × Int × Int)) (v5 : (Bool × Int × Int)) (t2 : Bool) : Option Bool :=
 l28_CorrCounts_j3 k l1 a1 v3 v6 v2 v7 v4 v5 (t2 || (v4.2.1 != v5.2.1))
def zfm (k : Nat) (l1 : List (List (List UInt8))) (a1 : (List (List UInt8) × List ((Int × Int × Int × Unit)) × Unit)) (v3 : (List (((Int × Int × Unit) × Int × Unit)) × Int)) (v6 : (Int × List (Int))) (v2 : (Int × List (((Int × Int × Unit) × Int × Unit)))) (v7 : (List (Int) × Int)) (v4 : (Bool × Int × Int)) (v5 : (Bool × Int × Int)) (t1 : Bool) : Option Bool :=
 l28_CorrCounts_j2 k l1 a1 v3 v6 v2 v7 v4 v5 (t1 || (!(v4.1 == v5.1)))
def zfn (k : Nat) (a1 : (List (List UInt8) × List ((Int × Int × Int × Unit)) × Unit)) (l1 : List (List (List UInt8))) : Option Bool :=
 Option.bind (l28_long k (a1.1, a1.2.1, ()) l1) fun v1 =>
 if v1 then
  some (true)
 else
  (
   Option.bind (chk (List.length ([] : List (List (List UInt8))) + List.length l1 <= lim)) fun _ =>
   Option.bind (chk (List.length (([] : List (List (List UInt8))) ++ l1) + List.length ([([([55, 55] : List UInt8), ([] : List UInt8)] : List (List UInt8))] : List (List (List UInt8))) <= lim)) fun _ =>
   Option.bind (sub? ((([] : List (List (List UInt8))) ++ l1) ++ ([([([55, 55] : List UInt8), ([] : List UInt8)] : List (List UInt8))] : List (List (List UInt8)))) (0 : Int) (List.length l1 : Int)) fun s1 =>
   Option.bind (zee k (a1.1, a1.2.1, ()) s1) fun v2 =>
   Option.bind (r28_Counts k (a1.1, a1.2.1, ()) l1) fun v3 =>
   Option.bind (sub? ((([] : List (List (List UInt8))) ++ l1) ++ ([([([55, 55] : List UInt8), ([] : List UInt8)] : List (List UInt8))] : List (List (List UInt8)))) (0 : Int) (List.length l1 : Int)) fun s2 =>
   Option.bind (corr_Regular k (a1.1, a1.2.1, ()) s2) fun v4 =>
   Option.bind (r28_Regular k (a1.1, a1.2.1, ()) l1) fun v5 =>
   Option.bind (sub? ((([] : List (List (List UInt8))) ++ l1) ++ ([([([55, 55] : List UInt8), ([] : List UInt8)] : List (List UInt8))] : List (List (List UInt8)))) (0 : Int) (List.length l1 : Int)) fun s3 =>
   Option.bind (zfb k (a1.1, a1.2.1, ()) s3) fun v6 =>
   Option.bind (r28_Odd k (a1.1, a1.2.1, ()) l1) fun v7 =>
   if v2.1 != v3.2 then
    zfm k l1 a1 v3 v6 v2 v7 v4 v5 true
   else
    (
     Option.bind (zfd k v3.1 v2.2) fun v11 =>
     zfm k l1 a1 v3 v6 v2 v7 v4 v5 (!v11)
    )
  )
def r28_Same_b1 (a1 : List (((Int × Int × Unit) × Int × Unit))) (b1 : List (((Int × Int × Unit) × Int × Unit))) (go1 : Int -> Option Bool) (i1 : Int) : Option Bool :=
 if decide (i1 < (List.length a1 : Int)) then
  (
   Option.bind (at? a1 i1) fun x1 =>
   Option.bind (at? b1 i1) fun x2 =>
   if !(((eqInt x1.1.1 x2.1.1) && ((eqInt x1.1.2.1 x2.1.2.1) && (true))) && ((eqInt x1.2.1 x2.2.1) && (true))) then
    some (false)
   else
    go1 (wi64 (i1 + (1 : Int)))
  )
 else
  some (true)
def r28_Same_l1 (a1 : List (((Int × Int × Unit) × Int × Unit))) (b1 : List (((Int × Int × Unit) × Int × Unit))) : Nat -> Int -> Option Bool
 | 0, _ => none
 | n + 1, i1 => r28_Same_b1 a1 b1 (r28_Same_l1 a1 b1 n) i1
def r28_Same (k : Nat) (a1 : List (((Int × Int × Unit) × Int × Unit))) (b1 : List (((Int × Int × Unit) × Int × Unit))) : Option Bool :=
 if (List.length a1 : Int) != (List.length b1 : Int) then
  some (false)
 else
  r28_Same_l1 a1 b1 k (0 : Int)
end Go.Ev
namespace Go.Ev
open Go
variable [Dr]
def Gn : World -> Prop := fun _ => True
theorem Gn_stable : ∀ w w', Frame w w' (fun _ => False) -> Gn w -> Gn w' := fun _ _ _ _ => trivial
end Go.Ev
namespace Go.Ev
open Go Go.Proofs
noncomputable def zfo (k : Nat) : FnF := ⟨[.str], [.int .i32, .int .i64], [], fun s => utf8_DecodeRuneInString k s⟩
noncomputable def zfp (k : Nat) : PF Tryz.prog Gl := ⟨78, zfo k, ofC (c_unicode_utf8_DecodeRuneInString k) (zfo k) fun x y h => h⟩
end Go.Ev
namespace Go.Ev
open Go Go.RowKit
open Go.ChangeMaps (setBlock)
structure Going (w : World) (b r : Nat) (es : Array MapEntry) (clock : Nat) (got : List MapEntry) : Prop where
 map : w.heap[b]? = some (.map es clock)
 born : ∀ e ∈ es.toList, e.born < clock
 nb : (es.toList.map (·.born)).Nodup
 it : w.heap[r]? = some (.mapIter (some b) clock (got.map (·.born)).toArray clock)
 mem : ∀ e ∈ got, e ∈ es.toList
 nd : (got.map (·.born)).Nodup
 cnt : got.length + (leftOf es (got.map (·.born)).toArray).size <= es.size
section
variable {P : Program} {w : World} {b r : Nat} {es : Array MapEntry} {clock : Nat} {got : List MapEntry}
theorem Going.ne (h : Going w b r es clock got) : b ≠ r := fun e => by
 have := h.map
 rw [e, h.it] at this
 cases this
theorem Going.walk (h : Going w b r es clock got) : ∃ o : Obj, w.heap[r]? = some o /\ o.isWalk = true := ⟨_, h.it, rfl⟩
theorem Going.left (h : Going w b r es clock got) : w.rangeLeft b r = (leftOf es (got.map (·.born)).toArray).size := by
 simp only [World.rangeLeft, h.map, h.it]
theorem Going.of_walks {w' : World} (h : Going w b r es clock got) (hk : KeepsWalks w w') : Going w' b r es clock got := by
 exact ⟨hk.same b _ h.map rfl, h.born, h.nb, hk.same r _ h.it rfl, h.mem, h.nd, h.cnt⟩
theorem Going.start {kt et t : TypeId} (ht : P.underlying t = some (.map kt et)) (hb : w.heap[b]? = some (.map es clock)) (hn : ∀ e ∈ es.toList, e.born < clock) (hd : (es.toList.map (·.born)).Nodup) :
  (Instr.range t (.map (some b))).run P w = .ok (.pointer (some ⟨w.heap.size, 0, none⟩)) (w.alloc (.mapIter (some b) clock #[] clock)) /\ Going (w.alloc (.mapIter (some b) clock #[] clock)) b w.heap.size es clock [] := by
 have hlt : b < w.heap.size := (Array.getElem?_eq_some_iff.1 hb).1
 refine ⟨run_range_map w t kt et b es clock ht hb, ⟨(Below.heap_alloc w _ b hlt).trans hb, hn, hd, World.alloc_heap_new w _, fun _ h => (by cases h), List.nodup_nil, ?_⟩⟩
 simp only [List.length_nil, Nat.zero_add]
 exact Array.size_filter_le ..
theorem Going.step (h : Going w b r es clock got) (ty : TypeId) :
  ((∀ e ∈ es.toList, e ∈ got) /\ (Instr.next (.pointer (some ⟨r, 0, none⟩)) false ty).run P w = .ok (.tuple #[.bool false]) w) \/
  ∃ e w2, (Instr.next (.pointer (some ⟨r, 0, none⟩)) false ty).run P w = .ok (.tuple #[.bool true, e.key, e.val]) w2 /\ Going w2 b r es clock (got ++ [e]) /\ got.length < es.size /\ w2.rangeLeft b r < w.rangeLeft b r /\ w.grownBy w2 (some r) /\ w2.heap.size = w.heap.size := by
 have h1 := h.it
 rcases run_next_at (P := P) w ty r b clock clock _ es clock h1 h.map h.born (Nat.le_refl _) with ⟨h0, hrun⟩ | ⟨e, he, w1, hal, hrun⟩
 ·refine .inl ⟨fun e he => ?_, hrun⟩
  have := all_seen es _ h0 e he
  have hm : e.born ∈ got.map (·.born) := by simpa using this
  obtain ⟨e', he', heq⟩ := List.mem_map.1 hm
  rw [<- born_inj h.nb (h.mem e' he') he heq]
  exact he'
 ·obtain ⟨hem, hes⟩ := mem_left he
  have hlt : r < w1.heap.size := by rcases hal with rfl | rfl <;> exact (Array.getElem?_eq_some_iff.1 h1).1
  have hb1 : w1.heap[b]? = some (.map es clock) := by rcases hal with rfl | rfl <;> exact h.map
  have hsh := left_shrinks es _ e he
  have hpush : (got.map (·.born)).toArray.push e.born = ((got ++ [e]).map (·.born)).toArray := by simp
  have g : Going (setBlock w1 r (.mapIter (some b) clock ((got.map (·.born)).toArray.push e.born) clock)) b r es clock (got ++ [e]) := by
   refine ⟨?_, h.born, h.nb, ?_, fun x hx => ?_, ?_, ?_⟩
   ·show (w1.heap.setIfInBounds r _)[b]? = _
    rw [Array.getElem?_setIfInBounds_ne (Ne.symm h.ne)]; exact hb1
   ·rw [hpush]
    show (w1.heap.setIfInBounds r _)[r]? = _
    rw [Array.getElem?_setIfInBounds_self_of_lt hlt]
   ·rcases List.mem_append.1 hx with hx | hx
    ·exact h.mem x hx
    ·simp at hx; subst hx; exact hem
   ·rw [List.map_append, List.nodup_append]
    refine ⟨h.nd, by simp, fun a ha c hc => ?_⟩
    simp at hc
    subst hc
    rintro rfl
    have : (got.map (·.born)).toArray.contains e.born = true := by simpa using ha
    rw [this] at hes; cases hes
   ·rw [<- hpush]
    have := h.cnt
    rw [List.length_append]
    simp only [List.length_cons, List.length_nil]
    omega
  refine .inr ⟨e, _, hrun, g, by have := h.cnt; omega, by rw [g.left, h.left, <- hpush]; exact hsh, ?_, ?_⟩
  ·rcases hal with rfl | rfl <;> exact ⟨rfl, rfl, rfl, by simp [setBlock], fun i _ hi => Array.getElem?_setIfInBounds_ne (fun e1 => hi (by rw [e1]))⟩
  ·rcases hal with rfl | rfl <;> simp [setBlock]
theorem Going.entry {e : MapEntry} (h : Going w b r es clock (got ++ [e])) : (Instr.entry (.pointer (some ⟨r, 0, none⟩))).run P w = .ok (.tuple #[e.key, e.val]) w := by
 have h1 := h.it
 have hpush : ((got ++ [e]).map (·.born)).toArray = (got.map (·.born)).toArray.push e.born := by simp
 rw [hpush] at h1
 exact run_entry_at w r b clock _ es clock e h1 h.map (h.mem e (by simp)) h.nb
theorem Going.all (h : Going w b r es clock got) (ha : ∀ e ∈ es.toList, e ∈ got) : got.Perm es.toList := by
 have of_map : ∀ l : List MapEntry, (l.map (·.born)).Nodup -> l.Nodup := fun l hl => (List.pairwise_map.1 hl).imp fun hne e => hne (by rw [e])
 have nd1 : got.Nodup := of_map _ h.nd
 have nd2 : es.toList.Nodup := of_map _ h.nb
 exact (List.perm_ext_iff_of_nodup nd1 nd2).2 fun e => ⟨h.mem e, ha e⟩
end
section
variable {F : Fence} {n : Nat} {P : Program} {w : World} {ops : Array Oper} {rest : List Oper} {o : Oper} {a : Act} {Q : Exit -> Act -> World -> Prop} {b r : Nat} {es : Array MapEntry} {clock : Nat} {got : List MapEntry}
theorem wpListIn_start (hg : o.guard = none) (m : Operand) (t kt et : TypeId) (hop : o.op = Op.range t m) (ht : P.underlying t = some (.map kt et)) (hm : a.eval m = .map (some b)) (hb : w.heap[b]? = some (.map es clock)) (hn : ∀ e ∈ es.toList, e.born < clock) (hd : (es.toList.map (·.born)).Nodup)
  (hK : ∀ w', Going w' b w.heap.size es clock [] -> w.grownBy w' none -> w'.heap.size = w.heap.size + 1 -> wpListIn F n P ops Q rest (a.put o.dst (.pointer (some ⟨w.heap.size, 0, none⟩))) w') :
  wpListIn F n P ops Q (o :: rest) a w := by
 refine wpListIn_plain hg fun K' hK' => ?_
 obtain ⟨hrun, hgo⟩ := Going.start (P := P) ht hb hn hd
 unfold Oper.wpIn
 refine ⟨?_, ?_⟩
 ·simp [Oper.about, hop]
 ·rw [Oper.semAt_plain F _ _ (by rw [hop]; intro c hc'; cases hc')]
  simp [execOp, hop, hm, hrun, Result.andThen]
  exact hK' _ _ (hK _ hgo (World.grownBy_alloc w _ none) (by simp))
theorem wpListIn_going (hg : o.guard = none) (it : Operand) (hop : o.op = Op.next it false) (hit : a.eval it = .pointer (some ⟨r, 0, none⟩)) (h : Going w b r es clock got)
  (hDone : (∀ e ∈ es.toList, e ∈ got) -> wpListIn F n P ops Q rest (a.put o.dst (.tuple #[.bool false])) w)
  (hMore : ∀ (e : MapEntry) (w2 : World), Going w2 b r es clock (got ++ [e]) -> got.length < es.size -> w2.rangeLeft b r < w.rangeLeft b r -> w.grownBy w2 (some r) -> w2.heap.size = w.heap.size -> (Instr.entry (.pointer (some ⟨r, 0, none⟩))).run P w2 = .ok (.tuple #[e.key, e.val]) w2 -> wpListIn F n P ops Q rest (a.put o.dst (.tuple #[.bool true, e.key, e.val])) w2) :
  wpListIn F n P ops Q (o :: rest) a w := by
 refine wpListIn_plain hg fun K' hK' => ?_
 unfold Oper.wpIn
 refine ⟨by simp [Oper.about, hop], ?_⟩
 rw [Oper.semAt_plain F _ _ (by rw [hop]; intro c hc'; cases hc')]
 rcases h.step (P := P) o.type with ⟨hl, hrun⟩ | ⟨e, w2, hrun, hgo, h1, h2, h3, h4⟩
 ·simp [execOp, hop, hit, hrun, Result.andThen]
  exact hK' _ _ (hDone hl)
 ·simp [execOp, hop, hit, hrun, Result.andThen]
  exact hK' _ _ (hMore e w2 hgo h1 h2 h3 h4 hgo.entry)
end
end Go.Ev
namespace Go.Ev
open Go Go.Proofs Go.RowKit Go.Shelf
attribute [local go_sem] Oper.semAt_some
def encP (p : Int × Int × Unit) : Value := .agg #[.int .i32 p.1, .int .i32 p.2.1]
def decP : Value -> Int × Int × Unit
 | .agg #[.int _ a, .int _ b] => (a, b, ())
 | _ => (0, 0, ())
theorem perm_of_enc {l m : List (Int × Int × Unit)} (h : (l.map encP).Perm (m.map encP)) : l.Perm m := by
 have := h.map decP
 rw [List.map_map, List.map_map] at this
 have e : decP ∘ encP = id := rfl
 rwa [e, List.map_id, List.map_id] at this
set_option maxRecDepth 100000 in
set_option maxHeartbeats 2000000 in
theorem keysP_stops (F : Fence) (n : Nat) (hF : F.fn 40) (hro : F.round = none) (hn : 1 <= n) (Bm b : Nat) (es : Array MapEntry) (clock : Nat) (ks : List (Int × Int × Unit)) (w : World) (hBm : Bm < w.heap.size) (hm : w.cell? ⟨Bm, 0, none⟩ = some (.map (some b)))
  (hb : w.heap[b]? = some (.map es clock)) (hborn : ∀ e ∈ es.toList, e.born < clock) (hnd : (es.toList.map (·.born)).Nodup) (hk : es.toList.map (·.key) = ks.map encP) :
  SeqStops F n Tryz.prog 40 #[.pointer (some ⟨Bm, 0, none⟩)] encP (fun ss => ss.Perm ks) (fun _ => True) es.size w := fun l J Jx W hW hJ hJx hY h0 => by
 have hbl : b < w.heap.size := (Array.getElem?_eq_some_iff.1 hb).1
 have hb' : W.heap[b]? = some (.map es clock) := (hW.block b hbl).trans hb
 have hm' : W.cell? ⟨Bm, 0, none⟩ = some (.map (some b)) := (hW.cell (p := ⟨Bm, 0, none⟩) hBm).trans hm
 refine callsIn_of_wp Tryz.func40 rfl hF ?_ hro
 simp only [Tryz.ntmps40, List.size_toArray, List.length_cons, List.length_nil, Nat.reduceAdd, Nat.reduceSub, Array.replicate_succ, Array.replicate_zero, List.push_toArray, List.append_toArray, List.nil_append, List.cons_append]
 gi_wp2_with (first
  | (gi_at_range; refine wpListIn_start rfl _ 60 _ _ rfl Tryz.underlying60 rfl hb' hborn hnd ?_; intro w0 hrg0 hg0 hs0)
  | gi_in)
 go_frame
 gi_loopw [3] (fun _ wr => ∃ (got : List MapEntry) (ss : List (Int × Int × Unit)), Going wr b W.heap.size es clock got /\ ss.map encP = got.map (·.key) /\ J ss wr)
  (fun _ wr => wr.rangeLeft b W.heap.size)
 case atStart =>
  exact ⟨[], [], hrg0, rfl, hJ [] W w0 none h0 hg0 (fun r e => by cases e)⟩
 case round =>
  obtain ⟨got, ss, hrg, hss, hJs⟩ := hrel
  gi_wp2_with (first
   | (gi_at_next; refine wpListIn_going rfl _ rfl rfl hrg ?_ ?_)
   | gi_in)
  ·intro hall
   gi_wp2
   go_end0
   refine ⟨⟨_, rfl⟩, .inl ⟨ss, ?_, hJs⟩⟩
   have h1 : (got.map (·.key)).Perm (es.toList.map (·.key)) := (hrg.all fun e he => hall e (by simpa using he)).map _
   rw [<- hss, hk] at h1
   exact perm_of_enc h1
  ·intro e w2 hrg2 hlt hdec hg2 hs2 hen
   obtain ⟨x, hx⟩ : ∃ x, e.key = encP x := by
    have : e.key ∈ es.toList.map (·.key) := List.mem_map.2 ⟨e, hrg2.mem e (by simp), rfl⟩
    rw [hk] at this
    obtain ⟨x, _, hx⟩ := List.mem_map.1 this
    exact ⟨x, hx.symm⟩
   rw [hx] at hen ⊢
   have hJ2 : J ss w2 := hJ ss wr w2 (some W.heap.size) hJs hg2 (fun r e => by cases e; exact ⟨Nat.le_refl _, hrg.walk⟩)
   have hlen : ss.length = got.length := by have := congrArg List.length hss; simpa using this
   have hJ3 : J ss (w2.alloc (.cells #[.int .i32 x.1, .int .i32 x.2.1] 41)) := hJ ss w2 _ none hJ2 (World.grownBy_alloc w2 _ none) (fun r e => by cases e)
   obtain ⟨fn, tmps, assign, body, hy, hR⟩ := hY ss x _ hJ3 (by omega)
   have hrg3 := hrg2.of_walks (KeepsWalks.alloc w2 (.cells #[.int .i32 x.1, .int .i32 x.2.1] 41))
   unfold encP at hen hy ⊢
   gi_wp2
   refine hR.mono ?_
   rintro e' W3 (⟨rfl, hJ4, hk4⟩ | ⟨rfl, hJx4⟩)
   ·gi_wp2
    have hrg4 := hrg3.of_walks hk4
    go_roundw
    case rel => exact ⟨got ++ [e], ss ++ [x], hrg4, by rw [List.map_append, List.map_append, hss]; simp [hx], hJ4⟩
    case measure => rw [hrg4.left, <- hrg2.left]; exact hdec
   ·gi_wp2
    refine bodyPost_ret (results_none rfl _ _ _) rfl ?_
    exact ⟨⟨_, rfl⟩, .inr ⟨ss ++ [x], trivial, hJx4⟩⟩
theorem infoP : (Tryz.prog.info? 41).map (fun i => (i.zero, i.size, i.bytes)) = some (some (.agg #[.int .i32 0, .int .i32 0]), 2, 8) := by kernel_rfl
def ce (p : Int × Int × Unit) : List Value := [.int .i32 p.1, .int .i32 p.2.1]
set_option maxRecDepth 100000 in
set_option maxHeartbeats 2000000 in
theorem appendSeqP (F : Fence) (n : Nat) (hF : F.fn 52) (hro : F.round = none) (hn : 2 <= n) (g : Nat) (lb : Array Value) (hFg : F.fn g) (eg : ∀ args w, (callFunc g args).run Tryz.prog w = .ok (.enter g args) w)
  (S Sp : List (Int × Int × Unit) -> Prop) (N : Nat) (hN : N <= maxLen) (hNb : N * 8 <= 140737488355328) (w : World) (hseq : SeqStops F (n - 1) Tryz.prog g lb encP S Sp N w) :
  CallsIn F n Tryz.prog 52 #[.slice none 0 0, .func (.func g) #[] lb] w fun e w' => ∃ (v : Value) (ss : List (Int × Int × Unit)), e = .returned v /\ S ss /\ w'.ownsRow w.heap.size 41 2 v ss.length (ss.flatMap ce) /\ Below w.heap.size w w' := by
 have h1 : 1 <= n := by omega
 obtain ⟨i0, hi, hz0, hz1, hz2⟩ := info_parts infoP
 refine callsIn_of_wp_marks Tryz.func52 rfl hF ?_ hro
 simp only [Tryz.ntmps52, List.size_toArray, List.length_cons, List.length_nil, Nat.reduceAdd, Nat.reduceSub, Array.replicate_succ, Array.replicate_zero, List.push_toArray, List.append_toArray, List.nil_append, List.cons_append]
 gi_wp2
 refine wpIn_rangeFunc_ownH hro h1 (gf := g) (lb := lb) rfl hFg eg (show SeqStopsK F (n - 1) Tryz.prog g lb (fun x => #[encP x]) KeepsWalks S Sp N w from hseq) walksK_t walksK_b ((Below.refl _ w).alloc (Nat.le_refl _) _) (fun _ => rfl)
  (fun pre W => (∃ v, Boxed W w.heap.size 49 v /\ W.ownsRow w.heap.size 41 2 v pre.length (pre.flatMap ce) /\ True) /\ Below w.heap.size w W)
  (fun _ _ _ => False)
  (OwnFrom.and (Own.from (holdsRow_own w.heap.size w.heap.size 49 41 2 (fun pre : List (Int × Int × Unit) => pre.length) (fun pre => pre.flatMap ce) (fun _ _ => True)) _) (ownFrom_below (Nat.le_refl _) (by simp)))
  (fun _ _ _ _ _ hs _ _ => hs)
  ⟨⟨.slice none 0 0, Boxed.new w _ _, World.ownsRow_nil _ _ _ _, trivial⟩, (Below.refl _ w).alloc (Nat.le_refl _) _⟩
  (fun x a' W => ∃ Bx, w.heap.size < Bx /\ W.heap[Bx]? = some (.cells #[.int .i32 x.1, .int .i32 x.2.1] 41 (0, 0)) /\
   a' = { tmps := #[.slice none 0 0, .func (.func g) #[] lb, .pointer (some ⟨w.heap.size, 0, none⟩), undef, .slice none 0 0, .pointer (some ⟨Bx, 0, none⟩), .func (.func g) #[] lb, encP x, undef, undef, undef, undef, undef], defers := [] })
  ?hAx ?assign ?body ?done ?stop
 case hAx =>
  rintro x a' _ X Y row ⟨Bx, h2, h3, h4⟩ hg hr
  refine ⟨Bx, h2, (hg.block Bx (Array.getElem?_eq_some_iff.1 h3).1 (fun e => ?_)).trans h3, h4⟩
  obtain ⟨_, o, ho, hc⟩ := hr Bx e.symm
  rw [h3] at ho; cases ho; cases hc
 case assign =>
  rintro l pre x W K ⟨⟨v, hv, hr, _⟩, hB⟩ hK
  unfold encP
  gi_wp2
  exact hK _ _ ((KeepsOthers.alloc _ _).from _) (KeepsWalks.alloc _ _) ⟨⟨v, hv.alloc _, hr.alloc _, trivial⟩, hB.alloc hB.size _⟩ ⟨W.heap.size, hv.lt, World.alloc_heap_new W _, rfl⟩
 case body =>
  rintro l pre x a' W hl ⟨r, hr⟩ ⟨⟨v, hv, hrow, _⟩, hB⟩ ⟨Bx, hBx, hx, rfl⟩ hlt
  have hvc := hv.cell
  have hx0 : W.cell? ⟨Bx, 0, none⟩ = some (.int .i32 x.1) := by simp [World.cell?, hx]
  have hx1 : W.cell? ⟨Bx, 1, none⟩ = some (.int .i32 x.2.1) := by simp [World.cell?, hx]
  have hnews : ∀ (j : Nat) (u : Value), (ce x)[j]? = some u -> (W.alloc (.cells #[.int .i32 x.1, .int .i32 x.2.1] 41)).cell? ((⟨W.heap.size, 0, none⟩ : Addr).add j) = some u := by
   intro j u hj
   have ea : (⟨W.heap.size, 0, none⟩ : Addr).add j = ⟨W.heap.size, 0 + j, none⟩ := by unfold Addr.add; split <;> simp_all
   rw [ea, Nat.zero_add]
   simp only [World.cell?, World.alloc_heap_new]
   unfold ce at hj
   match j, hj with
   | 0, hj => simpa using hj
   | 1, hj => simpa using hj
   | j + 2, hj => simp at hj
  gi_wp2_with (gi_at_builtin; refine wpListIn_append_own _ rfl _ _ 49 rfl w.heap.size 41 i0 (.agg #[.int .i32 0, .int .i32 0]) 2 8 Tryz.underlying49 hi hz0 hz1 hz2 rfl (by decide) _ _ _ rfl (hrow.alloc _) ⟨W.heap.size, 0, none⟩ 1 1 (ce x) rfl rfl hnews (by simp [ce, Value.oneCell']) (by omega) (by omega) (by have := hB.size; simp; omega) ?_; intro v' w1 hown' hgrow _; obtain ⟨g', cap', rfl⟩ := ownsRow_succ hown'; obtain ⟨hv1, hv2, hr2, hk2, hb2⟩ := hv.appended (by decide) hrow hB.size (Nat.le_refl _) hown' hgrow; have hc1 := hv1.cell; have hf1 := hv1.frozen)
  exact ⟨hk2.from _, ⟨hk2.size, fun j o hj ho => hk2.same j o hj (Obj.not_cells_of_walk ho)⟩, ⟨_, hv2, by rw [List.length_append, List.flatMap_append]; simpa using hr2, trivial⟩, hB.trans hb2⟩
 case done =>
  rintro D ss W hD hS ⟨⟨v, hv, hrow, _⟩, hB⟩ hK
  have hvc := hv.cell
  gi_wp2
  refine ⟨by simp, .inl ⟨_, _, rfl, run_takeDeferred hK, ?_⟩⟩
  exact ⟨_, results_tmp rfl _ _ _, v, ss, rfl, hS, ownsRow_putObj hrow _ hK rfl, hB.grown (grownBy_putObj' _ D _) hB.size (fun k e => by cases e; simp at hD; omega)⟩
 case stop =>
  rintro D c pre W _ _ h _
  exact h.elim
set_option maxHeartbeats 2000000 in
theorem collectP (F : Fence) (n : Nat) (hF : F.fn 38) (hF2 : F.fn 52) (hro : F.round = none) (hn : 3 <= n) (g : Nat) (lb : Array Value) (hFg : F.fn g) (eg : ∀ args w, (callFunc g args).run Tryz.prog w = .ok (.enter g args) w)
  (S Sp : List (Int × Int × Unit) -> Prop) (N : Nat) (hN : N <= maxLen) (hNb : N * 8 <= 140737488355328) (w : World) (hseq : SeqStops F (n - 1 - 1) Tryz.prog g lb encP S Sp N w) :
  CallsIn F n Tryz.prog 38 #[.func (.func g) #[] lb] w fun e w' => ∃ (v : Value) (ss : List (Int × Int × Unit)), e = .returned v /\ S ss /\ w'.ownsRow w.heap.size 41 2 v ss.length (ss.flatMap ce) /\ Below w.heap.size w w' := by
 have h1 : 1 <= n := by omega
 refine callsIn_of_wp Tryz.func38 rfl hF ?_ hro
 simp only [Tryz.ntmps38, List.size_toArray, List.length_cons, List.length_nil, Nat.reduceAdd, Nat.reduceSub, Array.replicate_succ, Array.replicate_zero, List.push_toArray, List.append_toArray, List.nil_append, List.cons_append]
 gi_wp2_with (gi_at_call 52; refine (appendSeqP F (n - 1) hF2 hro (by omega) g lb hFg eg S Sp N hN hNb _ hseq).mono ?_; rintro e w' ⟨v, ss, rfl, hS, hrow, hb⟩)
 go_ret
 exact ⟨v, ss, rfl, hS, hrow, hb⟩
end Go.Ev
namespace Go.Ev
open Go Go.Proofs Go.Shelf Go.RowKit
set_option maxRecDepth 100000
def R_Sort : Ren := ⟨fun | 6 => 39 | 14 => 53 | 15 => 54 | 20 => 68 | 21 => 69 | 22 => 70 | 23 => 71 | 24 => 72 | 25 => 73 | 26 => 74 | 27 => 75 | 28 => 76 | 29 => 77 | 46 => 87 | 47 => 88 | 48 => 89 | 49 => 90 | 50 => 91 | 57 => 103 | n => n, fun | 0 => 0 | 3 => 3 | 4 => 4 | 5 => 5 | 9 => 9 | 22 => 49 | 24 => 41 | 25 => 70 | 39 => 98 | 45 => 119 | 46 => 120 | 50 => 124 | 53 => 62 | 55 => 128 | 66 => 141 | 70 => 145 | 76 => 154 | 77 => 155 | n => n, fun | n => n⟩
theorem L_Sort : SlLaysF0.n6 Tryz.prog R_Sort := {
 mixed := by kernel_rfl
 f6 := ⟨Tryz.f39.name, by kernel_rfl, Tryz.func39.trans (congrArg some (by kernel_rfl))⟩
 f14 := ⟨Tryz.f53.name, by kernel_rfl, Tryz.func53.trans (congrArg some (by kernel_rfl))⟩
 f15 := Tryz.func54.trans (congrArg some (by kernel_rfl))
 f20 := ⟨Tryz.f68.name, by kernel_rfl, Tryz.func68.trans (congrArg some (by kernel_rfl))⟩
 f21 := ⟨Tryz.f69.name, by kernel_rfl, Tryz.func69.trans (congrArg some (by kernel_rfl))⟩
 f22 := ⟨Tryz.f70.name, by kernel_rfl, Tryz.func70.trans (congrArg some (by kernel_rfl))⟩
 f23 := ⟨Tryz.f71.name, by kernel_rfl, Tryz.func71.trans (congrArg some (by kernel_rfl))⟩
 f24 := ⟨Tryz.f72.name, by kernel_rfl, Tryz.func72.trans (congrArg some (by kernel_rfl))⟩
 f25 := ⟨Tryz.f73.name, by kernel_rfl, Tryz.func73.trans (congrArg some (by kernel_rfl))⟩
 f26 := ⟨Tryz.f74.name, by kernel_rfl, Tryz.func74.trans (congrArg some (by kernel_rfl))⟩
 f27 := ⟨Tryz.f75.name, by kernel_rfl, Tryz.func75.trans (congrArg some (by kernel_rfl))⟩
 f28 := Tryz.func76.trans (congrArg some (by kernel_rfl))
 f29 := Tryz.func77.trans (congrArg some (by kernel_rfl))
 f46 := ⟨Tryz.f87.name, by kernel_rfl, Tryz.func87.trans (congrArg some (by kernel_rfl))⟩
 f47 := Tryz.func88.trans (congrArg some (by kernel_rfl))
 f48 := Tryz.func89.trans (congrArg some (by kernel_rfl))
 f49 := ⟨Tryz.f90.name, by kernel_rfl, Tryz.func90.trans (congrArg some (by kernel_rfl))⟩
 f50 := ⟨Tryz.f91.name, by kernel_rfl, Tryz.func91.trans (congrArg some (by kernel_rfl))⟩
 f57 := ⟨Tryz.f103.name, by kernel_rfl, Tryz.func103.trans (congrArg some (by kernel_rfl))⟩
 t0 := Tryz.underlying0
 a0 := Tryz.isAgg0
 z0 := Tryz.sizeOf0
 v0 := Tryz.zeroValue0
 t3 := Tryz.underlying3
 a3 := Tryz.isAgg3
 z3 := Tryz.sizeOf3
 v3 := Tryz.zeroValue3
 t4 := Tryz.underlying4
 a4 := Tryz.isAgg4
 z4 := Tryz.sizeOf4
 v4 := Tryz.zeroValue4
 t5 := Tryz.underlying5
 a5 := Tryz.isAgg5
 z5 := Tryz.sizeOf5
 v5 := Tryz.zeroValue5
 t9 := Tryz.underlying9
 a9 := Tryz.isAgg9
 z9 := Tryz.sizeOf9
 v9 := Tryz.zeroValue9
 t22 := Tryz.underlying49
 a22 := Tryz.isAgg49
 z22 := Tryz.sizeOf49
 v22 := Tryz.zeroValue49
 t25 := Tryz.underlying70
 a25 := Tryz.isAgg70
 z25 := Tryz.sizeOf70
 v25 := Tryz.zeroValue70
 t39 := Tryz.underlying98
 a39 := Tryz.isAgg98
 z39 := Tryz.sizeOf98
 v39 := Tryz.zeroValue98
 t45 := Tryz.underlying119
 a45 := Tryz.isAgg119
 z45 := Tryz.sizeOf119
 v45 := Tryz.zeroValue119
 t46 := Tryz.underlying120
 a46 := Tryz.isAgg120
 z46 := Tryz.sizeOf120
 v46 := Tryz.zeroValue120
 t50 := Tryz.underlying124
 a50 := Tryz.isAgg124
 z50 := Tryz.sizeOf124
 v50 := Tryz.zeroValue124
 t53 := Tryz.underlying62
 a53 := Tryz.isAgg62
 z53 := Tryz.sizeOf62
 v53 := Tryz.zeroValue62
 t55 := Tryz.underlying128
 a55 := Tryz.isAgg128
 z55 := Tryz.sizeOf128
 v55 := Tryz.zeroValue128
 t66 := Tryz.underlying141
 a66 := Tryz.isAgg141
 z66 := Tryz.sizeOf141
 v66 := Tryz.zeroValue141
 t70 := Tryz.underlying145
 a70 := Tryz.isAgg145
 z70 := Tryz.sizeOf145
 v70 := Tryz.zeroValue145
 t76 := Tryz.underlying154
 a76 := Tryz.isAgg154
 z76 := Tryz.sizeOf154
 v76 := Tryz.zeroValue154
 t77 := Tryz.underlying155
 a77 := Tryz.isAgg155
 z77 := Tryz.sizeOf155
 v77 := Tryz.zeroValue155 }
end Go.Ev
namespace Go.Ev
open Go Go.Proofs Go.Shelf Go.RowKit
open Go.Sort (flatK HoldsK putRowK)
set_option maxRecDepth 100000
theorem flat_get {k : Nat} : ∀ {d : List (List Value)}, (∀ c ∈ d, c.length = k) -> ∀ t, t < d.length * k -> d.flatten[t]? = ((d[t / k]?).getD [])[t % k]?
 | [], _, t, h => by simp at h
 | c :: d, hd, t, h => by
  have hc := hd c List.mem_cons_self
  have hk : 0 < k := by
   rcases Nat.eq_zero_or_pos k with h0 | h0
   ·subst h0; simp at h
   ·exact h0
  rw [List.flatten_cons]
  by_cases ht : t < k
  ·rw [List.getElem?_append_left (by omega), Nat.div_eq_of_lt ht, Nat.mod_eq_of_lt ht]
   rfl
  ·have e1 : t / k = (t - k) / k + 1 := by rw [<- Nat.add_div_right _ hk]; congr 1; omega
   have e2 : t % k = (t - k) % k := by rw [<- Nat.add_mod_right (t - k) k]; congr 1; omega
   rw [List.getElem?_append_right (by omega), hc, flat_get (fun c hc => hd c (List.mem_cons_of_mem _ hc)) (t - k) (by rw [List.length_cons, Nat.succ_mul] at h; omega), e1, e2]
   rfl
theorem heap_mapB (w : World) (g b : Nat) (f : Array Value -> Array Value) : (Go.Sort.mapBlock w g f).heap[b]? = if g = b then (w.heap[b]?).map (Go.Sort.onCells f) else w.heap[b]? := by
 unfold Go.Sort.mapBlock
 exact Array.getElem?_modify
theorem held {w : World} {M : Nat -> Prop} {t : Ty} {e g cap : Nat} {xs : List t.el} {cells : List Value} (hown : w.ownsRow 0 e t.cells (.slice (some ⟨g, 0, none⟩) xs.length cap) xs.length cells) : Go.Sort.Holds id w g 0 cells.toArray := by
 rcases hown.2 with ⟨hv, _⟩ | ⟨g', cap', cur, hv, hb0, hh, hle, hmax, hcur, htk⟩
 ·cases hv
 cases hv
 intro j hj
 have hj' : j < cells.length := by simpa using hj
 rw [Nat.zero_add]
 refine ⟨?_, by simp [World.frozen?, hh]⟩
 have h1 := hown.cells (g := g) rfl j cells[j] (List.getElem?_eq_getElem hj')
 rw [add_mk, Nat.zero_add] at h1
 rw [h1, getElem!_pos _ j hj]
 rfl
end Go.Ev
namespace Go.Ev
open Go Go.Proofs Go.RowKit Go.Shelf Go.Sort
theorem flatK_eq {α : Type} [Inhabited α] {k : Nat} (enc : α -> List Value) (hk : ∀ x, (enc x).length = k) (d : Array α) : flatK enc k d = (d.toList.flatMap enc).toArray := by
 have hl : (d.toList.map enc).flatten.length = d.size * k := by
  rw [List.length_flatten, List.map_map]
  have : (List.length ∘ enc) = fun _ => k := funext hk
  have hsum : ∀ l : List α, (l.map fun _ => k).sum = l.length * k := fun l => by
   induction l with
   | nil => simp
   | cons a l ih => rw [List.map_cons, List.sum_cons, ih, List.length_cons, Nat.succ_mul, Nat.add_comm]
  rw [this, hsum]
  simp
 apply Array.ext'
 apply List.ext_getElem?
 intro t
 show _ = (d.toList.flatMap enc)[t]?
 rw [List.flatMap_def]
 by_cases ht : t < d.size * k
 ·have hk0 : 0 < k := by
   rcases Nat.eq_zero_or_pos k with h0 | h0
   ·subst h0; simp at ht
   ·exact h0
  have hq : t / k < d.size := Nat.div_lt_of_lt_mul (by rw [Nat.mul_comm]; exact ht)
  have hr : t % k < k := Nat.mod_lt _ hk0
  rw [flat_get (k := k) (fun c hc => by obtain ⟨x, _, rfl⟩ := List.mem_map.1 hc; exact hk x) t (by simpa using ht), Array.getElem?_toList]
  unfold flatK
  rw [Array.getElem?_map, Array.getElem?_range, if_pos ht]
  simp only [Option.map_some, List.getElem?_map, Array.getElem?_toList]
  rw [Array.getElem?_eq_getElem hq]
  simp only [Option.map_some, Option.getD_some]
  rw [getElem!_pos d _ hq, List.getElem?_eq_getElem (by rw [hk]; exact hr)]
  simp [hk, hr]
 ·rw [List.getElem?_eq_none (by simp [flatK]; omega), List.getElem?_eq_none (by rw [hl]; omega)]
section
variable {α : Type} [Inhabited α] {enc : α -> List Value} {w : World} {g cap n m : Nat} {cells : List Value} {base e : Nat} {os : Array Obj}
theorem row_holdsK (hk : ∀ x, (enc x).length = 2) {d : Array α} (hown : w.ownsRow base e 2 (.slice (some ⟨g, 0, none⟩) n cap) n (d.toList.flatMap enc)) : HoldsK enc 2 w g 0 d := by
 show Go.Sort.Holds id w g 0 (flatK enc 2 d)
 rw [flatK_eq enc hk]
 rcases hown.2 with ⟨hv, _⟩ | ⟨g', cap', cur, hv, hb0, hh, hle, hmax, hcur, htk⟩
 ·cases hv
 cases hv
 intro j hj
 have hj' : j < (d.toList.flatMap enc).length := by simpa using hj
 rw [Nat.zero_add]
 refine ⟨?_, by simp [World.frozen?, hh]⟩
 have h1 := hown.cells (g := g) rfl j _ (List.getElem?_eq_getElem hj')
 rw [add_mk, Nat.zero_add] at h1
 rw [h1, getElem!_pos _ j hj]
 rfl
theorem sorted_row (hk : ∀ x, (enc x).length = 2) {d : Array α} (hs : d.size = n) (hown : w.ownsRow base e 2 (.slice (some ⟨g, 0, none⟩) n cap) n cells) :
  (sortWorldK enc 2 w g 0 m d os).ownsRow base e 2 (.slice (some ⟨g, 0, none⟩) n cap) n (d.toList.flatMap enc) /\ (∀ j, j < w.heap.size -> j ≠ g -> (sortWorldK enc 2 w g 0 m d os).heap[j]? = w.heap[j]?) := by
 rcases hown.2 with ⟨hv, _⟩ | ⟨g', cap', cur, hv, hb0, hh, hle, hmax, hcur, htk⟩
 ·cases hv
 cases hv
 have hgl : g < w.heap.size := (Array.getElem?_eq_some_iff.1 hh).1
 have hlen : (d.toList.flatMap enc).length = n * 2 := by
  have := congrArg Array.size (flatK_eq enc hk d)
  rw [size_flatK, hs] at this
  simpa using this.symm
 have hrow : ∀ j, j < w.heap.size -> (sortWorldK enc 2 w g 0 m d os).heap[j]? = if g = j then (w.heap[j]?).map (Go.Sort.onCells (Go.Sort.putCells id 0 (flatK enc 2 d))) else w.heap[j]? := by
  intro j hj
  unfold sortWorldK
  rw [heap_grow_old _ _ (by simpa [putRowK, Go.Sort.size_putRow] using hj)]
  unfold putRowK Go.Sort.putRow
  rw [heap_mapB]
  rfl
 refine ⟨⟨hlen, .inr ⟨g, cap, _, rfl, hb0, by rw [hrow g hgl, if_pos rfl, hh]; rfl, hle, hmax, by simp [Go.Sort.putCells, hcur], ?_⟩⟩, fun j hj hne => by rw [hrow j hj, if_neg (fun e => hne e.symm)]⟩
 apply List.ext_getElem?
 intro j
 rw [flatK_eq enc hk]
 have hsz : n * 2 <= cur.size := by rw [hcur]; exact Nat.mul_le_mul_right _ hle
 by_cases hj : j < n * 2
 ·have hj2 : j < cur.size := by omega
  have hj3 : j < (d.toList.flatMap enc).length := by omega
  rw [List.getElem?_take_of_lt hj, Array.getElem?_toList]
  unfold Go.Sort.putCells
  rw [Array.getElem?_mapIdx, Array.getElem?_eq_getElem hj2, Option.map_some, if_pos ⟨Nat.zero_le _, by simpa using hj3⟩, List.getElem?_eq_getElem hj3]
  simp only [Nat.sub_zero, id]
  rw [getElem!_pos _ j (by simpa using hj3)]
  simp
 ·rw [List.getElem?_eq_none (by simp; omega), List.getElem?_eq_none (by omega)]
end
theorem sub_list {α : Type} {p : α -> Prop} : ∀ (l : List α), (∀ x ∈ l, p x) -> ∃ d : List {x // p x}, d.map (·.1) = l
 | [], _ => ⟨[], rfl⟩
 | x :: l, h => let ⟨d, hd⟩ := sub_list l fun y hy => h y (List.mem_cons_of_mem _ hy); ⟨⟨x, h x List.mem_cons_self⟩ :: d, by simp [hd]⟩
set_option maxRecDepth 100000 in
set_option maxHeartbeats 4000000 in
theorem sortedFuncP (Bm b : Nat) (es : Array MapEntry) (clock : Nat) (ks : List (Int × Int × Unit)) (w : World) (hBm : Bm < w.heap.size) (hm : w.cell? ⟨Bm, 0, none⟩ = some (.map (some b)))
  (hb : w.heap[b]? = some (.map es clock)) (hborn : ∀ e ∈ es.toList, e.born < clock) (hnd : (es.toList.map (·.born)).Nodup) (hk : es.toList.map (·.key) = ks.map encP) (hN : ks.length <= maxLen) (hNb : ks.length * 8 <= 140737488355328)
  (c : (Int × Int × Unit) -> (Int × Int × Unit) -> Option Int) (hgood : good c ks = true) (g : Nat) (cb : Array Value) (eg : ∀ args w, (callFunc g args).run Tryz.prog w = .ok (.enter g args) w)
  (hcmp : ∀ W : World, W.os = w.os -> W.tape = w.tape -> W.output = w.output -> w.heap.size <= W.heap.size -> (∀ j, j < w.heap.size -> W.heap[j]? = w.heap[j]?) -> ∀ x y n, c x y = some n ->
   Calls Tryz.prog g (#[encP x, encP y] ++ cb) W fun e W' => e = .returned (.int .i64 n) /\ ∃ q os, W' = grow (W.drewN q) os) :
  Calls Tryz.prog 23 #[.func (.func 40) #[] #[.pointer (some ⟨Bm, 0, none⟩)], .func (.func g) #[] cb] w fun e w' =>
   ∃ v, e = .returned v /\ w'.ownsRow w.heap.size 41 2 v ks.length ((isort (ltO c) ks).flatMap ce) /\ Below w.heap.size w w' := by
 have hes : es.size = ks.length := by
  have := congrArg List.length hk
  simpa using this
 obtain ⟨hparts, htot⟩ := good_parts hgood
 refine (callsIn_wide (n := 6)).1 ?_
 refine callsIn_of_wp Tryz.func23 rfl trivial ?_ rfl
 simp only [Tryz.ntmps23, List.size_toArray, List.length_cons, List.length_nil, Nat.reduceAdd, Nat.reduceSub, Array.replicate_succ, Array.replicate_zero, List.push_toArray, List.append_toArray, List.nil_append, List.cons_append]
 have hcol := collectP Fence.wide 5 trivial trivial rfl (by omega) 40 #[.pointer (some ⟨Bm, 0, none⟩)] trivial (enters_of Tryz.func40 (by kernel_rfl) rfl) (fun ss => ss.Perm ks) (fun _ => True) es.size (by omega) (by omega) w (keysP_stops Fence.wide 3 trivial rfl (by omega) Bm b es clock ks w hBm hm hb hborn hnd hk)
 gi_wp2_with (refine ⟨trivial, ?_⟩; gi_at_call 38; refine hcol.mono ?_; rintro e W ⟨v, ss, rfl, hS, hrow, hbelow⟩)
 have hlen : ss.length = ks.length := hS.length_eq
 obtain ⟨W', hsort, hrow', hb'⟩ : ∃ R : World -> Prop, Calls Tryz.prog 39 #[v, .func (.func g) #[] cb] W (fun e W' => e = .returned (.tuple #[]) /\ R W') /\
   (∀ W', R W' -> W'.ownsRow w.heap.size 41 2 v ks.length ((isort (ltO c) ks).flatMap ce)) /\ (∀ W', R W' -> Below w.heap.size w W') := by
  by_cases h0 : ss = []
  ·have hks : ks = [] := List.eq_nil_of_length_eq_zero (by rw [<- hlen, h0]; rfl)
   subst h0
   refine ⟨fun W' => W' = W, ?_, fun W' e => ?_, fun W' e => by rw [e]; exact hbelow⟩
   ·have hv : ∃ p cap, v = .slice p 0 cap := by
     rcases hrow.2 with ⟨hv, _⟩ | ⟨g', cap, cur, hv, _⟩
     ·exact ⟨none, 0, hv⟩
     ·exact ⟨_, cap, hv⟩
    obtain ⟨p, cap, rfl⟩ := hv
    exact AnyF.slices_SortFunc_none (P := Tryz.prog) (ρ := R_Sort) L_Sort p cap _ W
   ·rw [e, hks]
    exact hrow
  ·rcases hrow.2 with ⟨_, hz⟩ | ⟨g', cap, cur, hv, hbase, hgb, hle, hmax, hcur, htk⟩
   ·exact absurd (List.eq_nil_of_length_eq_zero hz) h0
   subst hv
   have hgl : g' < W.heap.size := (Array.getElem?_eq_some_iff.1 hgb).1
   obtain ⟨x0, hx0⟩ := List.exists_mem_of_ne_nil ss h0
   haveI : Inhabited {x // x ∈ ks} := ⟨⟨x0, hS.mem_iff.1 hx0⟩⟩
   obtain ⟨d, hd⟩ : ∃ d : Array {x // x ∈ ks}, d.toList.map (·.1) = ss := let ⟨l, hl⟩ := sub_list ss fun x hx => hS.mem_iff.1 hx; ⟨l.toArray, hl⟩
   have hds : d.size = ss.length := by have := congrArg List.length hd; simpa using this
   obtain ⟨enc, henc⟩ : ∃ enc : {x // x ∈ ks} -> List Value, enc = fun x => ce x.1 := ⟨_, rfl⟩
   have hek : ∀ x, (enc x).length = 2 := fun x => by rw [henc]; rfl
   have hfm : ∀ l : List {x // x ∈ ks}, l.flatMap enc = (l.map (·.1)).flatMap ce := fun l => by rw [henc, List.flatMap_map]
   obtain ⟨cf, hcf⟩ : ∃ cf : {x // x ∈ ks} -> {x // x ∈ ks} -> Int, cf = fun x y => (c x.1 y.1).getD 0 := ⟨_, rfl⟩
   have hcv : ∀ x y, c x.1 y.1 = some (cf x y) := fun x y => by
    obtain ⟨n, hn⟩ := htot x.1 x.2 y.1 y.2
    rw [hcf]; simp only [hn]; rfl
   have hlt : ∀ x y, ltOf cf x y = ltO c x.1 y.1 := fun x y => by unfold ltOf ltO; rw [hcv]
   have hO := hparts.swo hlt
   have hrow2 : W.ownsRow w.heap.size 41 2 (.slice (some ⟨g', 0, none⟩) ss.length cap) ss.length (d.toList.flatMap enc) := by rw [hfm, hd]; exact hrow
   have hH : HoldsK enc 2 W g' 0 d := row_holdsK hek hrow2
   have h1c : ∀ x, ∀ u ∈ enc x, u.oneCell' = true := fun x u hu => by rw [henc] at hu; simp [ce] at hu; rcases hu with rfl | rfl <;> rfl
   have hC : CmpLays Tryz.prog g cb enc 2 cf g' 0 d.size W := by
    intro m os dk hdk x y
    have hss := sorted_row (m := m) (os := os) hek (d := dk) (n := ss.length) (by omega) hrow
    have hrw : #[Value.agg (enc x).toArray, Value.agg (enc y).toArray] ++ cb = #[encP x.1, encP y.1] ++ cb := by rw [henc]; rfl
    rw [hrw]
    refine hcmp (sortWorldK enc 2 W g' 0 m dk os) hbelow.os hbelow.tape hbelow.output ?_ (fun j hj => ?_) x.1 y.1 _ (hcv x y)
    ·refine Nat.le_trans hbelow.size ?_
     unfold sortWorldK
     rw [size_grow]
     exact Nat.le_trans (by simp [putRowK, Go.Sort.size_putRow]) (Nat.le_add_right _ _)
    ·rw [hss.2 j (Nat.lt_of_lt_of_le hj hbelow.size) (by omega)]
     exact hbelow.block j hj
   have hsf := AnyQ.slices_SortFunc (P := Tryz.prog) (ρ := R_Sort) L_Sort 2 Tryz.isAgg41 Tryz.sizeOf41 enc hek h1c cf hO g cb g' 0 cap d W eg hC hH hgl (by omega)
   rw [hds] at hsf
   refine ⟨fun W' => ∃ d' : Array {x // x ∈ ks}, ∃ n os, d'.toList.map (·.1) = isort (ltO c) ks /\ d'.size = ss.length /\ W' = sortWorldK enc 2 W g' 0 n d' os, hsf.mono ?_, ?_, ?_⟩
   ·rintro e W' ⟨rfl, d', n, os, hp, hso, rfl⟩
    have hp' := permIn_perm (show PermIn 0 d.size d d' by rw [hds]; exact hp)
    have hso' := sortedIn_pairwise (show SortedIn (ltOf cf) 0 d'.size d' by rw [hp'.2, hds]; exact hso)
    refine ⟨rfl, d', n, os, isort_eq hparts (fun y hy => hy) ?_ ?_, by rw [hp'.2, hds], rfl⟩
    ·exact ((hp'.1.map (·.1)).trans (by rw [hd])).trans hS
    ·rw [List.pairwise_map]
     exact hso'.imp fun h => by rw [<- hlt]; exact h
   ·rintro W' ⟨d', n, os, he, hsz, rfl⟩
    have := (sorted_row (m := n) (os := os) hek (d := d') hsz hrow).1
    rw [hfm, he, hlen] at this
    rw [hlen]
    exact this
   ·rintro W' ⟨d', n, os, he, hsz, rfl⟩
    have h2 := (sorted_row (m := n) (os := os) hek (d := d') hsz hrow).2
    refine ⟨hbelow.os, hbelow.tape, hbelow.output, ?_, fun j hj => ?_⟩
    ·refine Nat.le_trans hbelow.size ?_
     unfold sortWorldK
     rw [size_grow]
     exact Nat.le_trans (by simp [putRowK, Go.Sort.size_putRow]) (Nat.le_add_right _ _)
    ·rw [h2 j (Nat.lt_of_lt_of_le hj hbelow.size) (by omega)]
     exact hbelow.block j hj
 have hsort' := (callsIn_wide (n := 5)).2 hsort
 gi_wp2_with (refine ⟨trivial, ?_⟩; gi_at_call 39; refine hsort'.mono ?_; rintro e W2 ⟨rfl, hR⟩)
 go_ret
 exact ⟨_, rfl, hrow' _ hR, hb' _ hR⟩
end Go.Ev
