/- Plain laws: the reference's tables, its first alignments, its words aligned. -/
import Derived.Test.YtmnhnlojmffcfaaGreatDoorMM7
import Derived.Test.YtmnhnlojmffcfaaGreatDoorMM5
import Derived.Test.YtmnhnlojmffcfaaGreatDoorMM4
import Derived.OpenShut
import Derived.WideShapes
set_option linter.unusedSectionVars false
set_option linter.unusedVariables false
set_option linter.unusedSimpArgs false
namespace Go.Ev
open Go
set_option linter.unusedVariables false
def Tab (C : List (List Int)) (X Y i : Nat) : Prop := C.length = X + 1 /\ ∀ p, i <= p -> p <= X -> (C.getD p []).length = Y + 1
theorem Tab.row {C : List (List Int)} {X Y i : Nat} (h : Tab C X Y i) {p : Nat} (hp : i <= p) (hX : p <= X) : at? C (p : Int) = some (C.getD p []) := by
 rw [at_lt (by rw [h.1]; omega), List.getD_eq_getElem?_getD, List.getElem?_eq_getElem (by rw [h.1]; omega)]
 rfl
theorem Tab.at2 {C : List (List Int)} {X Y i : Nat} (h : Tab C X Y i) {p q : Nat} (hp : i <= p) (hX : p <= X) (hq : q <= Y) : at? (C.getD p []) (q : Int) = some (get2 C p q) := by
 have := h.2 p hp hX
 rw [at_lt (by omega)]
 unfold get2
 rw [List.getD_eq_getElem?_getD (l := C.getD p []), List.getElem?_eq_getElem (by omega)]
 rfl
theorem getD_set {α : Type} (l : List α) (i j : Nat) (v d : α) (hi : i < l.length) : (l.set i v).getD j d = if j = i then v else l.getD j d := by
 rw [List.getD_eq_getElem?_getD, List.getD_eq_getElem?_getD, List.getElem?_set]
 by_cases h : i = j
 ·subst h
  rw [if_pos rfl, if_pos hi, if_pos rfl]
  rfl
 ·rw [if_neg h, if_neg (fun e => h e.symm)]
theorem Tab.set {C : List (List Int)} {X Y i : Nat} (h : Tab C X Y i) {p q : Nat} (hp : i <= p) (hX : p <= X) (v : Int) : Tab (set2 C p q v) X Y i := by
 refine ⟨by unfold set2; rw [List.length_set]; exact h.1, fun r hr hr' => ?_⟩
 unfold set2
 rw [getD_set _ _ _ _ _ (by rw [h.1]; omega)]
 split
 ·rw [List.length_set]; exact h.2 p hp hX
 ·exact h.2 r hr hr'
theorem Tab.get_set {C : List (List Int)} {X Y i : Nat} (h : Tab C X Y i) {p q p' q' : Nat} (hp : i <= p) (hX : p <= X) (hq : q <= Y) (v : Int) : get2 (set2 C p q v) p' q' = if p' = p /\ q' = q then v else get2 C p' q' := by
 unfold get2 set2
 rw [getD_set _ _ _ _ _ (by rw [h.1]; omega)]
 by_cases e : p' = p
 ·subst e
  rw [if_pos rfl, getD_set _ _ _ _ _ (by rw [h.2 p' hp hX]; omega)]
  by_cases e2 : q' = q
  ·rw [if_pos e2, if_pos ⟨rfl, e2⟩]
  ·rw [if_neg e2, if_neg (fun hh => e2 hh.2)]
 ·rw [if_neg e, if_neg (fun hh => e hh.1)]
theorem Tab.new {C : List (List Int)} {X Y i : Nat} (h : Tab C X Y (i + 1)) (hi : i <= X) : Tab (C.set i (List.replicate (Y + 1) (0 : Int))) X Y i := by
 refine ⟨by rw [List.length_set]; exact h.1, fun p hp hX => ?_⟩
 rw [getD_set _ _ _ _ _ (by rw [h.1]; omega)]
 split
 ·simp
 ·exact h.2 p (by omega) hX
section
variable {a : Alph} {x y : List Int} {R3 R4 : List (List Int)} {i k : Nat} {n : Nat}
abbrev Go2 : Type := Int -> List (List UInt8) -> List (Int × Int × Int × Unit) -> List (List Int) -> List (List Int) -> Option (List (List Int) × List (List Int))
abbrev Go3 : Type := Int -> Int -> Int -> Option (List (List Int) × List (List Int))
def bst (b c : Int) : Int := if b < 0 \/ c < b then c else b
theorem Table_j9 (go3 : Go3) (way b m : Int) {v c : Int} {p q : Nat} (h4 : Tab R4 x.length y.length i) (hp : i <= p) (hpx : p <= x.length) (hq : q <= y.length) :
  ∃ m', r21_Table_j9 v c (p : Int) R4 (q : Int) go3 way b m (decide (b < (0 : Int)) || (decide ((wi64 (v + c)) < b))) = go3 (bst b (wi64 (v + c))) m' (wi64 (way + 1)) := by
 have j8 : ∀ b m, ∃ m', r21_Table_j8 v c (p : Int) R4 (q : Int) go3 way b m = go3 b m' (wi64 (way + 1)) := by
  intro b m
  unfold r21_Table_j8 zeh
  split
  ·have hl := h4.1
   have hr := h4.2 p hp hpx
   rw [chk_of (by omega), h4.row hp hpx]
   simp only [Option.bind_some]
   rw [chk_of (by omega), h4.at2 hp hpx hq]
   simp only [Option.bind_some]
   exact ⟨_, rfl⟩
  ·exact ⟨_, rfl⟩
 unfold r21_Table_j9
 unfold bst
 by_cases h : b < 0 \/ wi64 (v + c) < b
 ·rw [if_pos (by simpa using h), if_pos h]
  exact j8 _ _
 ·rw [if_neg (by simpa using h), if_neg h]
  exact j8 _ _
theorem Table_j7 (go3 : Go3) (way b m : Int) {s t : Int} {v : Int} (hv : r21_Of 80000 a s t = some v) {p q : Nat} (h3 : Tab R3 x.length y.length i) (h4 : Tab R4 x.length y.length i) (hp : i <= p) (hpx : p <= x.length) (hq : q <= y.length) :
  ∃ m', zei 80000 go3 way b m a.1 a.2.1 s t (p : Int) R3 (q : Int) R4 false = go3 (bst b (wi64 (v + get2 R3 p q))) m' (wi64 (way + 1)) := by
 unfold zei
 rw [if_neg (by simp), show r21_Of 80000 ((a.1, a.2.1, ()) : Alph) s t = some v from hv]
 simp only [Option.bind_some]
 have hl := h3.1
 have hr := h3.2 p hp hpx
 rw [chk_of (by omega), h3.row hp hpx]
 simp only [Option.bind_some]
 rw [chk_of (by omega), h3.at2 hp hpx hq]
 simp only [Option.bind_some]
 exact Table_j9 (x := x) (y := y) go3 way b m h4 hp hpx hq
variable (ha : chkA a = true) (hx : ∀ r ∈ x, r ∈ lsOf a) (hy : ∀ r ∈ y, r ∈ lsOf a) (hxl : x.length <= 64) (hyl : y.length <= 64)
include ha hx hy hxl hyl
theorem Table_l3 (go2 : Go2) (h3 : Tab R3 x.length y.length i) (h4 : Tab R4 x.length y.length i) (hi : i <= x.length) (hk : k <= y.length) (hne : ¬ (i = x.length /\ k = y.length))
  (hC : ∀ p q, i <= p -> p <= x.length -> q <= y.length -> (i < p \/ k < q) -> get2 R3 p q = costL a (x.drop p) (y.drop q)) :
  ∃ m, zeo 80000 x (i : Int) y (k : Int) a.1 a.2.1 R3 R4 go2 80000 (-1 : Int) (0 : Int) (0 : Int) = go2 (wi64 ((k : Int) - 1)) a.1 a.2.1 (set2 R3 i k (costL a (x.drop i) (y.drop k))) (set2 R4 i k m) := by
 have bd : ∀ p q, 0 <= costL a (x.drop p) (y.drop q) /\ costL a (x.drop p) (y.drop q) <= 640 := fun p q => by
  have := costL_bd a _ (x.drop p) (y.drop q) (Nat.le_refl _)
  simp only [List.length_drop] at this
  omega
 have z := zero_not ha
 have xk : ∀ (h : i < x.length), x[i]'h ∈ lsOf a /\ x[i]'h ≠ 0 := fun h => ⟨hx _ (List.getElem_mem h), fun e => z (e ▸ hx _ (List.getElem_mem h))⟩
 have yk : ∀ (h : k < y.length), y[k]'h ∈ lsOf a /\ y[k]'h ≠ 0 := fun h => ⟨hy _ (List.getElem_mem h), fun e => z (e ▸ hy _ (List.getElem_mem h))⟩
 -- both
 have w0 : ∀ n (b m : Int), ∃ m', zeo 80000 x (i : Int) y (k : Int) a.1 a.2.1 R3 R4 go2 (n + 1) b m 0 = zeo 80000 x (i : Int) y (k : Int) a.1 a.2.1 R3 R4 go2 n (if h : i < x.length /\ k < y.length then bst b (frV a (x[i]'h.1) (y[k]'h.2) + costL a (x.drop (i + 1)) (y.drop (k + 1))) else b) m' 1 := by
  intro n b m
  conv => enter [1, m', 1]; unfold zeo r21_Table_b3
  rw [if_pos (by decide)]
  unfold r21_Table_j12
  by_cases h1 : i < x.length
  ·rw [if_pos (by simp only [Bool.and_eq_true, decide_eq_true_eq]; omega), at_lt h1]
   simp only [Option.bind_some]
   unfold zen zem
   by_cases h2 : k < y.length
   ·rw [if_pos (by simp only [Bool.and_eq_true, decide_eq_true_eq, bne_iff_ne]; omega), at_lt h2]
    simp only [Option.bind_some]
    unfold zel zek
    rw [if_neg (by simp [(xk h1).2])]
    unfold zej
    rw [show ((y[k]'h2 == (0 : Int)) && ((0 : Int) != 1)) = false from by simp [(yk h2).2]]
    rw [zfr (by omega), zfr (by omega)]
    obtain ⟨m', e⟩ := Table_j7 (x := x) (y := y) (zeo 80000 x (i : Int) y (k : Int) a.1 a.2.1 R3 R4 go2 n) 0 b m (refOf_val ha (.inr (xk h1).1) (.inr (yk h2).1)) (p := i + 1) (q := k + 1) h3 h4 (by omega) h1 h2
    refine ⟨m', ?_⟩
    rw [e, dif_pos ⟨h1, h2⟩, hC _ _ (by omega) h1 h2 (.inl (by omega))]
    have hb := bd (i + 1) (k + 1)
    have hf := far_bd a (x[i]'h1) (y[k]'h2)
    rw [wi64_of (x := frV a (x[i]'h1) (y[k]'h2) + costL a (x.drop (i + 1)) (y.drop (k + 1))) (by omega)]
    rfl
   ·rw [if_neg (by simp only [Bool.and_eq_true, decide_eq_true_eq, bne_iff_ne]; omega)]
    unfold zel zek
    rw [if_neg (by simp [(xk h1).2])]
    unfold zej
    rw [show (((0 : Int) == (0 : Int)) && ((0 : Int) != 1)) = true from by decide]
    unfold zei zeh
    rw [if_pos rfl]
    exact ⟨m, by rw [dif_neg (fun h => h2 h.2)]; rfl⟩
  ·rw [if_neg (by simp only [Bool.and_eq_true, decide_eq_true_eq]; omega)]
   unfold zen zem
   have j5 : ∀ q t, zel 80000 (zeo 80000 x (i : Int) y (k : Int) a.1 a.2.1 R3 R4 go2 n) (0 : Int) b m a.1 a.2.1 (0 : Int) (i : Int) R3 R4 q t = zeo 80000 x (i : Int) y (k : Int) a.1 a.2.1 R3 R4 go2 n b m 1 := by
    intro q t
    unfold zel zek
    rw [if_pos (by decide)]
    unfold zei zeh
    rw [if_pos rfl]
    rfl
   refine ⟨m, ?_⟩
   rw [dif_neg (fun h => h1 h.1)]
   by_cases h2 : k < y.length
   ·rw [if_pos (by simp only [Bool.and_eq_true, decide_eq_true_eq, bne_iff_ne]; omega), at_lt h2]
    simp only [Option.bind_some]
    exact j5 _ _
   ·rw [if_neg (by simp only [Bool.and_eq_true, decide_eq_true_eq, bne_iff_ne]; omega)]
    exact j5 _ _
 -- a letter over none
 have w1 : ∀ n (b m : Int), ∃ m', zeo 80000 x (i : Int) y (k : Int) a.1 a.2.1 R3 R4 go2 (n + 1) b m 1 = zeo 80000 x (i : Int) y (k : Int) a.1 a.2.1 R3 R4 go2 n (if i < x.length then bst b (5 + costL a (x.drop (i + 1)) (y.drop k)) else b) m' 2 := by
  intro n b m
  conv => enter [1, m', 1]; unfold zeo r21_Table_b3
  rw [if_pos (by decide)]
  unfold r21_Table_j12
  by_cases h1 : i < x.length
  ·rw [if_pos (by simp only [Bool.and_eq_true, decide_eq_true_eq]; omega), at_lt h1]
   simp only [Option.bind_some]
   unfold zen zem
   rw [if_neg (by simp)]
   unfold zel zek
   rw [if_neg (by simp [(xk h1).2])]
   unfold zej
   rw [show (((0 : Int) == (0 : Int)) && ((1 : Int) != 1)) = false from by decide]
   rw [zfr (by omega)]
   obtain ⟨m', e⟩ := Table_j7 (x := x) (y := y) (zeo 80000 x (i : Int) y (k : Int) a.1 a.2.1 R3 R4 go2 n) 1 b m (refOf_val ha (.inr (xk h1).1) (.inl rfl)) (p := i + 1) (q := k) h3 h4 (by omega) h1 hk
   refine ⟨m', ?_⟩
   rw [e, if_pos h1, hC _ _ (by omega) h1 hk (.inl (by omega)), frV_left a (xk h1).2]
   have hb := bd (i + 1) k
   rw [wi64_of (x := 5 + costL a (x.drop (i + 1)) (y.drop k)) (by omega)]
   rfl
  ·rw [if_neg (by simp only [Bool.and_eq_true, decide_eq_true_eq]; omega)]
   unfold zen zem
   rw [if_neg (by simp)]
   unfold zel zek
   rw [if_pos (by decide)]
   unfold zei zeh
   rw [if_pos rfl]
   exact ⟨m, by rw [if_neg h1]; rfl⟩
 -- none over a letter
 have w2 : ∀ n (b m : Int), ∃ m', zeo 80000 x (i : Int) y (k : Int) a.1 a.2.1 R3 R4 go2 (n + 1) b m 2 = zeo 80000 x (i : Int) y (k : Int) a.1 a.2.1 R3 R4 go2 n (if k < y.length then bst b (5 + costL a (x.drop i) (y.drop (k + 1))) else b) m' 3 := by
  intro n b m
  conv => enter [1, m', 1]; unfold zeo r21_Table_b3
  rw [if_pos (by decide)]
  unfold r21_Table_j12
  rw [if_neg (by simp)]
  unfold zen zem
  by_cases h2 : k < y.length
  ·rw [if_pos (by simp only [Bool.and_eq_true, decide_eq_true_eq, bne_iff_ne]; omega), at_lt h2]
   simp only [Option.bind_some]
   unfold zel zek
   rw [if_neg (by decide)]
   unfold zej
   rw [show ((y[k]'h2 == (0 : Int)) && ((2 : Int) != 1)) = false from by simp [(yk h2).2]]
   rw [zfr (by omega)]
   obtain ⟨m', e⟩ := Table_j7 (x := x) (y := y) (zeo 80000 x (i : Int) y (k : Int) a.1 a.2.1 R3 R4 go2 n) 2 b m (refOf_val ha (.inl rfl) (.inr (yk h2).1)) (p := i) (q := k + 1) h3 h4 (Nat.le_refl _) hi h2
   refine ⟨m', ?_⟩
   rw [e, if_pos h2, hC _ _ (Nat.le_refl _) hi h2 (.inr (by omega)), frV_right a (yk h2).2]
   have hb := bd i (k + 1)
   rw [wi64_of (x := 5 + costL a (x.drop i) (y.drop (k + 1))) (by omega)]
   rfl
  ·rw [if_neg (by simp only [Bool.and_eq_true, decide_eq_true_eq, bne_iff_ne]; omega)]
   unfold zel zek
   rw [if_neg (by decide)]
   unfold zej
   rw [show (((0 : Int) == (0 : Int)) && ((2 : Int) != 1)) = true from by decide]
   unfold zei zeh
   rw [if_pos rfl]
   exact ⟨m, by rw [if_neg h2]; rfl⟩
 obtain ⟨m0, e0⟩ := w0 79999 (-1) 0
 obtain ⟨m1, e1⟩ := w1 79998 (if h : i < x.length /\ k < y.length then bst (-1) (frV a (x[i]'h.1) (y[k]'h.2) + costL a (x.drop (i + 1)) (y.drop (k + 1))) else -1) m0
 obtain ⟨m2, e2⟩ := w2 79997 (if i < x.length then bst (if h : i < x.length /\ k < y.length then bst (-1) (frV a (x[i]'h.1) (y[k]'h.2) + costL a (x.drop (i + 1)) (y.drop (k + 1))) else -1) (5 + costL a (x.drop (i + 1)) (y.drop k)) else (if h : i < x.length /\ k < y.length then bst (-1) (frV a (x[i]'h.1) (y[k]'h.2) + costL a (x.drop (i + 1)) (y.drop (k + 1))) else -1)) m1
 refine ⟨m2, ?_⟩
 rw [e0, e1, e2]
 have hb : (if k < y.length then bst (if i < x.length then bst (if h : i < x.length /\ k < y.length then bst (-1) (frV a (x[i]'h.1) (y[k]'h.2) + costL a (x.drop (i + 1)) (y.drop (k + 1))) else -1) (5 + costL a (x.drop (i + 1)) (y.drop k)) else (if h : i < x.length /\ k < y.length then bst (-1) (frV a (x[i]'h.1) (y[k]'h.2) + costL a (x.drop (i + 1)) (y.drop (k + 1))) else -1)) (5 + costL a (x.drop i) (y.drop (k + 1))) else (if i < x.length then bst (if h : i < x.length /\ k < y.length then bst (-1) (frV a (x[i]'h.1) (y[k]'h.2) + costL a (x.drop (i + 1)) (y.drop (k + 1))) else -1) (5 + costL a (x.drop (i + 1)) (y.drop k)) else (if h : i < x.length /\ k < y.length then bst (-1) (frV a (x[i]'h.1) (y[k]'h.2) + costL a (x.drop (i + 1)) (y.drop (k + 1))) else -1))) = costL a (x.drop i) (y.drop k) := by
  by_cases h1 : i < x.length
  ·by_cases h2 : k < y.length
   ·rw [if_pos h2, if_pos h1, dif_pos ⟨h1, h2⟩]
    conv => rhs; rw [drop_at h1, drop_at h2]; unfold costL
    rw [<- drop_at h1, <- drop_at h2]
    have c1 := bd (i + 1) (k + 1)
    have c2 := bd (i + 1) k
    have c3 := bd i (k + 1)
    have c4 := far_bd a (x[i]'h1) (y[k]'h2)
    have hA : 0 <= frV a (x[i]'h1) (y[k]'h2) + costL a (x.drop (i + 1)) (y.drop (k + 1)) := by omega
    generalize frV a (x[i]'h1) (y[k]'h2) + costL a (x.drop (i + 1)) (y.drop (k + 1)) = A at hA ⊢
    unfold bst mnI
    repeat' split
    all_goals omega
   ·rw [if_neg h2, if_pos h1, dif_neg (fun h => h2 h.2)]
    have ek : y.drop k = [] := List.drop_eq_nil_of_le (by omega)
    conv => rhs; rw [drop_at h1, ek]; unfold costL
    rw [ek]
    unfold bst
    rw [if_pos (.inl (by omega))]
  ·have ei : x.drop i = [] := List.drop_eq_nil_of_le (by omega)
   have h2 : k < y.length := by omega
   rw [if_pos h2, if_neg h1, dif_neg (fun h => h1 h.1)]
   conv => rhs; rw [drop_at h2, ei]; unfold costL
   rw [ei]
   unfold bst
   rw [if_pos (.inl (by omega))]
 rw [hb]
 unfold zeo r21_Table_b3
 have l3 := h3.1
 have l4 := h4.1
 have r3 := h3.2 i (Nat.le_refl _) hi
 have r4 := h4.2 i (Nat.le_refl _) hi
 rw [if_neg (by decide), chk_of (by omega), h3.row (Nat.le_refl _) hi]
 simp only [Option.bind_some]
 rw [chk_of (by omega), h3.at2 (Nat.le_refl _) hi hk]
 simp only [Option.bind_some]
 rw [chk_of (by omega), h4.row (Nat.le_refl _) hi]
 simp only [Option.bind_some]
 rw [chk_of (by omega), h4.at2 (Nat.le_refl _) hi hk]
 simp only [Option.bind_some, Int.toNat_natCast]
 rfl
theorem Table_l2 (go1 : Go2) (hi : i <= x.length) : ∀ (m n : Nat) (R3 R4 : List (List Int)), m <= y.length + 1 -> m < n -> Tab R3 x.length y.length i -> Tab R4 x.length y.length i ->
  (∀ p q, i <= p -> p <= x.length -> q <= y.length -> (i < p \/ m <= q) -> get2 R3 p q = costL a (x.drop p) (y.drop q)) -> (i = x.length -> m = y.length + 1 -> get2 R3 i y.length = 0) ->
  ∃ S3 S4, zep 80000 (i : Int) x y go1 n ((m : Int) - 1) a.1 a.2.1 R3 R4 = go1 (wi64 ((i : Int) - 1)) a.1 a.2.1 S3 S4 /\ Tab S3 x.length y.length i /\ Tab S4 x.length y.length i /\
   ∀ p q, i <= p -> p <= x.length -> q <= y.length -> get2 S3 p q = costL a (x.drop p) (y.drop q) := by
 intro m
 induction m with
 | zero =>
  intro n R3 R4 _ hn h3 h4 hC _
  obtain ⟨n, rfl⟩ : ∃ n', n = n' + 1 := ⟨n - 1, by omega⟩
  unfold zep r21_Table_b2
  rw [if_neg (by simp)]
  exact ⟨R3, R4, rfl, h3, h4, fun p q hp hpx hq => hC p q hp hpx hq (.inr (Nat.zero_le _))⟩
 | succ m ih =>
  intro n R3 R4 hm hn h3 h4 hC h0
  obtain ⟨n, rfl⟩ : ∃ n', n = n' + 1 := ⟨n - 1, by omega⟩
  have em : (((m + 1 : Nat) : Int) - 1) = (m : Int) := by omega
  have ew : wi64 ((m : Int) - 1) = (m : Int) - 1 := wi64_of (by omega)
  unfold zep r21_Table_b2
  rw [em, if_pos (by simp)]
  unfold r21_Table_j2
  by_cases h : i = x.length /\ m = y.length
  ·obtain ⟨e1, e2⟩ := h
   rw [if_pos (by simp [e1, e2])]
   have l4 := h4.1
   have r4 := h4.2 i (Nat.le_refl _) hi
   rw [chk_of (by omega), h4.row (Nat.le_refl _) hi]
   simp only [Option.bind_some]
   rw [chk_of (by omega), h4.at2 (Nat.le_refl _) hi (by omega)]
   simp only [Option.bind_some, Int.toNat_natCast]
   unfold r21_Table_j1
   rw [ew]
   refine ih n R3 (set2 R4 i m 1) (by omega) (by omega) h3 (h4.set (Nat.le_refl _) hi _) (fun p q hp hpx hq hpq => ?_) (fun _ h => by omega)
   by_cases hq' : m + 1 <= q
   ·exact hC p q hp hpx hq (.inr hq')
   ·have ep : p = i := by omega
    have eq : q = m := by omega
    subst ep; subst eq
    rw [e2, h0 e1 (by omega), e1, List.drop_length, List.drop_length]
    unfold costL
    rfl
  ·rw [if_neg (by simp only [Bool.and_eq_true, beq_iff_eq]; omega)]
   obtain ⟨v, e⟩ := Table_l3 ha hx hy hxl hyl (zep 80000 (i : Int) x y go1 n) h3 h4 hi (k := m) (by omega) h (fun p q hp hpx hq hpq => hC p q hp hpx hq (by omega))
   rw [e, ew]
   refine ih n _ _ (by omega) (by omega) (h3.set (Nat.le_refl _) hi _) (h4.set (Nat.le_refl _) hi _) (fun p q hp hpx hq hpq => ?_) (fun _ h => by omega)
   rw [h3.get_set (Nat.le_refl _) hi (by omega)]
   split
   ·rename_i hh
    rw [hh.1, hh.2]
   ·rename_i hh
    exact hC p q hp hpx hq (by omega)
theorem Table_l1 : ∀ (m n : Nat) (R3 R4 : List (List Int)), m <= x.length + 1 -> m < n -> Tab R3 x.length y.length m -> Tab R4 x.length y.length m ->
  (∀ p q, m <= p -> p <= x.length -> q <= y.length -> get2 R3 p q = costL a (x.drop p) (y.drop q)) ->
  ∃ S3 S4, zeq 80000 y x n ((m : Int) - 1) a.1 a.2.1 R3 R4 = some (S3, S4) /\ Tab S3 x.length y.length 0 /\
   ∀ p q, p <= x.length -> q <= y.length -> get2 S3 p q = costL a (x.drop p) (y.drop q) := by
 intro m
 induction m with
 | zero =>
  intro n R3 R4 _ hn h3 h4 hC
  obtain ⟨n, rfl⟩ : ∃ n', n = n' + 1 := ⟨n - 1, by omega⟩
  unfold zeq r21_Table_b1
  rw [if_neg (by simp)]
  exact ⟨R3, R4, rfl, h3, fun p q => hC p q (Nat.zero_le _)⟩
 | succ m ih =>
  intro n R3 R4 hm hn h3 h4 hC
  obtain ⟨n, rfl⟩ : ∃ n', n = n' + 1 := ⟨n - 1, by omega⟩
  have hlb := lim_big
  have em : (((m + 1 : Nat) : Int) - 1) = (m : Int) := by omega
  have ew : wi64 ((m : Int) - 1) = (m : Int) - 1 := wi64_of (by omega)
  have ey : wi64 ((y.length : Int) + 1) = ((y.length + 1 : Nat) : Int) := zfr (by omega)
  have l3 := h3.1
  have l4 := h4.1
  unfold zeq r21_Table_b1
  rw [em, if_pos (by simp), ey, chk_of (by omega), chk_of (by omega)]
  simp only [Option.bind_some]
  rw [at_lt (show m < R3.length by omega), chk_of (by omega), at_lt (show m < R4.length by omega)]
  simp only [Option.bind_some, Int.toNat_natCast]
  have hget : ∀ (C : List (List Int)), C.length = x.length + 1 -> ∀ p q, p ≠ m -> get2 (C.set m (List.replicate (y.length + 1) (0 : Int))) p q = get2 C p q := by
   intro C hl p q hp
   unfold get2
   rw [getD_set _ _ _ _ _ (by omega), if_neg hp]
  have hz : ∀ (C : List (List Int)), C.length = x.length + 1 -> get2 (C.set m (List.replicate (y.length + 1) (0 : Int))) m y.length = 0 := by
   intro C hl
   unfold get2
   rw [getD_set _ _ _ _ _ (by omega), if_pos rfl, List.getD_eq_getElem?_getD, List.getElem?_replicate, if_pos (by omega)]
   rfl
  obtain ⟨S3, S4, e, t3, t4, hS⟩ := Table_l2 ha hx hy hxl hyl (zeq 80000 y x n) (i := m) (by omega) (y.length + 1) 80000 _ _ (Nat.le_refl _) (by omega) (h3.new (by omega)) (h4.new (by omega)) (fun p q hp hpx hq hpq => by
   rw [hget R3 l3 p q (by omega)]
   exact hC p q (by omega) hpx hq) (fun _ _ => hz R3 l3)
  have ek : (((y.length + 1 : Nat) : Int) - 1) = (y.length : Int) := by omega
  rw [ek] at e
  rw [show zep 80000 (m : Int) x y (zeq 80000 y x n) 80000 (y.length : Int) a.1 a.2.1 _ _ = _ from e, ew]
  exact ih n S3 S4 (by omega) (by omega) t3 t4 hS
theorem Table_val : ∃ S3 S4, r21_Table 80000 a x y = some (S3, S4) /\ Tab S3 x.length y.length 0 /\ ∀ p q, p <= x.length -> q <= y.length -> get2 S3 p q = costL a (x.drop p) (y.drop q) := by
 unfold r21_Table
 have hlb := lim_big
 have ex : wi64 ((x.length : Int) + 1) = ((x.length + 1 : Nat) : Int) := zfr (by omega)
 rw [ex, chk_of (by omega)]
 simp only [Option.bind_some, Int.toNat_natCast]
 have t : Tab (List.replicate (x.length + 1) ([] : List Int)) x.length y.length (x.length + 1) := ⟨by simp, fun p hp hpx => by omega⟩
 have := Table_l1 ha hx hy hxl hyl (x.length + 1) 80000 _ _ (Nat.le_refl _) (by omega) t t (fun p q hp hpx => by omega)
 rw [show (((x.length + 1 : Nat) : Int) - 1) = (x.length : Int) from by omega] at this
 exact this
theorem refFirst_l1 {C : List (List Int)} {C2 : List (List Int)} (h3 : Tab C x.length y.length 0) (hC : ∀ p q, p <= x.length -> q <= y.length -> get2 C p q = costL a (x.drop p) (y.drop q)) : ∀ (n i k : Nat) (l : List Pr), (x.length - i) + (y.length - k) < n -> i <= x.length -> k <= y.length -> l.length <= i + k ->
  zer 80000 (C, C2) x y a n (i : Int) (k : Int) l = some (l ++ firstL a (x.drop i) (y.drop k)) := by
 intro n
 induction n with
 | zero => intro i k l h; omega
 | succ n ih =>
  intro i k l hn hi hk hl
  have hlb := lim_big
  have bd : ∀ p q, 0 <= costL a (x.drop p) (y.drop q) /\ costL a (x.drop p) (y.drop q) <= 640 := fun p q => by
   have := costL_bd a _ (x.drop p) (y.drop q) (Nat.le_refl _)
   simp only [List.length_drop] at this
   omega
  unfold zer r21_First_b1 r21_First_j1
  by_cases h0 : i = x.length /\ k = y.length
  ·rw [if_neg (by simp only [Bool.or_eq_true, decide_eq_true_eq]; omega), h0.1, h0.2, List.drop_length, List.drop_length]
   unfold firstL
   simp
  rw [if_pos (by simp only [Bool.or_eq_true, decide_eq_true_eq]; omega)]
  have j4 : ∀ t : Bool, (t = true -> i < x.length) -> (t = false -> k < y.length) -> r21_First_j4 x (i : Int) l (zer 80000 (C, C2) x y a n) (k : Int) y t = some (l ++ (if t then (x.getD i 0, 0, ()) :: firstL a (x.drop (i + 1)) (y.drop k) else (0, y.getD k 0, ()) :: firstL a (x.drop i) (y.drop (k + 1)))) := by
   intro t h1 h2
   unfold r21_First_j4
   cases t with
   | true =>
    have h1 := h1 rfl
    rw [if_pos rfl, at_lt h1]
    simp only [Option.bind_some]
    rw [chk_of (by simp only [List.length_cons, List.length_nil]; omega)]
    simp only [Option.bind_some]
    rw [zfr (by omega), ih (i + 1) k _ (by omega) h1 hk (by simp only [List.length_append, List.length_cons, List.length_nil]; omega)]
    simp [List.getD_eq_getElem?_getD, h1]
   | false =>
    have h2 := h2 rfl
    rw [if_neg (by simp), at_lt h2]
    simp only [Option.bind_some]
    rw [chk_of (by simp only [List.length_cons, List.length_nil]; omega)]
    simp only [Option.bind_some]
    rw [zfr (by omega), ih i (k + 1) _ (by omega) hi h2 (by simp only [List.length_append, List.length_cons, List.length_nil]; omega)]
    simp [List.getD_eq_getElem?_getD, h2]
  have j3 : (¬ (i < x.length /\ k < y.length) \/ ∃ (h1 : i < x.length) (h2 : k < y.length), costL a (x.drop i) (y.drop k) ≠ frV a (x[i]'h1) (y[k]'h2) + costL a (x.drop (i + 1)) (y.drop (k + 1))) -> r21_First_j3 x (i : Int) y (k : Int) l (zer 80000 (C, C2) x y a n) (C, C2) false = some (l ++ firstL a (x.drop i) (y.drop k)) := by
   intro hcase
   unfold r21_First_j3
   rw [if_neg (by simp)]
   by_cases h1 : i < x.length
   ·rw [if_pos (by simp only [decide_eq_true_eq]; omega)]
    rw [show (C, C2).1 = C from rfl, h3.row (p := i) (Nat.zero_le _) hi]
    simp only [Option.bind_some]
    rw [h3.at2 (Nat.zero_le _) hi hk, zfr (by omega), h3.row (p := i + 1) (Nat.zero_le _) h1]
    simp only [Option.bind_some]
    rw [h3.at2 (Nat.zero_le _) h1 hk, hC _ _ hi hk, hC _ _ h1 hk]
    simp only [Option.bind_some]
    have hb := bd (i + 1) k
    rw [wi64_of (x := 5 + costL a (x.drop (i + 1)) (y.drop k)) (by omega)]
    by_cases h2 : k < y.length
    ·rw [j4 _ (fun _ => h1) (fun _ => h2)]
     congr 2
     conv => rhs; rw [drop_at h1, drop_at h2]; unfold firstL
     rw [<- drop_at h1, <- drop_at h2]
     rcases hcase with hc | ⟨_, _, hc⟩
     ·exact absurd ⟨h1, h2⟩ hc
     ·rw [if_neg hc]
      simp only [beq_iff_eq, List.getD_eq_getElem?_getD, List.getElem?_eq_getElem h1, List.getElem?_eq_getElem h2, Option.getD_some]
    ·have ek : y.drop k = [] := List.drop_eq_nil_of_le (by omega)
     have e5 : costL a (x.drop i) (y.drop k) = 5 + costL a (x.drop (i + 1)) (y.drop k) := by
      rw [ek, drop_at h1]
      conv => lhs; unfold costL
     rw [e5, beq_self_eq_true, j4 true (fun _ => h1) (fun h => by cases h), if_pos rfl]
     congr 2
     conv => rhs; rw [ek, drop_at h1]; unfold firstL
     rw [ek]
     simp [List.getD_eq_getElem?_getD, h1]
   ·rw [if_neg (by simp only [decide_eq_true_eq]; omega)]
    have h2 : k < y.length := by omega
    rw [j4 false (fun h => by cases h) (fun _ => h2), if_neg (by simp)]
    have ei : x.drop i = [] := List.drop_eq_nil_of_le (by omega)
    congr 2
    conv => rhs; rw [ei, drop_at h2]; unfold firstL
    rw [ei]
    simp [List.getD_eq_getElem?_getD, h2]
  unfold r21_First_j2
  by_cases h12 : i < x.length /\ k < y.length
  ·obtain ⟨h1, h2⟩ := h12
   rw [if_pos (by simp only [Bool.and_eq_true, decide_eq_true_eq]; omega)]
   rw [show (C, C2).1 = C from rfl, h3.row (p := i) (Nat.zero_le _) hi]
   simp only [Option.bind_some]
   rw [h3.at2 (Nat.zero_le _) hi hk, at_lt h1]
   simp only [Option.bind_some]
   rw [at_lt h2]
   simp only [Option.bind_some]
   rw [show r21_Of 80000 ((a.1, a.2.1, ()) : Alph) (x[i]'h1) (y[k]'h2) = some (frV a (x[i]'h1) (y[k]'h2)) from refOf_val ha (.inr (hx _ (List.getElem_mem h1))) (.inr (hy _ (List.getElem_mem h2)))]
   simp only [Option.bind_some]
   rw [zfr (by omega), zfr (by omega), h3.row (p := i + 1) (Nat.zero_le _) h1]
   simp only [Option.bind_some]
   rw [h3.at2 (Nat.zero_le _) h1 h2, hC _ _ hi hk, hC _ _ h1 h2]
   simp only [Option.bind_some]
   have hb := bd (i + 1) (k + 1)
   have hf := far_bd a (x[i]'h1) (y[k]'h2)
   rw [wi64_of (x := frV a (x[i]'h1) (y[k]'h2) + costL a (x.drop (i + 1)) (y.drop (k + 1))) (by omega)]
   by_cases e : costL a (x.drop i) (y.drop k) = frV a (x[i]'h1) (y[k]'h2) + costL a (x.drop (i + 1)) (y.drop (k + 1))
   ·rw [show (costL a (x.drop i) (y.drop k) == frV a (x[i]'h1) (y[k]'h2) + costL a (x.drop (i + 1)) (y.drop (k + 1))) = true from by simpa using e]
    unfold r21_First_j3
    rw [if_pos rfl, at_lt h1]
    simp only [Option.bind_some]
    rw [at_lt h2]
    simp only [Option.bind_some]
    rw [chk_of (by simp only [List.length_cons, List.length_nil]; omega)]
    simp only [Option.bind_some]
    rw [zfr (by omega), zfr (by omega), ih (i + 1) (k + 1) _ (by omega) h1 h2 (by simp only [List.length_append, List.length_cons, List.length_nil]; omega)]
    conv => rhs; rw [drop_at h1, drop_at h2]; unfold firstL
    rw [<- drop_at h1, <- drop_at h2, if_pos e]
    simp
   ·rw [show (costL a (x.drop i) (y.drop k) == frV a (x[i]'h1) (y[k]'h2) + costL a (x.drop (i + 1)) (y.drop (k + 1))) = false from by simpa using e]
    exact j3 (.inr ⟨h1, h2, e⟩)
  ·rw [if_neg (by simp only [Bool.and_eq_true, decide_eq_true_eq]; omega)]
   exact j3 (.inl h12)
end
def ww (a : Alph) (x y : List UInt8) : Int × List Pr × Int :=
 if (wl a x).2 ≠ 0 then (0, [], (wl a x).2) else if (wl a y).2 ≠ 0 then (0, [], (wl a y).2) else (costL a (wl a x).1 (wl a y).1, firstL a (wl a x).1 (wl a y).1, 0)
theorem Words_ww (a : Alph) {x y : List UInt8} (hx : x.length <= 1000) (hy : y.length <= 1000) : zdt 80000 a x y = some (ww a x y) := by
 unfold zdt zdl ww
 rw [show zc3 80000 ((a.1, a.2.1, ()) : Alph) x = some (wl a x) from Letters_wl a hx]
 simp only [Option.bind_some]
 by_cases he : (wl a x).2 = 0
 ·rw [if_neg (by simpa using he), if_neg (by simpa using he)]
  rw [show zc3 80000 ((a.1, a.2.1, ()) : Alph) y = some (wl a y) from Letters_wl a hy]
  simp only [Option.bind_some]
  by_cases he' : (wl a y).2 = 0
  ·rw [if_neg (by simpa using he'), if_neg (by simpa using he')]
   obtain ⟨q1, q2, q3⟩ := wl_ok a x he
   obtain ⟨_, r2, r3⟩ := wl_ok a y he'
   obtain ⟨b, hb, hc, hf, hbl⟩ := filled_val (x := (wl a x).1) (y := (wl a y).1) a q2 r2
   rw [show zdk 80000 ((a.1, a.2.1, ()) : Alph) (wl a x).1 (wl a y).1 = some b from hb]
   simp only [Option.bind_some, sumCase]
   rw [if_neg (by simp), chk_of (by omega)]; simp only [Option.bind_some]
   rw [show (0 : Int) = ((0 : Nat) : Int) from rfl, (hc.row (p := 0) (by omega)).2]; simp only [Option.bind_some]
   rw [hc.at2 (p := 0) (q := 0) (by omega) (by omega)]; simp only [Option.bind_some]
   have hfv := first_val a q2 r2 hc hf hbl
   rw [show zds 80000 ((a.1, a.2.1, ()) : Alph) b = some (firstL a (wl a x).1 (wl a y).1) from hfv, hf 0 0 (Nat.zero_le _) (Nat.zero_le _)]
   rfl
  ·rw [if_pos (by simpa using he'), if_pos he']
   simp only [Option.bind_some, sumCase]
   rw [if_pos (by simpa using he')]
 ·rw [if_pos (by simpa using he), if_pos he]
  simp only [Option.bind_some, sumCase]
  rw [if_pos (by simpa using he)]
theorem refWords_ww (a : Alph) {x y : List UInt8} (hx : x.length <= 1000) (hy : y.length <= 1000) : r21_Words 80000 a x y = some (ww a x y) := by
 unfold r21_Words r21_two ww
 rw [show zef 80000 ((a.1, a.2.1, ()) : Alph) x = some (wl a x) from refLetters_wl a hx]
 simp only [Option.bind_some]
 by_cases he : (wl a x).2 = 0
 ·rw [if_neg (by simpa using he), if_neg (by simpa using he)]
  rw [show zef 80000 ((a.1, a.2.1, ()) : Alph) y = some (wl a y) from refLetters_wl a hy]
  simp only [Option.bind_some]
  by_cases he' : (wl a y).2 = 0
  ·rw [if_neg (by simpa using he'), if_neg (by simpa using he')]
   obtain ⟨q1, q2, q3⟩ := wl_ok a x he
   obtain ⟨_, r2, r3⟩ := wl_ok a y he'
   obtain ⟨C, C2, e, t, hC⟩ := Table_val (x := (wl a x).1) (y := (wl a y).1) q1 q3 r3 q2 r2
   rw [show r21_Table 80000 ((a.1, a.2.1, ()) : Alph) (wl a x).1 (wl a y).1 = _ from e]
   simp only [Option.bind_some]
   rw [show (0 : Int) = ((0 : Nat) : Int) from rfl, t.row (p := 0) (Nat.zero_le _) (Nat.zero_le _)]
   simp only [Option.bind_some]
   rw [t.at2 (p := 0) (q := 0) (Nat.zero_le _) (Nat.zero_le _) (Nat.zero_le _), hC 0 0 (Nat.zero_le _) (Nat.zero_le _)]
   simp only [Option.bind_some]
   unfold r21_First
   rw [show r21_Table 80000 ((a.1, a.2.1, ()) : Alph) (wl a x).1 (wl a y).1 = _ from e]
   simp only [Option.bind_some]
   have := refFirst_l1 q1 q3 r3 q2 r2 (C2 := C2) t hC 80000 0 0 [] (by omega) (Nat.zero_le _) (Nat.zero_le _) (by simp)
   rw [show zer 80000 (C, C2) (wl a x).1 (wl a y).1 ((a.1, a.2.1, ()) : Alph) 80000 (0 : Int) (0 : Int) [] = _ from this]
   rfl
  ·rw [if_pos (by simpa using he'), if_pos he']
 ·rw [if_pos (by simpa using he), if_pos he]
  simp only [Option.bind_some]
  rw [if_pos (by simpa using he)]
end Go.Ev
namespace Go.Ev
open Go
set_option linter.unusedVariables false
abbrev TrC : Type := Pr × Int × Unit
theorem corrAligned_same (a : Alph) (ha : chkA a = true) {l : List (List (List UInt8))} (hl : l.length <= 5000) (h2 : ∀ g ∈ l, g.length = 2 /\ ∀ w ∈ g, w.length <= 1000) :
  ∀ n i (out : List (List Pr)), i <= l.length -> l.length - i < n -> out.length <= i -> (∀ g ∈ l.take i, (ww a (g.getD 0 []) (g.getD 1 [])).2.2 = 0) -> out = (l.take i).map (fun g => (ww a (g.getD 0 []) (g.getD 1 [])).2.1) ->
   zdu 80000 l a n (i : Int) out = match l.findSome? (fun g => if (ww a (g.getD 0 []) (g.getD 1 [])).2.2 = 0 then none else some (ww a (g.getD 0 []) (g.getD 1 [])).2.2) with
    | some e => some ([], e)
    | none => some (l.map (fun g => (ww a (g.getD 0 []) (g.getD 1 [])).2.1), 0) := by
 intro n
 induction n with
 | zero => intro i out _ h; omega
 | succ n ih =>
  intro i out hi hn ho hz hout
  have hlb := lim_big
  have hfs : l.findSome? (fun g => if (ww a (g.getD 0 []) (g.getD 1 [])).2.2 = 0 then none else some (ww a (g.getD 0 []) (g.getD 1 [])).2.2) = (l.drop i).findSome? (fun g => if (ww a (g.getD 0 []) (g.getD 1 [])).2.2 = 0 then none else some (ww a (g.getD 0 []) (g.getD 1 [])).2.2) := by
   conv => lhs; rw [<- List.take_append_drop i l, List.findSome?_append]
   rw [List.findSome?_eq_none_iff.2 fun g hg => if_pos (hz g hg)]
   rfl
  unfold zdu corr_aligned_b1
  by_cases h : i < l.length
  ·rw [if_pos (by simp only [decide_eq_true_eq]; omega), at_lt h]; rw [Option.bind_some]
   obtain ⟨g2, gw⟩ := h2 _ (List.getElem_mem h)
   have hd : l.drop i = l[i]'h :: l.drop (i + 1) := List.drop_eq_getElem_cons h
   have ht : l.take (i + 1) = l.take i ++ [l[i]'h] := List.take_succ_eq_append_getElem h
   generalize hg : l[i]'h = g at g2 gw hd ht
   match g, g2, gw, hd, ht, hg with
   | [x, y], _, gw, hd, ht, hg =>
    rw [chk_of (by omega)]; rw [Option.bind_some]
    rw [at2_0]; rw [Option.bind_some]
    rw [chk_of (by omega)]; rw [Option.bind_some]
    rw [at2_1]; rw [Option.bind_some]
    rw [show zdt 80000 ((a.1, a.2.1, ()) : Alph) x y = some (ww a x y) from Words_ww a (gw x (by simp)) (gw y (by simp))]; rw [Option.bind_some]
    by_cases he : (ww a x y).2.2 = 0
    ·rw [if_neg (by simpa using he), chk_of (by simp only [List.length_cons, List.length_nil]; omega)]; rw [Option.bind_some]
     rw [zfr (by omega)]
     refine ih (i + 1) (out ++ [(ww a x y).2.1]) (by omega) (by omega) (by simp only [List.length_append, List.length_cons, List.length_nil]; omega) (fun g hg => ?_) ?_
     ·rw [ht] at hg
      rcases List.mem_append.1 hg with hg | hg
      ·exact hz g hg
      ·have : g = [x, y] := by simpa using hg
       rw [this]
       exact he
     ·rw [ht, List.map_append, <- hout]
      rfl
    ·rw [if_pos (by simpa using he), hfs, hd, List.findSome?_cons]
     rw [show (if (ww a (([x, y] : List (List UInt8)).getD 0 []) (([x, y] : List (List UInt8)).getD 1 [])).2.2 = 0 then none else some (ww a (([x, y] : List (List UInt8)).getD 0 []) (([x, y] : List (List UInt8)).getD 1 [])).2.2) = some (ww a x y).2.2 from if_neg he]
   | [], g2, _, _, _, _ => cases g2
   | [_], g2, _, _, _, _ => cases g2
   | _ :: _ :: _ :: _, g2, _, _, _, _ => simp at g2
  ·rw [if_neg (by simp only [decide_eq_true_eq]; omega), hfs, List.drop_eq_nil_of_le (by omega)]
   rw [List.take_of_length_le (by omega)] at hout
   rw [hout, List.findSome?_nil]
theorem refAligned_l3 (a : Alph) {l : List (List (List UInt8))} (hl : l.length <= 5000) (h2 : ∀ g ∈ l, g.length = 2 /\ ∀ w ∈ g, w.length <= 1000) :
  ∀ n i (out : List (List Pr)), i <= l.length -> l.length - i < n -> out.length <= i -> zet 80000 l a.1 a.2.1 n (i : Int) out = some (out ++ (l.drop i).map (fun g => (ww a (g.getD 0 []) (g.getD 1 [])).2.1), 0) := by
 intro n
 induction n with
 | zero => intro i out _ h; omega
 | succ n ih =>
  intro i out hi hn ho
  have hlb := lim_big
  unfold zet r28_aligned_b3
  by_cases h : i < l.length
  ·rw [if_pos (by simp only [decide_eq_true_eq]; omega), at_lt h]; rw [Option.bind_some]
   obtain ⟨g2, gw⟩ := h2 _ (List.getElem_mem h)
   have hd : l.drop i = l[i]'h :: l.drop (i + 1) := List.drop_eq_getElem_cons h
   generalize hg : l[i]'h = g at g2 gw hd
   match g, g2, gw, hd, hg with
   | [x, y], _, gw, hd, hg =>
    rw [at2_0]; rw [Option.bind_some]
    rw [at2_1]; rw [Option.bind_some]
    rw [show r21_Words 80000 ((a.1, a.2.1, ()) : Alph) x y = some (ww a x y) from refWords_ww a (gw x (by simp)) (gw y (by simp))]; rw [Option.bind_some]
    rw [chk_of (by simp only [List.length_cons, List.length_nil]; omega)]; rw [Option.bind_some]
    rw [zfr (by omega), ih (i + 1) _ (by omega) (by omega) (by simp only [List.length_append, List.length_cons, List.length_nil]; omega), hd, List.map_cons, List.append_assoc]
    rfl
   | [], g2, _, _, _ => cases g2
   | [_], g2, _, _, _ => cases g2
   | _ :: _ :: _ :: _, g2, _, _, _ => simp at g2
  ·rw [if_neg (by simp only [decide_eq_true_eq]; omega), List.drop_eq_nil_of_le (by omega)]
   simp
theorem refAligned_l1 (a : Alph) {l : List (List (List UInt8))} (hl : l.length <= 5000) (h2 : ∀ g ∈ l, g.length = 2 /\ ∀ w ∈ g, w.length <= 1000) :
  ∀ n i, i <= l.length -> l.length - i < n ->
   zeu 80000 l n (i : Int) a.1 a.2.1 = match (l.drop i).findSome? (fun g => if (ww a (g.getD 0 []) (g.getD 1 [])).2.2 = 0 then none else some (ww a (g.getD 0 []) (g.getD 1 [])).2.2) with
    | some e => some ([], e)
    | none => some (l.map (fun g => (ww a (g.getD 0 []) (g.getD 1 [])).2.1), 0) := by
 intro n
 induction n with
 | zero => intro i _ h; omega
 | succ n ih =>
  intro i hi hn
  unfold zeu r28_aligned_b1
  by_cases h : i < l.length
  ·rw [if_pos (by simp only [decide_eq_true_eq]; omega)]
   obtain ⟨g2, gw⟩ := h2 _ (List.getElem_mem h)
   have hd : l.drop i = l[i]'h :: l.drop (i + 1) := List.drop_eq_getElem_cons h
   have hat : at? l (i : Int) = some (l[i]'h) := at_lt h
   generalize hg : l[i]'h = g at g2 gw hd hat
   match g, g2, gw, hd, hg, hat with
   | [x, y], _, gw, hd, hg, hat =>
    rw [hd, List.findSome?_cons]
    rw [show (if (ww a (([x, y] : List (List UInt8)).getD 0 []) (([x, y] : List (List UInt8)).getD 1 [])).2.2 = 0 then none else some (ww a (([x, y] : List (List UInt8)).getD 0 []) (([x, y] : List (List UInt8)).getD 1 [])).2.2) = (if (ww a x y).2.2 = 0 then none else some (ww a x y).2.2) from rfl]
    unfold zes r28_aligned_b2
    rw [if_pos (by decide), hat]
    simp only [Option.bind_some]
    rw [at2_0]
    simp only [Option.bind_some]
    rw [show r03_Check 80000 ((a.1, a.2.1, ()) : Alph) x = some (wl a x).2 from refCheck_wl a (gw x (by simp))]
    simp only [Option.bind_some]
    by_cases hex : (wl a x).2 = 0
    ·rw [if_neg (by simpa using hex), show wi64 ((0 : Int) + 1) = 1 from by decide]
     unfold zes r28_aligned_b2
     rw [if_pos (by decide), hat]
     simp only [Option.bind_some]
     rw [at2_1]
     simp only [Option.bind_some]
     rw [show r03_Check 80000 ((a.1, a.2.1, ()) : Alph) y = some (wl a y).2 from refCheck_wl a (gw y (by simp))]
     simp only [Option.bind_some]
     by_cases hey : (wl a y).2 = 0
     ·rw [if_neg (by simpa using hey), show wi64 ((1 : Int) + 1) = 2 from by decide]
      unfold zes r28_aligned_b2
      rw [if_neg (by decide), zfr (by omega), ih (i + 1) (by omega) (by omega)]
      have : (ww a x y).2.2 = 0 := by unfold ww; rw [if_neg (by simpa using hex), if_neg (by simpa using hey)]
      rw [if_pos this]
     ·rw [if_pos (by simpa using hey)]
      have : (ww a x y).2.2 = (wl a y).2 := by unfold ww; rw [if_neg (by simpa using hex), if_pos hey]
      rw [this, if_neg hey]
    ·rw [if_pos (by simpa using hex)]
     have : (ww a x y).2.2 = (wl a x).2 := by unfold ww; rw [if_pos hex]
     rw [this, if_neg hex]
   | [], g2, _, _, _, _ => cases g2
   | [_], g2, _, _, _, _ => cases g2
   | _ :: _ :: _ :: _, g2, _, _, _, _ => simp at g2
  ·rw [if_neg (by simp only [decide_eq_true_eq]; omega), List.drop_eq_nil_of_le (by omega)]
   have := refAligned_l3 a hl h2 80000 0 [] (Nat.zero_le _) (by omega) (by simp)
   rw [show zet 80000 l a.1 a.2.1 80000 (0 : Int) [] = _ from this, List.drop_zero]
   rfl
theorem aligned_same (a : Alph) {l : List (List (List UInt8))} (hl : l.length <= 5000) (h2 : ∀ g ∈ l, g.length = 2 /\ ∀ w ∈ g, w.length <= 1000) : r28_aligned 80000 a l = zdv 80000 a l := by
 unfold r28_aligned zdv
 rw [show zco 80000 ((a.1, a.2.1, ()) : Alph) = some (if chkA a then 0 else 7) from featCheck_val a, show r02_Check 80000 ((a.1, a.2.1, ()) : Alph) = some (if chkA a then 0 else 7) from r02Check_val a]
 simp only [Option.bind_some]
 cases hc : chkA a with
 | false => rfl
 | true =>
  simp only [if_true, bne_self_eq_false, Bool.false_eq_true, if_false]
  by_cases h : 4096 < l.length
  ·rw [if_pos (by simp only [decide_eq_true_eq]; omega), if_pos (by simp only [decide_eq_true_eq]; omega)]
  ·rw [if_neg (by simp only [decide_eq_true_eq]; omega), if_neg (by simp only [decide_eq_true_eq]; omega)]
   have e1 := refAligned_l1 a hl h2 80000 0 (Nat.zero_le _) (by omega)
   have e2 := corrAligned_same a hc hl h2 80000 0 [] (Nat.zero_le _) (by omega) (by simp) (by simp) (by simp)
   rw [List.drop_zero] at e1
   exact e1.trans e2.symm
/-! The counts of the reference. -/
def tri (m : List (Pr × Int)) : List TrC := m.map fun q => (q.1, q.2, ())
theorem mset_cat {p : Pr} {v : Int} : ∀ {A B : List (Pr × Int)}, (∀ q ∈ A, q.1 ≠ p) -> mset eqP (A ++ B) p v = A ++ mset eqP B p v
 | [], B, _ => rfl
 | q :: A, B, h => by
  have hq : ¬ eqP p q.1 = true := fun e => h q List.mem_cons_self ((eqP_iff _ _).1 e).symm
  rw [List.cons_append]
  conv => lhs; unfold mset
  rw [if_neg hq, mset_cat fun q' hq' => h q' (List.mem_cons_of_mem _ hq')]
  rfl
theorem mget_cat {p : Pr} : ∀ {A B : List (Pr × Int)}, (∀ q ∈ A, q.1 ≠ p) -> mget eqP (A ++ B) p = mget eqP B p
 | [], B, _ => rfl
 | q :: A, B, h => by
  have hq : ¬ eqP p q.1 = true := fun e => h q List.mem_cons_self ((eqP_iff _ _).1 e).symm
  rw [List.cons_append]
  conv => lhs; unfold mget
  rw [if_neg hq, mget_cat fun q' hq' => h q' (List.mem_cons_of_mem _ hq')]
theorem bump_mid {A B : List (Pr × Int)} {p : Pr} {c : Int} (h : ∀ q ∈ A, q.1 ≠ p) : bump (A ++ (p, c) :: B) p = A ++ (p, wi64 (c + 1)) :: B := by
 have hp : eqP p p = true := (eqP_iff _ _).2 rfl
 unfold bump cntOf
 rw [mset_cat h, mget_cat h]
 unfold mset mget
 rw [if_pos hp, if_pos hp]
 rfl
theorem bump_end {A : List (Pr × Int)} {p : Pr} (h : ∀ q ∈ A, q.1 ≠ p) : bump A p = A ++ [(p, wi64 (0 + 1))] := by
 unfold bump cntOf
 have e1 := mset_cat (p := p) (v := wi64 ((mget eqP A p).getD 0 + 1)) (A := A) (B := []) h
 have e2 := mget_cat (p := p) (A := A) (B := []) h
 rw [List.append_nil] at e1 e2
 rw [e1, e2]
 rfl
theorem bump_len (m : List (Pr × Int)) (p : Pr) : (bump m p).length <= m.length + 1 := by
 unfold bump
 generalize wi64 (cntOf m p + 1) = v
 induction m with
 | nil => simp [mset]
 | cons q m ih =>
  unfold mset
  split
  ·simp
  ·simp only [List.length_cons]; omega
theorem set_mid {α : Type} : ∀ (A : List α) (x y : α) (B : List α), (A ++ x :: B).set A.length y = A ++ y :: B
 | [], x, y, B => rfl
 | z :: A, x, y, B => by
  rw [List.cons_append, List.length_cons, List.set_cons_succ, set_mid A x y B]
  rfl
theorem get_mid {α : Type} (A : List α) (x : α) (B : List α) : at? (A ++ x :: B) (A.length : Int) = some x := by
 rw [at_of]
 simp
theorem refCount_l3 {al : List (List Pr)} {i k : Nat} {x : List Pr} (hx : al[i]? = some x) {p : Pr} (hp : x[k]? = some p) (go2 : Int -> List (List UInt8) -> List (Int × Int × Int × Unit) -> List TrC -> Option (List TrC)) (a4 : List (List UInt8)) (a5 : List (Int × Int × Int × Unit)) {m : List (Pr × Int)} (hm : m.length <= 70000) :
  ∀ n j, j <= m.length -> m.length - j < n -> (∀ q ∈ m.take j, q.1 ≠ p) -> zex (tri m) al (i : Int) (k : Int) go2 a4 a5 n (j : Int) = go2 (wi64 ((k : Int) + 1)) a4 a5 (tri (bump m p)) := by
 intro n
 induction n with
 | zero => intro j _ h; omega
 | succ n ih =>
  intro j hj hn hne
  have hlb := lim_big
  have hax : at? al (i : Int) = some x := by rw [at_of]; exact hx
  have hap : at? x (k : Int) = some p := by rw [at_of]; exact hp
  unfold zex r28_counted_b3
  by_cases h : j < m.length
  ·have hj' : j < (tri m).length := by unfold tri; rw [List.length_map]; exact h
   rw [if_pos (by unfold tri; simp only [decide_eq_true_eq, List.length_map]; omega), at_lt hj', hax]
   simp only [Option.bind_some]
   rw [hap]
   simp only [Option.bind_some]
   have hg : (tri m)[j]'hj' = ((m[j]'h).1, (m[j]'h).2, ()) := by simp [tri]
   rw [hg]
   unfold zew
   by_cases e : (m[j]'h).1 = p
   ·rw [if_neg (by rw [<- e]; simp [eqInt]), if_neg (by simp only [tri, List.length_map, beq_iff_eq]; omega)]
    unfold zev
    rw [at_lt hj']
    simp only [Option.bind_some]
    rw [hg]
    have hsplit : m = m.take j ++ (p, (m[j]'h).2) :: m.drop (j + 1) := by
     conv => lhs; rw [<- List.take_append_drop j m, List.drop_eq_getElem_cons h]
     rw [<- e]
    have hlen : (m.take j).length = j := by rw [List.length_take]; omega
    have hb := bump_mid (A := m.take j) (B := m.drop (j + 1)) (c := (m[j]'h).2) hne
    rw [<- hsplit] at hb
    rw [hb]
    congr 1
    have ht : tri m = tri (m.take j) ++ (p, (m[j]'h).2, ()) :: tri (m.drop (j + 1)) := by
     conv => lhs; rw [hsplit]
     unfold tri
     rw [List.map_append, List.map_cons]
    have hl2 : (tri (m.take j)).length = j := by unfold tri; rw [List.length_map, hlen]
    rw [ht, Int.toNat_natCast]
    have := set_mid (tri (m.take j)) (p, (m[j]'h).2, ()) ((m[j]'h).1, wi64 ((m[j]'h).2 + 1), ()) (tri (m.drop (j + 1)))
    rw [hl2] at this
    rw [this, e]
    unfold tri
    rw [List.map_append, List.map_cons]
   ·rw [if_pos, zfr (by omega)]
    ·refine ih (j + 1) (by omega) (by omega) fun q hq => ?_
     rw [List.take_succ_eq_append_getElem h] at hq
     rcases List.mem_append.1 hq with hq | hq
     ·exact hne q hq
     ·have : q = m[j]'h := by simpa using hq
      rw [this]
      exact e
    ·rw [Bool.not_eq_true', <- Bool.not_eq_true]
     intro hh
     simp only [eqInt, Bool.and_true, Bool.and_eq_true, beq_iff_eq] at hh
     exact e (Prod.ext hh.1 (Prod.ext hh.2 rfl))
  ·have ej : j = m.length := by omega
   rw [if_neg (by unfold tri; simp only [decide_eq_true_eq, List.length_map]; omega)]
   unfold zew
   have hl : (tri m).length = m.length := by unfold tri; rw [List.length_map]
   rw [if_neg (by simp), if_pos (by rw [hl, ej]; simp), hax]
   simp only [Option.bind_some]
   rw [hap]
   simp only [Option.bind_some]
   rw [chk_of (by rw [hl]; simp only [List.length_cons, List.length_nil]; omega)]
   simp only [Option.bind_some]
   unfold zev
   have hg := get_mid (tri m) (p, (0 : Int), ()) []
   rw [hl, <- ej] at hg
   rw [hg]
   simp only [Option.bind_some, Int.toNat_natCast]
   have hs := set_mid (tri m) (p, (0 : Int), ()) (p, wi64 ((0 : Int) + 1), ()) []
   rw [hl, <- ej] at hs
   rw [hs]
   rw [List.take_of_length_le (by omega)] at hne
   rw [bump_end hne]
   unfold tri
   rw [List.map_append]
   rfl
theorem refCount_l2 {al : List (List Pr)} {i : Nat} {x : List Pr} (hx : al[i]? = some x) (hxl : x.length <= 1000) (go1 : Int -> List (List UInt8) -> List (Int × Int × Int × Unit) -> List TrC -> Option (List TrC)) (a4 : List (List UInt8)) (a5 : List (Int × Int × Int × Unit)) :
  ∀ n k (m : List (Pr × Int)), k <= x.length -> x.length - k < n -> m.length + (x.length - k) <= 70000 -> zey 80000 al (i : Int) go1 n (k : Int) a4 a5 (tri m) = go1 (wi64 ((i : Int) + 1)) a4 a5 (tri ((x.drop k).foldl bump m)) := by
 intro n
 induction n with
 | zero => intro k m _ h; omega
 | succ n ih =>
  intro k m hk hn hm
  have hax : at? al (i : Int) = some x := by rw [at_of]; exact hx
  unfold zey r28_counted_b2
  rw [hax]
  simp only [Option.bind_some]
  by_cases h : k < x.length
  ·rw [if_pos (by simp only [decide_eq_true_eq]; omega)]
   have := refCount_l3 hx (List.getElem?_eq_getElem h) (zey 80000 al (i : Int) go1 n) a4 a5 (m := m) (by omega) 80000 0 (Nat.zero_le _) (by omega) (by simp)
   rw [show zex (tri m) al (i : Int) (k : Int) (zey 80000 al (i : Int) go1 n) a4 a5 80000 (0 : Int) = _ from this, zfr (by omega)]
   have hb := bump_len m (x[k]'h)
   rw [ih (k + 1) _ (by omega) (by omega) (by omega), drop_at h, List.foldl_cons]
  ·rw [if_neg (by simp only [decide_eq_true_eq]; omega), List.drop_eq_nil_of_le (by omega)]
   rfl
theorem foldl_bump_len : ∀ (ps : List Pr) (m : List (Pr × Int)), (ps.foldl bump m).length <= m.length + ps.length
 | [], m => by simp
 | p :: ps, m => by
  have h1 := foldl_bump_len ps (bump m p)
  have h2 := bump_len m p
  rw [List.foldl_cons, List.length_cons]
  omega
theorem refCount_l1 {al : List (List Pr)} (ha : al.length <= 5000) (hg : ∀ x ∈ al, x.length <= 1000) (a2 : List (List UInt8)) (a3 : List (Int × Int × Int × Unit)) :
  ∀ n i (m : List (Pr × Int)), i <= al.length -> al.length - i < n -> m.length + (al.drop i).flatten.length <= 70000 -> ze2 80000 al n (i : Int) a2 a3 (tri m) = ze1 80000 80000 (1 : Int) a2 a3 (tri ((al.drop i).flatten.foldl bump m)) := by
 intro n
 induction n with
 | zero => intro i m _ h; omega
 | succ n ih =>
  intro i m hi hn hm
  unfold ze2 r28_counted_b1
  by_cases h : i < al.length
  ·have hx := hg _ (List.getElem_mem h)
   rw [drop_at h, List.flatten_cons, List.length_append] at hm
   rw [if_pos (by simp only [decide_eq_true_eq]; omega)]
   have := refCount_l2 (List.getElem?_eq_getElem h) hx (ze2 80000 al n) a2 a3 80000 0 m (Nat.zero_le _) (by omega) (by omega)
   rw [List.drop_zero] at this
   have hb := foldl_bump_len (al[i]'h) m
   rw [show zey 80000 al (i : Int) (ze2 80000 al n) 80000 (0 : Int) a2 a3 (tri m) = _ from this, zfr (by omega), ih (i + 1) _ (by omega) (by omega) (by omega), drop_at h, List.flatten_cons, List.foldl_append]
  ·rw [if_neg (by simp only [decide_eq_true_eq]; omega), List.drop_eq_nil_of_le (by omega)]
   rfl
def B3 (ls : List Int) (x y : TrC) : Prop := y.2.1 < x.2.1 \/ y.2.1 = x.2.1 /\ (pos ls x.1.1 < pos ls y.1.1 \/ pos ls x.1.1 = pos ls y.1.1 /\ pos ls x.1.2.1 < pos ls y.1.2.1)
instance (ls : List Int) (x y : TrC) : Decidable (B3 ls x y) := by unfold B3; exact inferInstance
theorem place_val (a : Alph) (hl : a.2.1.length <= 5000) (r : Int) : r28_place 80000 a r = some (pos (lsOf a) r) := by
 unfold r28_place
 rw [show r02_Find 80000 ((a.1, a.2.1, ()) : Alph) r = some (pos (lsOf a) r - 1) from Find_val (a.1, a.2.1, ()) r hl]
 simp only [Option.bind_some]
 have := pos_range (lsOf a) r
 have e : (lsOf a).length = a.2.1.length := List.length_map _
 rw [wi64_of (by omega)]
 congr 1
 omega
theorem before_val {a : Alph} (hc : chkA a = true) {x y : TrC} (hx : PairOK a x.1) (hy : PairOK a y.1) : r28_before 80000 a x y = some (decide (B3 (lsOf a) x y)) := by
 have hl := chkA_len hc
 have z := zero_not hc
 have pl : ∀ r, r28_place 80000 ((a.1, a.2.1, ()) : Alph) r = some (pos (lsOf a) r) := fun r => place_val (a.1, a.2.1, ()) (by show a.2.1.length <= 5000; omega) r
 unfold r28_before
 rw [pl, pl, pl, pl]
 simp only [Option.bind_some]
 by_cases h1 : x.2.1 = y.2.1
 ·rw [if_neg (by simpa using h1)]
  by_cases h2 : x.1.1 = y.1.1
  ·rw [if_neg (by simpa using h2)]
   congr 1
   rw [decide_eq_decide]
   unfold B3
   rw [h2]
   omega
  ·rw [if_pos (by simpa using h2)]
   congr 1
   rw [decide_eq_decide]
   unfold B3
   have : pos (lsOf a) x.1.1 ≠ pos (lsOf a) y.1.1 := fun e => h2 (pos_inj z hx.1 hy.1 e)
   omega
 ·rw [if_pos (by simpa using h1)]
  congr 1
  rw [decide_eq_decide]
  unfold B3
  omega
def nB (ls : List Int) (u v : TrC) : Prop := ¬ B3 ls v u
theorem swap_eq {α : Type} (A : List α) (x y : α) (T : List α) : ((A ++ y :: x :: T).set (A.length + 1) y).set A.length x = A ++ x :: y :: T := by
 have e : A ++ y :: x :: T = (A ++ [y]) ++ x :: T := by simp
 have h := set_mid (A ++ [y]) x y T
 rw [List.length_append, List.length_cons, List.length_nil] at h
 rw [e, h]
 have e2 : (A ++ [y]) ++ y :: T = A ++ y :: y :: T := by simp
 rw [e2, set_mid]
theorem refIns_l5 {a : Alph} (hc : chkA a = true) (go4 : Int -> List (List UInt8) -> List (Int × Int × Int × Unit) -> List TrC -> Option (List TrC)) (i : Int) (x : TrC) (hx : PairOK a x.1) (R : List TrC) :
  ∀ k n (A B : List TrC), A.length = k -> k < n -> k < 1000000 -> (∀ t ∈ A, PairOK a t.1) -> (∀ t ∈ B, PairOK a t.1) -> (A ++ B).Pairwise (nB (lsOf a)) -> (∀ b ∈ B, B3 (lsOf a) x b) ->
   ∃ L, ze0 80000 a.1 a.2.1 go4 i n (k : Int) (A ++ x :: (B ++ R)) = go4 (wi64 (i + 1)) a.1 a.2.1 (L ++ R) /\ L.Perm (A ++ x :: B) /\ L.Pairwise (nB (lsOf a)) := by
 intro k
 induction k with
 | zero =>
  intro n A B hA hn _ hAok hBok hp hB
  obtain ⟨n, rfl⟩ : ∃ n', n = n' + 1 := ⟨n - 1, by omega⟩
  have : A = [] := List.length_eq_zero_iff.1 hA
  subst this
  unfold ze0 r28_counted_b5 zez
  rw [if_neg (by decide), if_neg (by simp)]
  refine ⟨x :: B, by simp, List.Perm.refl _, List.pairwise_cons.2 ⟨fun b hb => ?_, by simpa using hp⟩⟩
  have := hB b hb
  unfold nB B3
  unfold B3 at this
  omega
 | succ k ih =>
  intro n A B hA hn hk hAok hBok hp hB
  obtain ⟨n, rfl⟩ : ∃ n', n = n' + 1 := ⟨n - 1, by omega⟩
  obtain ⟨A', y, rfl⟩ : ∃ A' y, A = A' ++ [y] := ⟨A.dropLast, A.getLast (by intro e; rw [e] at hA; cases hA), (List.dropLast_concat_getLast _).symm⟩
  have hA' : A'.length = k := by simpa using hA
  have hy : PairOK a y.1 := hAok y (by simp)
  have ek : (((k + 1 : Nat) : Int) - 1) = (k : Int) := by omega
  have ew : wi64 (((k + 1 : Nat) : Int) - 1) = (k : Int) := by rw [wi64_of (by omega)]; omega
  have e1 : (A' ++ [y]) ++ x :: (B ++ R) = A' ++ y :: x :: (B ++ R) := by simp
  have g0 : at? (A' ++ y :: x :: (B ++ R)) (k : Int) = some y := by rw [<- hA']; exact get_mid _ _ _
  have g1 : at? (A' ++ y :: x :: (B ++ R)) ((k + 1 : Nat) : Int) = some x := by
   have := get_mid (A' ++ [y]) x (B ++ R)
   rw [<- e1]
   rw [List.length_append, List.length_cons, List.length_nil, hA'] at this
   exact this
  unfold ze0 r28_counted_b5
  rw [if_pos (by simp only [decide_eq_true_eq]; omega), e1, g1]
  simp only [Option.bind_some]
  rw [ew, g0]
  simp only [Option.bind_some]
  rw [show r28_before 80000 ((a.1, a.2.1, ()) : Alph) x y = _ from before_val hc hx hy]
  simp only [Option.bind_some]
  unfold zez
  by_cases h : B3 (lsOf a) x y
  ·rw [if_pos (by simpa using h), ew, g0]
   simp only [Option.bind_some]
   rw [g1]
   simp only [Option.bind_some, Int.toNat_natCast]
   have hl : k < ((A' ++ y :: x :: (B ++ R)).set (k + 1) y).length := by simp; omega
   rw [at_lt hl]
   simp only [Option.bind_some]
   have hs := swap_eq A' x y (B ++ R)
   rw [hA'] at hs
   rw [hs]
   have := ih n A' (y :: B) hA' (by omega) (by omega) (fun t ht => hAok t (by simp [ht])) (fun t ht => (List.mem_cons.1 ht).elim (fun e => e ▸ hy) (hBok t)) (by simpa using hp) (fun b hb => (List.mem_cons.1 hb).elim (fun e => e ▸ h) (hB b))
   obtain ⟨L, l1, l2, l3⟩ := this
   refine ⟨L, l1, l2.trans ?_, l3⟩
   have : A' ++ [y] ++ x :: B = A' ++ y :: x :: B := by simp
   rw [this]
   exact (List.Perm.swap y x B).append_left A'
  ·rw [if_neg (by simpa using h)]
   refine ⟨A' ++ [y] ++ x :: B, by simp, List.Perm.refl _, ?_⟩
   rw [List.pairwise_append] at hp ⊢
   obtain ⟨p1, p2, p3⟩ := hp
   refine ⟨p1, List.pairwise_cons.2 ⟨fun b hb => ?_, p2⟩, fun u hu v hv => ?_⟩
   ·have := hB b hb
    unfold nB B3
    unfold B3 at this
    omega
   ·rcases List.mem_cons.1 hv with rfl | hv
    ·rcases List.mem_append.1 hu with hu | hu
     ·have q := (List.pairwise_append.1 p1).2.2 u hu y (by simp)
      unfold nB B3 at *
      omega
     ·have : u = y := by simpa using hu
      rw [this]
      exact h
    ·exact p3 u hu v hv
theorem refSort_l4 {a : Alph} (hc : chkA a = true) : ∀ n i (P R : List TrC), P.length = i -> R.length < n -> i + R.length <= 79000 -> (∀ t ∈ P, PairOK a t.1) -> (∀ t ∈ R, PairOK a t.1) -> P.Pairwise (nB (lsOf a)) ->
  ∃ L, ze1 80000 n (i : Int) a.1 a.2.1 (P ++ R) = some L /\ L.Perm (P ++ R) /\ L.Pairwise (nB (lsOf a)) := by
 intro n
 induction n with
 | zero => intro i P R _ h; omega
 | succ n ih =>
  intro i P R hP hn hb hPok hRok hp
  unfold ze1 r28_counted_b4
  match R, hn, hb, hRok with
  | [], hn, hb, hRok =>
   rw [if_neg (by rw [List.append_nil]; simp only [decide_eq_true_eq]; omega)]
   exact ⟨P ++ [], rfl, List.Perm.refl _, by simpa using hp⟩
  | x :: R, hn, hb, hRok =>
   simp only [List.length_cons] at hn hb
   rw [if_pos (by simp only [decide_eq_true_eq, List.length_append, List.length_cons]; omega)]
   obtain ⟨L, l1, l2, l3⟩ := refIns_l5 hc (ze1 80000 n) (i : Int) x (hRok x List.mem_cons_self) R i 80000 P [] hP (by omega) (by omega) hPok (by simp) (by simpa using hp) (by simp)
   rw [List.nil_append] at l1
   rw [l1, zfr (by omega)]
   have hL : L.length = i + 1 := by rw [l2.length_eq]; simp [hP]
   have hLok : ∀ t ∈ L, PairOK a t.1 := fun t ht => by
    have := l2.mem_iff.1 ht
    rcases List.mem_append.1 this with h | h
    ·exact hPok t h
    ·have : t = x := by simpa using h
     rw [this]
     exact hRok x List.mem_cons_self
   obtain ⟨L', m1, m2, m3⟩ := ih (i + 1) L R hL (by omega) (by omega) hLok (fun t ht => hRok t (List.mem_cons_of_mem _ ht)) l3
   refine ⟨L', m1, m2.trans ?_, m3⟩
   have := l2.append_right R
   refine this.trans ?_
   simp
theorem refCounted_val (a : Alph) (hc : chkA a = true) {al : List (List Pr)} (ha : al.length <= 5000) (hg : ∀ x ∈ al, x.length <= 1000 /\ ∀ p ∈ x, PairOK a p) (hN : al.flatten.length <= 70000) {v : List Pr} (C : Cnts a al.flatten v) :
  r28_counted 80000 a al = some (v.map fun p => (p, cntOf (al.flatten.foldl bump []) p, ())) := by
 unfold r28_counted
 have e := refCount_l1 (al := al) ha (fun x hx => (hg x hx).1) a.1 a.2.1 80000 0 [] (Nat.zero_le _) (by omega) (by rw [List.drop_zero]; simpa using hN)
 rw [List.drop_zero] at e
 rw [show ze2 80000 al 80000 (0 : Int) a.1 a.2.1 [] = _ from e]
 have K := Cnt.nil.fold al.flatten (by rw [List.length_nil]; omega)
 rw [List.nil_append] at K
 have hml := foldl_bump_len al.flatten []
 obtain ⟨c1, c2, c3, c4, c5, c6, c7⟩ := C
 generalize al.flatten.foldl bump [] = m at *
 have hok : ∀ p ∈ m.map (·.1), PairOK a p := fun p hp => by
  obtain ⟨x, hx, hpx⟩ := List.mem_flatten.1 ((K.keys p).1 hp)
  exact (hg x hx).2 p hpx
 have hT : ∀ t ∈ tri m, PairOK a t.1 := fun t ht => by
  obtain ⟨q, hq, rfl⟩ := List.mem_map.1 ht
  exact hok q.1 (List.mem_map.2 ⟨q, hq, rfl⟩)
 have hsort : ∃ L, ze1 80000 80000 (1 : Int) a.1 a.2.1 (tri m) = some L /\ L.Perm (tri m) /\ L.Pairwise (nB (lsOf a)) := by
  match hm : tri m, hT with
  | [], _ => exact ⟨[], rfl, List.Perm.refl _, List.Pairwise.nil⟩
  | x :: R, hT =>
   have hl : (tri m).length = m.length := by unfold tri; rw [List.length_map]
   rw [hm, List.length_cons] at hl
   simp only [List.length_nil] at hml
   exact refSort_l4 hc 80000 1 [x] R rfl (by omega) (by omega) (fun t ht => hT t (by simp at ht; simp [ht])) (fun t ht => hT t (List.mem_cons_of_mem _ ht)) (by simp)
 obtain ⟨L, l1, l2, l3⟩ := hsort
 rw [l1]
 have htri : tri m = (m.map (·.1)).map (fun p => (p, cntOf m p, ())) := by
  unfold tri
  rw [List.map_map]
  refine List.map_congr_left fun q hq => ?_
  show (q.1, q.2, ()) = (q.1, (mget eqP m q.1).getD 0, ())
  rw [mget_self eqP_iff m K.nd q hq]
  rfl
 congr 1
 refine List.Perm.eq_of_pairwise (le := nB (lsOf a)) (fun s t hs ht h1 h2 => ?_) l3 ?_ ?_
 ·have hs' := l2.mem_iff.1 hs
  obtain ⟨p, hp, rfl⟩ := List.mem_map.1 ht
  rw [htri] at hs'
  obtain ⟨q, hq, rfl⟩ := List.mem_map.1 hs'
  have z := zero_not hc
  have kq := hok q hq
  have kp := hok p (c6.mem_iff.1 hp)
  unfold nB B3 at h1 h2
  dsimp only at h1 h2
  have e1 := pos_inj z kq.1 kp.1 (by omega)
  have e2 := pos_inj z kq.2 kp.2 (by omega)
  have : q = p := Prod.ext e1 (Prod.ext e2 rfl)
  rw [this]
 ·rw [List.pairwise_map]
  exact c7.imp fun {x y} h => h
 ·refine l2.trans ?_
  rw [htri]
  exact (c6.map _).symm
end Go.Ev
namespace Go.Ev
open Go
set_option linter.unusedVariables false
structure RR (ls : List Int) (m : List (Int × Int)) (t3 : List Int) (t4 : List Bool) : Prop where
 l3 : t3.length = ls.length
 l4 : t4.length = ls.length
 get : ∀ r : Int, r ∈ ls -> mget (α := Int) (β := Int) (eqEl (.int .i32)) m r = if t4.getD (ls.idxOf r) false = true then some (t3.getD (ls.idxOf r) 0) else none
theorem idx_inj {ls : List Int} {r s : Int} (hr : r ∈ ls) (hs : s ∈ ls) (h : ls.idxOf r = ls.idxOf s) : r = s := by
 have e1 := List.getElem_idxOf (List.idxOf_lt_length_of_mem hr)
 have e2 := List.getElem_idxOf (List.idxOf_lt_length_of_mem hs)
 rw [<- e1, <- e2]
 congr 1
theorem RR.set {ls : List Int} {m : List (Int × Int)} {t3 : List Int} {t4 : List Bool} (h : RR ls m t3 t4) {p : Pr} (hp : p.1 ∈ ls) :
  RR ls (mset (α := Int) (β := Int) (eqEl (.int .i32)) m p.1 p.2.1) (t3.set (ls.idxOf p.1) p.2.1) (t4.set (ls.idxOf p.1) true) := by
 have hi := List.idxOf_lt_length_of_mem hp
 refine ⟨by rw [List.length_set]; exact h.l3, by rw [List.length_set]; exact h.l4, fun r hr => ?_⟩
 have g := zft (α := Int) (β := Int) zfu p.1 r p.2.1 m
 rw [getD_set t4 _ _ _ _ (by rw [h.l4]; exact hi), getD_set t3 _ _ _ _ (by rw [h.l3]; exact hi)]
 by_cases e : r = p.1
 ·have e' : ls.idxOf r = ls.idxOf p.1 := by rw [e]
  rw [if_pos e', if_pos e', if_pos rfl]
  exact g.1 e
 ·have hne : ¬ ls.idxOf r = ls.idxOf p.1 := fun hh => e (idx_inj hr hp hh)
  rw [if_neg hne, if_neg hne]
  exact (g.2 e).trans (h.get r hr)
theorem regSame_l2 {a : Alph} (hc : chkA a = true) {al : List (List Pr)} {e : Int} {i : Nat} {x : List Pr} (hx : al[i]? = some x) (hxl : x.length <= 1000) (hok : ∀ p ∈ x, PairOK a p)
  (go1 : Int -> List (Int × Int) -> Option (Bool × Int × Int)) (go2 : Int -> List (List UInt8) -> List (Int × Int × Int × Unit) -> List Int -> List Bool -> Option (Bool × Int × Int)) :
  ∀ n k m t3 t4, k <= x.length -> x.length - k < n -> RR (lsOf a) m t3 t4 ->
   (∃ m' s3 s4, RR (lsOf a) m' s3 s4 /\ zd3 x (i : Int) go1 n (k : Int) m = go1 (wi64 ((i : Int) + 1)) m' /\ ze5 80000 (al, e) (i : Int) a.1 a.2.1 go2 n (k : Int) t3 t4 = go2 (wi64 ((i : Int) + 1)) a.1 a.2.1 s3 s4) \/
   (zd3 x (i : Int) go1 n (k : Int) m = some (false, (i : Int), 0) /\ ze5 80000 (al, e) (i : Int) a.1 a.2.1 go2 n (k : Int) t3 t4 = some (false, (i : Int), 0)) := by
 intro n
 induction n with
 | zero => intro k m t3 t4 _ h; omega
 | succ n ih =>
  intro k m t3 t4 hk hn hr
  have hl := chkA_len hc
  have z := zero_not hc
  have hax : at? al (i : Int) = some x := by rw [at_of]; exact hx
  unfold zd3 corr_Regular_b2 ze5 r28_Regular_b2
  rw [show (al, e).1 = al from rfl, hax, Option.bind_some]
  by_cases h : k < x.length
  ·have hd : (decide ((k : Int) < (x.length : Int))) = true := by rw [decide_eq_true_eq]; omega
   have hat : at? x (k : Int) = some (x[k]'h) := at_lt h
   rw [if_pos hd, if_pos hd, hat, Option.bind_some, Option.bind_some]
   have hp := hok _ (List.getElem_mem h)
   generalize x[k]'h = p at hp hat
   rw [show r28_place 80000 ((a.1, a.2.1, ()) : Alph) p.1 = some (pos (lsOf a) p.1) from place_val (a.1, a.2.1, ()) (by show a.2.1.length <= 5000; omega) p.1, Option.bind_some]
   have next : ∀ m' s3 s4, RR (lsOf a) m' s3 s4 -> (∃ m'' u3 u4, RR (lsOf a) m'' u3 u4 /\ zd2 (zd3 x (i : Int) go1 n) (k : Int) m' = go1 (wi64 ((i : Int) + 1)) m'' /\ ze3 (ze5 80000 (al, e) (i : Int) a.1 a.2.1 go2 n) (k : Int) s3 s4 = go2 (wi64 ((i : Int) + 1)) a.1 a.2.1 u3 u4) \/
     (zd2 (zd3 x (i : Int) go1 n) (k : Int) m' = some (false, (i : Int), 0) /\ ze3 (ze5 80000 (al, e) (i : Int) a.1 a.2.1 go2 n) (k : Int) s3 s4 = some (false, (i : Int), 0)) := by
    intro m' s3 s4 hr'
    unfold zd2 ze3
    rw [zfr (by omega)]
    exact ih (k + 1) m' s3 s4 (by omega) (by omega) hr'
   rcases hp.1 with h0 | h0
   ·have e0 : pos (lsOf a) p.1 = 0 := by rw [h0]; exact pos_none z
    rw [if_pos (by simpa using h0), e0, if_pos (by decide)]
    exact next m t3 t4 hr
   ·have hne : ¬ p.1 = 0 := fun e => z (e ▸ h0)
    have hi : (lsOf a).idxOf p.1 < (lsOf a).length := List.idxOf_lt_length_of_mem h0
    have hll : (lsOf a).length = a.2.1.length := List.length_map _
    have ep : wi64 (pos (lsOf a) p.1 - 1) = (((lsOf a).idxOf p.1 : Nat) : Int) := by
     unfold pos
     rw [if_pos h0, wi64_of (by omega)]
     omega
    rw [if_neg (by simpa using hne), ep, if_neg (by simp only [decide_eq_true_eq]; omega)]
    have hg := hr.get p.1 h0
    have i3 : (lsOf a).idxOf p.1 < t3.length := by rw [hr.l3]; exact hi
    have i4 : (lsOf a).idxOf p.1 < t4.length := by rw [hr.l4]; exact hi
    rw [at_lt i4, Option.bind_some]
    rw [List.getD_eq_getElem?_getD, List.getD_eq_getElem?_getD, List.getElem?_eq_getElem i3, List.getElem?_eq_getElem i4, Option.getD_some, Option.getD_some] at hg
    unfold corr_Regular_j2
    have j2 : ∀ t : Bool, ze4 (i : Int) t4 (pos (lsOf a) p.1) (al, e) (k : Int) t3 (ze5 80000 (al, e) (i : Int) a.1 a.2.1 go2 n) t = if t then some (false, (i : Int), 0) else ze3 (ze5 80000 (al, e) (i : Int) a.1 a.2.1 go2 n) (k : Int) (t3.set ((lsOf a).idxOf p.1) p.2.1) (t4.set ((lsOf a).idxOf p.1) true) := by
     intro t
     unfold ze4
     cases t with
     | true => rfl
     | false =>
      rw [if_neg (by simp), if_neg (by simp), ep, at_lt i4, Option.bind_some, show (al, e).1 = al from rfl, hax, Option.bind_some, hat, Option.bind_some, at_lt i3, Option.bind_some, Int.toNat_natCast]
    cases hb : t4[(lsOf a).idxOf p.1]'i4 with
    | false =>
     rw [hb, if_neg (by simp)] at hg
     rw [show (mget (eqEl (.int .i32)) m p.1) = none from hg]
     simp only [Option.isSome_none, Bool.false_and, Bool.false_eq_true, if_false]
     rw [j2, if_neg (by simp)]
     exact next _ _ _ (hr.set h0)
    | true =>
     rw [hb, if_pos rfl] at hg
     rw [show (mget (eqEl (.int .i32)) m p.1) = some (t3[(lsOf a).idxOf p.1]'i3) from hg, Option.isSome_some, Bool.true_and, Option.getD_some]
     simp only [if_true]
     rw [at_lt i3, Option.bind_some, j2]
     cases hq : (t3[(lsOf a).idxOf p.1]'i3 != p.2.1) with
     | true =>
      rw [if_pos rfl, if_pos rfl]
      exact .inr ⟨rfl, rfl⟩
     | false =>
      rw [if_neg (by simp), if_neg (by simp)]
      exact next _ _ _ (hr.set h0)
  ·have hd : ¬ (decide ((k : Int) < (x.length : Int))) = true := by rw [decide_eq_true_eq]; omega
   rw [if_neg hd, if_neg hd]
   exact .inl ⟨m, t3, t4, hr, rfl, rfl⟩
theorem regSame_l1 {a : Alph} (hc : chkA a = true) {al : List (List Pr)} (ha : al.length <= 5000) (hg : ∀ x ∈ al, x.length <= 1000 /\ ∀ p ∈ x, PairOK a p) :
  ∀ n i m t3 t4, i <= al.length -> al.length - i < n -> RR (lsOf a) m t3 t4 -> ze6 80000 (al, 0) n (i : Int) a.1 a.2.1 t3 t4 = zd4 80000 (al, 0) n (i : Int) m := by
 intro n
 induction n with
 | zero => intro i m t3 t4 _ h; omega
 | succ n ih =>
  intro i m t3 t4 hi hn hr
  unfold zd4 corr_Regular_b1 ze6 r28_Regular_b1
  by_cases h : i < al.length
  ·have hd : (decide ((i : Int) < (al.length : Int))) = true := by rw [decide_eq_true_eq]; omega
   rw [show ((al, (0 : Int)) : List (List Pr) × Int).1 = al from rfl, if_pos hd, if_pos hd, at_lt h, Option.bind_some]
   have hx := hg _ (List.getElem_mem h)
   rcases regSame_l2 hc (e := 0) (List.getElem?_eq_getElem h) hx.1 hx.2 (zd4 80000 (al, 0) n) (ze6 80000 (al, 0) n) 80000 0 m t3 t4 (Nat.zero_le _) (by omega) hr with ⟨m', s3, s4, hr', e1, e2⟩ | ⟨e1, e2⟩
   ·refine Eq.trans e2 (Eq.trans ?_ e1.symm)
    rw [zfr (by omega)]
    exact ih (i + 1) m' s3 s4 (by omega) (by omega) hr'
   ·exact e2.trans e1.symm
  ·have hd : ¬ (decide ((i : Int) < (al.length : Int))) = true := by rw [decide_eq_true_eq]; omega
   rw [show ((al, (0 : Int)) : List (List Pr) × Int).1 = al from rfl, if_neg hd, if_neg hd]
/-! The odd ones. -/
def usV (v : List Pr) (r : Int) : Option Int := (v.find? fun p => p.1 == r).map (·.2.1)
theorem usV_snoc (v : List Pr) (p : Pr) (r : Int) : usV (v ++ [p]) r = if (usV v r).isSome then usV v r else if p.1 = r then some p.2.1 else none := by
 unfold usV
 rw [List.find?_append]
 cases hf : v.find? fun p => p.1 == r with
 | some q => rfl
 | none =>
  rw [Option.none_or, if_neg (by simp)]
  by_cases e : p.1 = r
  ·rw [if_pos e, List.find?_cons_of_pos (by simpa using e)]; rfl
  ·rw [if_neg e, List.find?_cons_of_neg (by simpa using e)]; rfl
theorem oddI_l1 {v : List Pr} (hv : v.length <= 79000) (f : Pr -> Int) (v1 : List (List Pr) × Int) : ∀ n i (m : List (Int × Int)), i <= v.length -> v.length - i < n -> (∀ r : Int, mget (α := Int) (β := Int) (eqEl (.int .i32)) m r = usV (v.take i) r) ->
  ∃ m', zfa 80000 (v.map fun p => (p, f p, ())) v1 n (i : Int) m = ze9 80000 v1 m' 80000 (0 : Int) [] /\ ∀ r : Int, mget (α := Int) (β := Int) (eqEl (.int .i32)) m' r = usV v r := by
 intro n
 induction n with
 | zero => intro i m _ h; omega
 | succ n ih =>
  intro i m hi hn hm
  unfold zfa corr_Odd_i1_b1
  by_cases h : i < v.length
  ·have hl : i < (v.map fun p => (p, f p, ())).length := by rw [List.length_map]; exact h
   rw [if_pos (by simp only [decide_eq_true_eq, List.length_map]; omega), at_lt hl, Option.bind_some]
   simp only [List.getElem_map]
   unfold ze7
   rw [zfr (by omega)]
   have htk : v.take (i + 1) = v.take i ++ [v[i]'h] := List.take_succ_eq_append_getElem h
   have hmi := hm (v[i]'h).1
   cases hg : mget (α := Int) (β := Int) (eqEl (.int .i32)) m (v[i]'h).1 with
   | none =>
    rw [hg] at hmi
    rw [show (mget (eqEl (.int .i32)) m (v[i]'h).1) = none from hg]
    simp only [Option.isSome_none, Bool.not_false, if_true]
    refine ih (i + 1) _ (by omega) (by omega) fun r => ?_
    have g := zft (α := Int) (β := Int) zfu (v[i]'h).1 r (v[i]'h).2.1 m
    rw [htk, usV_snoc]
    by_cases e : r = (v[i]'h).1
    ·rw [e, <- hmi, if_neg (by simp), if_pos rfl]
     rw [e] at g
     exact g.1 rfl
    ·refine (g.2 e).trans ((hm r).trans ?_)
     rw [if_neg (show ¬ (v[i]'h).1 = r from fun hh => e hh.symm)]
     cases usV (v.take i) r <;> rfl
   | some u =>
    rw [hg] at hmi
    rw [show (mget (eqEl (.int .i32)) m (v[i]'h).1) = some u from hg]
    simp only [Option.isSome_some, Bool.not_true, Bool.false_eq_true, if_false]
    refine ih (i + 1) _ (by omega) (by omega) fun r => ?_
    rw [htk, usV_snoc]
    refine (hm r).trans ?_
    by_cases e : r = (v[i]'h).1
    ·rw [e, <- hmi]; rfl
    ·rw [if_neg (show ¬ (v[i]'h).1 = r from fun hh => e hh.symm)]
     cases usV (v.take i) r <;> rfl
  ·rw [if_neg (by simp only [decide_eq_true_eq, List.length_map]; omega)]
   rw [List.take_of_length_le (by omega)] at hm
   exact ⟨m, rfl, hm⟩
def oddP (v : List Pr) (p : Pr) : Bool := (p.1 != (0 : Int)) && ((usV v p.1).getD 0 != p.2.1)
def oddL (P : Pr -> Bool) : List (List Pr) -> Nat -> List Int
 | [], _ => []
 | x :: L, i => (if x.any P then [(i : Int)] else []) ++ oddL P L (i + 1)
theorem oddI_l2 {v : List Pr} {al : List (List Pr)} (ha : al.length <= 5000) (hg : ∀ x ∈ al, x.length <= 1000) (m : List (Int × Int)) (hm : ∀ r : Int, mget (α := Int) (β := Int) (eqEl (.int .i32)) m r = usV v r) : ∀ n i (out : List Int), i <= al.length -> al.length - i < n -> out.length <= i ->
  ze9 80000 (al, 0) m n (i : Int) out = some ((0 : Int), out ++ oddL (oddP v) (al.drop i) i) := by
 have hod : ∀ p, od m p = oddP v p := fun p => by
  unfold od oddP
  rw [show (mget (eqEl (.int .i32)) m p.1) = usV v p.1 from hm p.1]
 intro n
 induction n with
 | zero => intro i out _ h; omega
 | succ n ih =>
  intro i out hi hn ho
  have hlb := lim_big
  unfold ze9 corr_Odd_i1_b2
  by_cases h : i < al.length
  ·have hx := hg _ (List.getElem_mem h)
   rw [if_pos (by simp only [decide_eq_true_eq]; omega), at_lt h, Option.bind_some]
   unfold zd8 zd7
   obtain ⟨j, e, hj⟩ := idx_l1 hx m 80000 0 (Nat.zero_le _) (by omega)
   rw [show zd6 80000 (al[i]'h) (some m, ()) 80000 (0 : Int) = some j from e, Option.bind_some, Option.bind_some]
   unfold ze8
   rw [drop_at h]
   rw [List.drop_zero] at hj
   unfold oddL
   have hany : ((al[i]'h).any (oddP v) = true) ↔ 0 <= j := by
    rw [hj, List.any_eq_true]
    constructor
    ·intro ⟨p, hp, hq⟩; exact ⟨p, hp, (hod p).trans hq⟩
    ·intro ⟨p, hp, hq⟩; exact ⟨p, hp, (hod p).symm.trans hq⟩
   by_cases hj0 : 0 <= j
   ·rw [if_pos (by simpa using hj0), if_pos (hany.2 hj0), chk_of (by simp only [List.length_cons, List.length_nil]; omega), Option.bind_some]
    rw [zfr (by omega), ih (i + 1) _ (by omega) (by omega) (by simp only [List.length_append, List.length_cons, List.length_nil]; omega), List.append_assoc]
   ·rw [if_neg (by simpa using hj0), if_neg (fun hh => hj0 (hany.1 hh)), List.nil_append]
    rw [zfr (by omega), ih (i + 1) _ (by omega) (by omega) (by omega)]
  ·rw [if_neg (by simp only [decide_eq_true_eq]; omega), List.drop_eq_nil_of_le (by omega)]
   simp [oddL]
theorem usual_l1 {a : Alph} (hc : chkA a = true) {v : List Pr} (hv : v.length <= 79000) (f : Pr -> Int) (hf : ∀ p ∈ v, 1 <= f p) (hok : ∀ p ∈ v, PairOK a p) (hs : v.Pairwise fun x y => ¬ B3 (lsOf a) (y, f y, ()) (x, f x, ())) (r : Int) :
  ∀ n i (b1 b2 b3 : Int), i <= v.length -> v.length - i < n -> ((v.take i).find? (fun p => p.1 == r) = none /\ b2 = 0 /\ b3 = 0 \/ ∃ p, (v.take i).find? (fun p => p.1 == r) = some p /\ b1 = p.1 /\ b2 = p.2.1 /\ b3 = f p) ->
   r28_usual_l1 80000 (v.map fun p => (p, f p, ())) r a n (i : Int) b1 b2 b3 = some ((usV v r).getD 0) := by
 intro n
 induction n with
 | zero => intro i b1 b2 b3 _ h; omega
 | succ n ih =>
  intro i b1 b2 b3 hi hn hb
  unfold r28_usual_l1 r28_usual_b1
  by_cases h : i < v.length
  ·have hl : i < (v.map fun p => (p, f p, ())).length := by rw [List.length_map]; exact h
   have hat : at? (v.map fun p => (p, f p, ())) (i : Int) = some (v[i]'h, f (v[i]'h), ()) := by
    rw [at_lt hl]; simp
   have htk : v.take (i + 1) = v.take i ++ [v[i]'h] := List.take_succ_eq_append_getElem h
   rw [if_pos (by simp only [decide_eq_true_eq, List.length_map]; omega), hat, Option.bind_some]
   have j2 : ∀ (t : Bool) , (t = true -> v[i]'h = v[i]'h /\ (v[i]'h).1 = r /\ (v.take i).find? (fun p => p.1 == r) = none) -> (t = false -> (v.take i).find? (fun p => p.1 == r) = none -> (v[i]'h).1 ≠ r) ->
     r28_usual_j2 (v.map fun p => (p, f p, ())) (i : Int) (r28_usual_l1 80000 (v.map fun p => (p, f p, ())) r a n) b1 b2 b3 t = some ((usV v r).getD 0) := by
    intro t h1 h2
    unfold r28_usual_j2 r28_usual_j1
    cases t with
    | true =>
     obtain ⟨_, h1, h3⟩ := h1 rfl
     rw [if_pos rfl, hat, Option.bind_some, zfr (by omega)]
     refine ih (i + 1) _ _ _ (by omega) (by omega) (.inr ⟨v[i]'h, ?_, rfl, rfl, rfl⟩)
     rw [htk, List.find?_append, h3, Option.none_or, List.find?_cons_of_pos (by simpa using h1)]
    | false =>
     rw [if_neg (by simp), zfr (by omega)]
     refine ih (i + 1) _ _ _ (by omega) (by omega) ?_
     rcases hb with ⟨q1, q2, q3⟩ | ⟨p, q1, q2⟩
     ·have := h2 rfl q1
      refine .inl ⟨?_, q2, q3⟩
      rw [htk, List.find?_append, q1, Option.none_or, List.find?_cons_of_neg (by simpa using this)]
      rfl
     ·refine .inr ⟨p, ?_, q2⟩
      rw [htk, List.find?_append, q1]
      rfl
   by_cases e : (v[i]'h).1 = r
   ·rw [if_pos (by simpa using e)]
    rcases hb with ⟨q1, q2, q3⟩ | ⟨p, q1, q2, q3, q4⟩
    ·rw [if_pos (by rw [q3]; rfl)]
     unfold r28_usual_j3
     exact j2 true (fun _ => ⟨rfl, e, q1⟩) (fun h => by cases h)
    ·have hp : p ∈ v.take i := List.mem_of_find?_eq_some q1
     have hpv : p ∈ v := List.mem_of_mem_take hp
     have := hf p hpv
     rw [if_neg (by rw [q4]; simp only [beq_iff_eq]; omega)]
     have hbf : r28_before 80000 a (v[i]'h, f (v[i]'h), ()) ((b1, b2, ()), b3, ()) = some false := by
      rw [before_val hc (hok _ (List.getElem_mem h)) (by rw [q2, q3]; exact hok p hpv), q2, q3, q4]
      congr 1
      rw [decide_eq_false_iff_not]
      obtain ⟨j, hj, ej⟩ := List.getElem_of_mem hp
      have hj' : j < i := by rw [List.length_take] at hj; omega
      rw [List.getElem_take] at ej
      have := List.pairwise_iff_getElem.1 hs j i (by omega) h hj'
      rw [ej] at this
      exact this
     rw [show r28_before 80000 ((a.1, a.2.1, ()) : Alph) (v[i]'h, f (v[i]'h), ()) ((b1, b2, ()), b3, ()) = some false from hbf, Option.bind_some]
     unfold r28_usual_j3
     exact j2 false (fun h => by cases h) (fun _ hh => by rw [q1] at hh; cases hh)
   ·rw [if_neg (by simpa using e)]
    exact j2 false (fun h => by cases h) (fun _ _ => e)
  ·rw [if_neg (by simp only [decide_eq_true_eq, List.length_map]; omega)]
   rw [List.take_of_length_le (by omega)] at hb
   unfold usV
   rcases hb with ⟨q1, q2, _⟩ | ⟨p, q1, _, q3, _⟩
   ·rw [q1, q2]; rfl
   ·rw [q1, q3]; rfl
theorem any_drop {α : Type} (P : α -> Bool) {x : List α} {k : Nat} (h : k < x.length) : (x.drop k).any P = (P (x[k]'h) || (x.drop (k + 1)).any P) := by
 rw [drop_at h, List.any_cons]
theorem refOdd_l2 {a : Alph} {v : List Pr} {w : List TrC} (hu : ∀ r : Int, r28_usual 80000 a w r = some ((usV v r).getD 0)) {al : List (List Pr)} {e : Int} {i : Nat} {x : List Pr} (hx : al[i]? = some x) (hxl : x.length <= 1000) (out : List Int) (ho : out.length <= 5000)
  (go1 : Int -> List (List UInt8) -> List (Int × Int × Int × Unit) -> List Int -> Option (List Int × Int)) : ∀ n k (odd : Bool), k <= x.length -> x.length - k < n ->
   r28_Odd_l2 80000 (al, e) (i : Int) a.1 a.2.1 w out go1 n odd (k : Int) = go1 (wi64 ((i : Int) + 1)) a.1 a.2.1 (out ++ if odd || (x.drop k).any (oddP v) then [(i : Int)] else []) := by
 intro n
 induction n with
 | zero => intro k odd _ h; omega
 | succ n ih =>
  intro k odd hk hn
  have hlb := lim_big
  have hax : at? al (i : Int) = some x := by rw [at_of]; exact hx
  unfold r28_Odd_l2 r28_Odd_b2
  rw [show (al, e).1 = al from rfl, hax, Option.bind_some]
  by_cases h : k < x.length
  ·rw [if_pos (by simp only [decide_eq_true_eq]; omega), at_lt h, Option.bind_some, any_drop _ h]
   generalize x[k]'h = p
   cases odd with
   | true =>
    rw [if_pos rfl]
    unfold r28_Odd_j2
    rw [zfr (by omega), ih (k + 1) true (by omega) (by omega)]
    rfl
   | false =>
    rw [if_neg (by simp)]
    unfold r28_Odd_j3 r28_Odd_j2
    by_cases h0 : p.1 = 0
    ·rw [if_neg (by simpa using h0), zfr (by omega), ih (k + 1) false (by omega) (by omega)]
     have : oddP v p = false := by unfold oddP; rw [h0]; rfl
     rw [this]
     rfl
    ·rw [if_pos (by simpa using h0), show r28_usual 80000 ((a.1, a.2.1, ()) : Alph) w p.1 = _ from hu p.1, Option.bind_some, zfr (by omega), ih (k + 1) _ (by omega) (by omega)]
     have : oddP v p = ((usV v p.1).getD 0 != p.2.1) := by unfold oddP; rw [show (p.1 != (0 : Int)) = true from by simpa using h0, Bool.true_and]
     rw [this, Bool.false_or]
  ·rw [if_neg (by simp only [decide_eq_true_eq]; omega), List.drop_eq_nil_of_le (by omega)]
   unfold r28_Odd_j1
   cases odd with
   | true =>
    rw [if_pos rfl, chk_of (by simp only [List.length_cons, List.length_nil]; omega), Option.bind_some]
    rfl
   | false =>
    rw [if_neg (by simp)]
    simp
theorem refOdd_l1 {a : Alph} {v : List Pr} {w : List TrC} (hu : ∀ r : Int, r28_usual 80000 a w r = some ((usV v r).getD 0)) {al : List (List Pr)} (ha : al.length <= 5000) (hg : ∀ x ∈ al, x.length <= 1000) : ∀ n i (out : List Int), i <= al.length -> al.length - i < n -> out.length <= i ->
  r28_Odd_l1 80000 (al, 0) w n (i : Int) a.1 a.2.1 out = some (out ++ oddL (oddP v) (al.drop i) i, (0 : Int)) := by
 intro n
 induction n with
 | zero => intro i out _ h; omega
 | succ n ih =>
  intro i out hi hn ho
  unfold r28_Odd_l1 r28_Odd_b1
  by_cases h : i < al.length
  ·have hx := hg _ (List.getElem_mem h)
   rw [if_pos (by simp only [decide_eq_true_eq]; omega)]
   have := refOdd_l2 hu (e := 0) (List.getElem?_eq_getElem h) hx out (by omega) (r28_Odd_l1 80000 (al, 0) w n) 80000 0 false (Nat.zero_le _) (by omega)
   rw [List.drop_zero, Bool.false_or] at this
   refine Eq.trans this ?_
   rw [zfr (by omega), ih (i + 1) _ (by omega) (by omega) (by split <;> simp <;> omega), drop_at h]
   conv => rhs; unfold oddL
   rw [List.append_assoc]
  ·rw [if_neg (by simp only [decide_eq_true_eq]; omega), List.drop_eq_nil_of_le (by omega)]
   simp [oddL]
theorem oddL_len (P : Pr -> Bool) : ∀ (L : List (List Pr)) (i : Nat), (oddL P L i).length <= L.length
 | [], _ => by simp [oddL]
 | x :: L, i => by
  have := oddL_len P L (i + 1)
  unfold oddL
  rw [List.length_append, List.length_cons]
  split <;> simp <;> omega
/-! The law's own loops. -/
theorem counted_i1_l2 (x1 : List Pr) (go1 : Int -> List (List UInt8) -> List (Int × Int × Int × Unit) -> List (Pr × Int) -> Option (List TrC)) (t1 : Int) (a2 : List (List UInt8)) (a3 : List (Int × Int × Int × Unit)) : ∀ n, zd9 x1 go1 t1 a2 a3 n = zdx x1 go1 t1 a2 a3 n
 | 0 => by funext t m; rfl
 | n + 1 => by
  funext t m
  show corr_counted_i1_b2 x1 go1 t1 a2 a3 (zd9 x1 go1 t1 a2 a3 n) t m = corr_counted_b2 x1 go1 t1 a2 a3 (zdx x1 go1 t1 a2 a3 n) t m
  rw [counted_i1_l2 x1 go1 t1 a2 a3 n]
  rfl
theorem counted_i1_l4 (v2 : List Pr) (m1 : List (Pr × Int)) : ∀ n, zea v2 m1 n = zdy v2 m1 n
 | 0 => by funext t m; rfl
 | n + 1 => by
  funext t m
  show corr_counted_i1_b4 v2 m1 (zea v2 m1 n) t m = corr_counted_b4 v2 m1 (zdy v2 m1 n) t m
  rw [counted_i1_l4 v2 m1 n]
  rfl
theorem counted_i1_l3 (k : Nat) (a3 : List (Int × Int × Int × Unit)) (m1 : List (Pr × Int)) : ∀ n, zeb k a3 m1 n = zdz k a3 m1 n
 | 0 => by funext t m; rfl
 | n + 1 => by
  funext t m
  show corr_counted_i1_b3 k a3 m1 (zeb k a3 m1 n) t m = corr_counted_b3 k a3 m1 (zdz k a3 m1 n) t m
  rw [counted_i1_l3 k a3 m1 n]
  unfold corr_counted_i1_b3 corr_counted_b3
  simp only [counted_i1_l4]
theorem counted_i1_l1 (k : Nat) (l1 : List (List Pr)) : ∀ n, zec k l1 n = zd0 k l1 n
 | 0 => by funext t a b m; rfl
 | n + 1 => by
  funext t a b m
  show corr_counted_i1_b1 k l1 (zec k l1 n) t a b m = corr_counted_b1 k l1 (zd0 k l1 n) t a b m
  rw [counted_i1_l1 k l1 n]
  unfold corr_counted_i1_b1 corr_counted_b1
  simp only [counted_i1_l2, counted_i1_l3]
theorem counted_i1_eq (k : Nat) (a : Alph) (al : List (List Pr)) : zed k a al = zd1 k a al := by
 unfold zed zd1
 rw [counted_i1_l1]
theorem Same_l1_self {L : List TrC} (hL : L.length <= 79000) : ∀ n i, i <= L.length -> L.length - i < n -> zfc L L n (i : Int) = some true := by
 intro n
 induction n with
 | zero => intro i _ h; omega
 | succ n ih =>
  intro i hi hn
  unfold zfc r28_Same_i1_b1
  by_cases h : i < L.length
  ·rw [if_pos (by simp only [decide_eq_true_eq]; omega), at_lt h, Option.bind_some, Option.bind_some, if_neg (by simp [eqInt]), zfr (by omega)]
   exact ih (i + 1) (by omega) (by omega)
  ·rw [if_neg (by simp only [decide_eq_true_eq]; omega)]
theorem Same_self {L : List TrC} (hL : L.length <= 79000) : zfd 80000 L L = some true := by
 unfold zfd
 rw [if_neg (by simp)]
 exact Same_l1_self hL 80000 0 (Nat.zero_le _) (by omega)
theorem Ints_l1_self {L : List Int} (hL : L.length <= 79000) : ∀ n i, i <= L.length -> L.length - i < n -> zfe L L n (i : Int) = some true := by
 intro n
 induction n with
 | zero => intro i _ h; omega
 | succ n ih =>
  intro i hi hn
  unfold zfe r03_SameInts_i1_b1
  by_cases h : i < L.length
  ·rw [if_pos (by simp only [decide_eq_true_eq]; omega), at_lt h, Option.bind_some, Option.bind_some, if_neg (by simp), zfr (by omega)]
   exact ih (i + 1) (by omega) (by omega)
  ·rw [if_neg (by simp only [decide_eq_true_eq]; omega)]
theorem Ints_self {L : List Int} (hL : L.length <= 79000) : zff 80000 L L = some true := by
 unfold zff
 rw [if_neg (by simp)]
 exact Ints_l1_self hL 80000 0 (Nat.zero_le _) (by omega)
theorem cc_l1 (l : List (List (List UInt8))) (a : Alph) (v3 : List TrC × Int) (v6 : Int × List Int) : ∀ n i (L : List TrC), L.length <= 79000 -> i <= L.length -> L.length - i < n -> zfk 80000 l a v3 v6 n (i : Int) L = zfj 80000 l a v3 80000 (0 : Int) v6.2 := by
 intro n
 induction n with
 | zero => intro i L _ _ h; omega
 | succ n ih =>
  intro i L hL hi hn
  unfold zfk l28_CorrCounts_b1
  by_cases h : i < L.length
  ·rw [if_pos (by simp only [decide_eq_true_eq]; omega), at_lt h, Option.bind_some, zfr (by omega)]
   exact ih (i + 1) _ (by rw [List.length_set]; exact hL) (by rw [List.length_set]; omega) (by rw [List.length_set]; omega)
  ·rw [if_neg (by simp only [decide_eq_true_eq]; omega)]
theorem cc_l2 (l : List (List (List UInt8))) (a : Alph) (v3 : List TrC × Int) : ∀ n i (L : List Int), L.length <= 79000 -> i <= L.length -> L.length - i < n -> zfj 80000 l a v3 n (i : Int) L = zfi 80000 l a v3 80000 (0 : Int) := by
 intro n
 induction n with
 | zero => intro i L _ _ h; omega
 | succ n ih =>
  intro i L hL hi hn
  unfold zfj l28_CorrCounts_b2
  by_cases h : i < L.length
  ·rw [if_pos (by simp only [decide_eq_true_eq]; omega), at_lt h, Option.bind_some, zfr (by omega)]
   exact ih (i + 1) _ (by rw [List.length_set]; exact hL) (by rw [List.length_set]; omega) (by rw [List.length_set]; omega)
  ·rw [if_neg (by simp only [decide_eq_true_eq]; omega)]
abbrev tailW : List (List (List UInt8)) := [[[55, 55], []]]
theorem cc_sub (l : List (List (List UInt8))) : sub? (([] ++ l) ++ tailW) (0 : Int) (l.length : Int) = some l := by
 have := sub_pre0 (s := ([] ++ l) ++ tailW) (b := l.length) (by simp)
 rw [this]
 simp
theorem cc_l3 {K : Nat} (l : List (List (List UInt8))) (hl : l.length <= 5000) (a : Alph) {L : List TrC} {e : Int} (hC : zee K a l = some (e, L)) (hS : zfd K L L = some true) :
  ∀ n i, i <= l.length -> l.length - i < n -> zfi K l a (L, e) n (i : Int) = some true := by
 intro n
 induction n with
 | zero => intro i _ h; omega
 | succ n ih =>
  intro i hi hn
  unfold zfi l28_CorrCounts_b3
  by_cases h : i < l.length
  ·have hat : at? (([] ++ l) ++ tailW) (i : Int) = some (l[i]'h) := by
    rw [at_of, List.nil_append, List.getElem?_append_left h, List.getElem?_eq_getElem h]
   rw [if_pos (by simp only [decide_eq_true_eq]; omega)]
   rw [show at? ((([] : List (List (List UInt8))) ++ l) ++ ([([([55, 55] : List UInt8), ([] : List UInt8)] : List (List UInt8))] : List (List (List UInt8)))) (i : Int) = some (l[i]'h) from hat, Option.bind_some, at_lt h, Option.bind_some]
   rw [show eqEl (.arr 2 .str) (l[i]'h) (l[i]'h) = true from eqEl_self (.arr 2 .str) (l[i]'h) rfl, if_neg (by simp), zfr (by omega)]
   exact ih (i + 1) (by omega) (by omega)
  ·rw [if_neg (by simp only [decide_eq_true_eq]; omega)]
   rw [show sub? ((([] : List (List (List UInt8))) ++ l) ++ ([([([55, 55] : List UInt8), ([] : List UInt8)] : List (List UInt8))] : List (List (List UInt8)))) (0 : Int) (l.length : Int) = some l from cc_sub l, Option.bind_some]
   rw [show zee K ((a.1, a.2.1, ()) : Alph) l = some (e, L) from hC, Option.bind_some, if_pos (by simp)]
   rw [show zfd K (L, e).1 (e, L).2 = some true from hS, Option.bind_some]
   unfold zfh zfg
   have hat : at? (([] ++ l) ++ tailW) (l.length : Int) = some [[55, 55], []] := by
    rw [List.nil_append]; exact get_mid l _ []
   rw [if_pos rfl, show at? ((([] : List (List (List UInt8))) ++ l) ++ ([([([55, 55] : List UInt8), ([] : List UInt8)] : List (List UInt8))] : List (List (List UInt8)))) (l.length : Int) = some [[55, 55], []] from hat, Option.bind_some, at2_0, Option.bind_some]
   rfl
theorem CorrCounts_true (a : Alph) (l : List (List (List UInt8))) (h2 : ∀ g ∈ l, g.length = 2) : zfn 80000 a l = some true := by
 obtain ⟨b, hb, hlong⟩ := long_val a h2
 cases b with
 | true =>
  unfold zfn
  rw [show l28_long 80000 ((a.1, a.2.1, ()) : Alph) l = some true from hb, Option.bind_some, if_pos rfl]
 | false =>
  obtain ⟨hl1, hl2, hw⟩ := hlong rfl
  have h2w : ∀ g ∈ l, g.length = 2 /\ ∀ w ∈ g, w.length <= 1000 := fun g hg => ⟨h2 g hg, hw g hg⟩
  have hsame := aligned_same a hl2 h2w
  obtain ⟨al, e, hal, hcase⟩ := aligned_val a hl2 h2w
  rw [hal] at hsame
  -- all answers
  have ans : ∃ (L : List TrC) (e : Int) (R : Bool × Int × Int) (o : List Int), zee 80000 a l = some (e, L) /\ r28_Counts 80000 a l = some (L, e) /\ corr_Regular 80000 a l = some R /\ r28_Regular 80000 a l = some R /\
    zfb 80000 a l = some (e, o) /\ r28_Odd 80000 a l = some (o, e) /\ L.length <= 79000 /\ o.length <= 79000 := by
   unfold zee r28_Counts corr_Regular r28_Regular zfb r28_Odd
   rw [show zdv 80000 ((a.1, a.2.1, ()) : Alph) l = some (al, e) from hal, show r28_aligned 80000 ((a.1, a.2.1, ()) : Alph) l = some (al, e) from hsame]
   rcases hcase with ⟨he, rfl⟩ | ⟨rfl, hc, hl4, hmap, hg⟩
   ·have hne : (e != 0) = true := by simpa using he
    refine ⟨[], e, (false, 0, e), [], ?_, ?_, ?_, ?_, ?_, ?_, by simp, by simp⟩
    all_goals (rw [Option.bind_some, if_pos hne])
   ·have hlen : al.length = l.length := by rw [hmap, List.length_map]
    have hgl : ∀ x ∈ al, x.length <= 128 /\ ∀ p ∈ x, PairOK a p := by
     intro x hx
     rw [hmap] at hx
     obtain ⟨g, hg', rfl⟩ := List.mem_map.1 hx
     exact (hg g hg').2
    have hflat : ∀ (L : List (List Pr)), (∀ x ∈ L, x.length <= 128) -> L.flatten.length <= 128 * L.length := by
     intro L
     induction L with
     | nil => intro _; simp
     | cons x L ih =>
      intro h
      have := ih fun y hy => h y (List.mem_cons_of_mem _ hy)
      have := h x List.mem_cons_self
      rw [List.flatten_cons, List.length_append, List.length_cons]
      omega
    have hN := hflat al fun x hx => (hgl x hx).1
    have hNN : al.flatten.length <= 70000 := by omega
    have hgl2 : ∀ x ∈ al, x.length <= 1000 /\ ∀ p ∈ x, PairOK a p := fun x hx => ⟨by have := (hgl x hx).1; omega, (hgl x hx).2⟩
    have ha5 : al.length <= 5000 := by omega
    obtain ⟨v, hv, C⟩ := counted_val a hc ha5 hgl2 hNN
    have hrv := refCounted_val a hc ha5 hgl2 hNN C
    have hlen5 : v.length <= 70000 := by have := C.len; omega
    have Cm := Cnt.nil.fold al.flatten (by rw [List.length_nil]; omega)
    rw [List.nil_append] at Cm
    have hll : a.2.1.length <= 128 := (chkA_len hc).2.2
    have hok : ∀ p ∈ v, PairOK a p := fun p hp => by
     obtain ⟨x, hx, hpx⟩ := List.mem_flatten.1 ((C.mem p).1 hp)
     exact (hgl2 x hx).2 p hpx
    have hord : v.Pairwise fun x y => ¬ B3 (lsOf a) (y, cntOf (al.flatten.foldl bump []) y, ()) (x, cntOf (al.flatten.foldl bump []) x, ()) := C.ord.imp fun {x y} h => h
    have hpos : ∀ p ∈ v, 1 <= cntOf (al.flatten.foldl bump []) p := fun p hp => Cm.pos p ((C.mem p).1 hp)
    obtain ⟨m', ho1, ho2⟩ := oddI_l1 (v := v) (by omega) (cntOf (al.flatten.foldl bump [])) (al, 0) 80000 0 [] (Nat.zero_le _) (by omega) (fun r => by simp [mget, usV])
    have ho3 := oddI_l2 (v := v) ha5 (fun x hx => (hgl2 x hx).1) m' ho2 80000 0 [] (Nat.zero_le _) (by omega) (by simp)
    rw [List.nil_append, List.drop_zero] at ho3
    have hu : ∀ r : Int, r28_usual 80000 a (v.map fun p => (p, cntOf (al.flatten.foldl bump []) p, ())) r = some ((usV v r).getD 0) := fun r => by
     unfold r28_usual
     exact usual_l1 hc (by omega) _ hpos hok hord r 80000 0 0 0 0 (Nat.zero_le _) (by omega) (.inl ⟨by simp, rfl, rfl⟩)
    have ho4 := refOdd_l1 hu ha5 (fun x hx => (hgl2 x hx).1) 80000 0 [] (Nat.zero_le _) (by omega) (by simp)
    rw [List.nil_append, List.drop_zero] at ho4
    have hreg := regSame_l1 hc ha5 hgl2 80000 0 [] (List.replicate a.2.1.length 0) (List.replicate a.2.1.length false) (Nat.zero_le _) (by omega) ⟨by simp, by simp, fun r hr => by
     rw [List.getD_eq_getElem?_getD, List.getElem?_replicate]
     split
     ·simp [mget]
     ·simp [mget]⟩
    have hreg1 := regular_l1 (al := al) ha5 (fun x hx => (hgl2 x hx).1) 80000 0 [] [] (Nat.zero_le _) (by omega) ⟨fun p hp => (by cases hp), fun r u hu => by simp [mget] at hu⟩
    obtain ⟨R, hR⟩ : ∃ R, zd4 80000 (al, 0) 80000 (0 : Int) [] = some R := by
     rcases hreg1 with ⟨e1, _⟩ | ⟨t, e1, _⟩
     ·exact ⟨_, e1⟩
     ·exact ⟨_, e1⟩
    have hlb := lim_big
    refine ⟨v.map fun p => (p, cntOf (al.flatten.foldl bump []) p, ()), 0, R, oddL (oddP v) al 0, ?_, ?_, ?_, ?_, ?_, ?_, by rw [List.length_map]; omega, by have := oddL_len (oddP v) al 0; omega⟩
    ·rw [Option.bind_some, if_neg (by simp), counted_i1_eq, show zd1 80000 ((a.1, a.2.1, ()) : Alph) ((al, (0 : Int)) : List (List Pr) × Int).1 = _ from hv, Option.bind_some]
    ·rw [Option.bind_some, if_neg (by simp), show r28_counted 80000 ((a.1, a.2.1, ()) : Alph) ((al, (0 : Int)) : List (List Pr) × Int).1 = _ from hrv, Option.bind_some]
    ·rw [Option.bind_some, if_neg (by simp)]
     exact hR
    ·rw [Option.bind_some, if_neg (by simp), chk_of (by omega), Option.bind_some, Option.bind_some, Int.toNat_natCast]
     exact hreg.trans hR
    ·rw [Option.bind_some, if_neg (by simp), show zd1 80000 ((a.1, a.2.1, ()) : Alph) ((al, (0 : Int)) : List (List Pr) × Int).1 = _ from hv, Option.bind_some]
     exact ho1.trans ho3
    ·rw [Option.bind_some, if_neg (by simp), show r28_counted 80000 ((a.1, a.2.1, ()) : Alph) ((al, (0 : Int)) : List (List Pr) × Int).1 = _ from hrv, Option.bind_some]
     exact ho4
  clear hcase hsame hal
  obtain ⟨L, e, R, o, c1, c2, c3, c4, c5, c6, hL, hO⟩ := ans
  have hS := Same_self hL
  have hI := Ints_self hO
  have hlb := lim_big
  have t1 : zfk 80000 l a (L, e) (e, o) 80000 (0 : Int) L = some true := by
   refine (cc_l1 l a (L, e) (e, o) 80000 0 L hL (Nat.zero_le _) (by omega)).trans ?_
   refine (cc_l2 l a (L, e) 80000 0 o hO (Nat.zero_le _) (by omega)).trans ?_
   exact cc_l3 l hl2 a c1 hS 80000 0 (Nat.zero_le _) (by omega)
  generalize 80000 = K at *
  unfold zfn
  rw [show l28_long K ((a.1, a.2.1, ()) : Alph) l = some false from hb, Option.bind_some, if_neg (by simp)]
  rw [chk_of (by simp only [List.length_nil]; omega), Option.bind_some, chk_of (by simp only [List.length_append, List.length_cons, List.length_nil]; omega), Option.bind_some]
  have hs : sub? ((([] : List (List (List UInt8))) ++ l) ++ ([([([55, 55] : List UInt8), ([] : List UInt8)] : List (List UInt8))] : List (List (List UInt8)))) (0 : Int) (l.length : Int) = some l := cc_sub l
  rw [hs, Option.bind_some, show zee K ((a.1, a.2.1, ()) : Alph) l = some (e, L) from c1, Option.bind_some, show r28_Counts K ((a.1, a.2.1, ()) : Alph) l = some (L, e) from c2, Option.bind_some, Option.bind_some,
   show corr_Regular K ((a.1, a.2.1, ()) : Alph) l = some R from c3, Option.bind_some, show r28_Regular K ((a.1, a.2.1, ()) : Alph) l = some R from c4, Option.bind_some, Option.bind_some,
   show zfb K ((a.1, a.2.1, ()) : Alph) l = some (e, o) from c5, Option.bind_some, show r28_Odd K ((a.1, a.2.1, ()) : Alph) l = some (o, e) from c6, Option.bind_some]
  rw [if_neg (by simp), show zfd K (L, e).1 (e, L).2 = some true from hS, Option.bind_some]
  unfold zfm l28_CorrCounts_j2 l28_CorrCounts_j3 l28_CorrCounts_j4
  rw [show ((((!true || !R.1 == R.1) || R.2.1 != R.2.1) || R.2.2 != R.2.2) || (e, o).1 != (o, e).2) = false from by simp]
  unfold l28_CorrCounts_j5
  rw [if_neg (by simp), show zff K (o, e).1 (e, o).2 = some true from hI, Option.bind_some]
  unfold zfl
  rw [if_neg (by simp)]
  exact t1
end Go.Ev
namespace Go.Ev
open Go Go.RowKit Go.WideShapes
variable [Dr]
def wfEl : (t : Ty) -> t.el -> Prop
 | .int k, n => (Lit.int k n).wf = true
 | .str, s => List.length (α := UInt8) s <= maxLen
 | .sl t, xs => List.length (α := t.el) xs <= maxLen /\ ∀ x ∈ (show List t.el from xs), wfEl t x
 | .pair a b, x => wfEl a x.1 /\ wfEl b x.2
 | .arr n t, xs => List.length (α := t.el) xs = n /\ ∀ x ∈ (show List t.el from xs), wfEl t x
 | _, _ => True
def argOK : Ty -> Bool
 | .int _ => true
 | .bool => true
 | .str => true
 | .sl t => argOK t
 | .unit => true
 | .pair a b => argOK a && argOK b
 | .arr _ t => argOK t
 | _ => false
theorem cells?_facts {w : World} {a : Addr} {n : Nat} {c : List Value} (h : w.cells? 0 a n = some c) : c.length = n /\ ∀ j v, c[j]? = some v -> w.cell? (a.add j) = some v := by
 unfold World.cells? at h
 rw [if_pos (Nat.zero_le _)] at h
 have hl : c.length = n := by simpa using mapM_some_length h
 refine ⟨hl, fun j v hj => ?_⟩
 have hlt : j < n := by rw [<- hl]; exact (List.getElem?_eq_some_iff.1 hj).1
 have := mapM_some_get h j j (by simp [hlt])
 rw [this, hj]
theorem repL_snoc {α : Type} {f : List Value -> α -> Prop} : ∀ {xs : List α} {cs c : List Value} {x : α}, repL f cs xs -> f c x -> repL f (cs ++ c) (xs ++ [x])
 | [], cs, c, x, h, hx => by cases h; exact ⟨c, [], by simp, hx, rfl⟩
 | y :: ys, cs, c, x, ⟨c1, c2, e, h1, h2⟩, hx => ⟨c1, c2 ++ c, by simp [e], h1, repL_snoc h2 hx⟩
theorem list_snoc {α : Type} {p : α -> Prop} {xs : List α} {y : α} (h : ∀ x ∈ xs, p x) (hy : p y) : ∀ x ∈ xs ++ [y], p x := by
 intro x hx
 rcases List.mem_append.1 hx with hx | hx
 ·exact h x hx
 ·simp at hx; subst hx; exact hy
theorem fields_rep {H : Type} {enc : TypeId × Value -> H} {P : Program} {w : World} {spare : Nat -> Bool} {held : Bool} {d n : Nat}
  (ih : ∀ (t : TypeId) (u : Ty), tyOf P d t = some u -> argOK u = true -> ∀ (cs : List Value) (x : DataW H × List MemPlace), DataW.trod enc P w 0 spare held n t cs = some x -> ∃ y : u.el, rep w (fun _ => False) u cs y /\ wfEl u y) :
  ∀ (fs : List Field) (off : Nat) (u : Ty), fieldsOf (tyOf P d) off fs = some u -> argOK u = true -> ∀ (cs : List Value), cs.length = off + u.cells -> (∀ f ∈ fs, ∃ x, DataW.trod enc P w 0 spare held n f.type ((cs.drop f.offset).take (P.cellsOf f.type)) = some x) ->
   ∃ y : u.el, rep w (fun _ => False) u (cs.drop off) y /\ wfEl u y
 | [], off, u, h, _, cs, hl, _ => by
  simp only [fieldsOf, Option.some.injEq] at h
  subst h
  refine ⟨(), ?_, trivial⟩
  show cs.drop off = []
  exact List.drop_eq_nil_of_le (by rw [hl]; exact Nat.le_refl _)
 | fd :: fs, off, u, h, ha, cs, hl, hall => by
  unfold fieldsOf at h
  cases hb : Nat.beq fd.offset off with
  | false => rw [hb] at h; cases h
  | true =>
   have hoff := Nat.eq_of_beq_eq_true hb
   rw [hb, cond_true] at h
   split at h
   ·rename_i a hta
    split at h
    ·rename_i b hfs
     cases h
     simp only [argOK, Bool.and_eq_true] at ha
     obtain ⟨x, hx⟩ := hall fd List.mem_cons_self
     obtain ⟨y, h1, h2⟩ := ih fd.type a hta ha.1 _ x hx
     have hl' : cs.length = (off + a.cells) + b.cells := by rw [hl]; show off + (a.cells + b.cells) = _; omega
     obtain ⟨z, h3, h4⟩ := fields_rep ih fs (off + a.cells) b hfs ha.2 cs hl' fun f hf => hall f (List.mem_cons_of_mem _ hf)
     refine ⟨(y, z), ⟨(cs.drop off).take a.cells, cs.drop (off + a.cells), ?_, ?_, h3⟩, h2, h4⟩
     ·rw [<- List.drop_drop, List.take_append_drop]
     ·rw [hoff, cells_of hta] at h1; exact h1
    ·cases h
   ·cases h
theorem trod_rep {H : Type} {enc : TypeId × Value -> H} {P : Program} {w : World} {spare : Nat -> Bool} {held : Bool} : ∀ (d : Nat) (t : TypeId) (u : Ty), tyOf P d t = some u -> argOK u = true -> ∀ (fuel : Nat) (cs : List Value) (x : DataW H × List MemPlace),
  DataW.trod enc P w 0 spare held fuel t cs = some x -> ∃ y : u.el, rep w (fun _ => False) u cs y /\ wfEl u y
 | 0, _, _, h => by cases h
 | d + 1, t, u, h => by
  intro ha fuel cs x hx
  unfold tyOf at h
  split at h
  ·rename_i i k hi hu
   cases hb : Nat.beq i.size 1 <;> rw [hb] at h <;> cases h
   obtain ⟨n, rfl, _, hw⟩ := DataW.trod_int hu hx
   exact ⟨n, rfl, hw⟩
  ·rename_i i hi hu
   cases hb : Nat.beq i.size 1 <;> rw [hb] at h <;> cases h
   obtain ⟨b, rfl, _⟩ := DataW.trod_bool hu hx
   exact ⟨b, rfl, trivial⟩
  ·rename_i i hi hu
   cases hb : Nat.beq i.size 1 <;> rw [hb] at h <;> cases h
   obtain ⟨s, rfl, _, hw⟩ := DataW.trod_string hu hx
   have hl : List.length s.data.toList <= maxLen := by rw [Array.length_toList]; exact hw
   exact ⟨s.data.toList, ⟨rfl, hl⟩, hl⟩
  ·rename_i i e hi hu
   cases hb : Nat.beq i.size 1 <;> rw [hb] at h
   ·cases h
   rw [cond_true] at h
   split at h
   case h_2 => cases h
   rename_i v hv
   cases h
   rcases DataW.trod_slice hu hx with ⟨rfl, _⟩ | ⟨a, len, cap, elems, rest, n, _, rfl, _, _, hlc, hcap, hel, hall, _⟩
   ·exact ⟨[], ⟨none, 0, [], rfl, Nat.le_refl _, by decide, fun _ => rfl, rfl, fun j u hj => by simp at hj⟩, Nat.zero_le _, fun x hx => by cases hx⟩
   ·have key : ∀ k, k <= len -> ∃ (ys : List v.el) (cells : List Value), ys.length = k /\ repL (rep w (fun _ => False) v) cells ys /\ (∀ y ∈ ys, wfEl v y) /\ cells.length = k * v.cells /\ ∀ j u, cells[j]? = some u -> w.cell? (a.add j) = some u := by
     intro k
     induction k with
     | zero => intro _; exact ⟨[], [], rfl, rfl, (fun y hy => by cases hy), by simp, fun j u hj => by simp at hj⟩
     | succ k ihk =>
      intro hk
      obtain ⟨ys, cells, h1, h2, h3, h4, h5⟩ := ihk (by omega)
      have hk' := hall k (by omega)
      have : ∃ z, elems[k]? = some z := ⟨_, List.getElem?_eq_getElem (by omega)⟩
      obtain ⟨z, hz⟩ := this
      rw [hz, Option.bind_eq_some_iff] at hk'
      obtain ⟨c, hc, htr⟩ := hk'
      obtain ⟨c1, c2⟩ := cells?_facts hc
      obtain ⟨y, r1, r2⟩ := trod_rep d e v hv ha n c z htr
      rw [cells_of hv] at c1 c2
      refine ⟨ys ++ [y], cells ++ c, by simp [h1], repL_snoc h2 r1, list_snoc h3 r2, by rw [List.length_append, h4, c1, Nat.succ_mul], fun j u hj => ?_⟩
      by_cases hlt : j < cells.length
      ·rw [List.getElem?_append_left hlt] at hj; exact h5 j u hj
      ·rw [List.getElem?_append_right (by omega)] at hj
       have := c2 _ u hj
       rw [add_add, h4] at this
       rw [h4] at hlt
       rwa [show k * v.cells + (j - k * v.cells) = j by omega] at this
    obtain ⟨ys, cells, h1, h2, h3, h4, h5⟩ := key len (Nat.le_refl _)
    refine ⟨ys, ⟨some a, cap, cells, by rw [h1], by rw [h1]; exact hlc, hcap, (fun hn : some a = none => by cases hn), h2, fun j u hj => ⟨a, rfl, h5 j u hj, fun h => h⟩⟩, by rw [h1]; exact Nat.le_trans hlc hcap, h3⟩
  ·rename_i i fs hi hu
   split at h
   case h_2 => cases h
   rename_i v hv
   cases hb : Nat.beq i.size v.cells <;> rw [hb] at h <;> cases h
   obtain ⟨xs, n, _, _, hl, hlen, hall⟩ := DataW.trod_struct hu hx
   have hcl : cs.length = u.cells := by
    rw [hl]
    simp [Program.cellsOf, hi, Nat.eq_of_beq_eq_true hb]
   have := fields_rep (n := n) (fun t' u' ht' ha' cs' x' hx' => trod_rep d t' u' ht' ha' n cs' x' hx') fs.toList 0 u hv ha cs (by rw [hcl, Nat.zero_add]) (by
    intro f hf
    obtain ⟨j, hj, e⟩ := List.getElem_of_mem hf
    have hj' : j < fs.size := by simpa using hj
    have := hall j f (by rw [Array.getElem?_eq_getElem hj', <- e]; simp)
    rw [this]
    exact ⟨_, List.getElem?_eq_getElem (by omega)⟩)
   rw [List.drop_zero] at this
   exact this
  ·rename_i i ms hi hu
   cases hb : Nat.beq i.size 1 <;> rw [hb] at h <;> cases h
   cases ha
  ·rename_i i n e hi hu
   split at h
   case h_2 => cases h
   rename_i v hv
   cases hb : Nat.beq i.size (n * v.cells) <;> rw [hb] at h <;> cases h
   obtain ⟨xs, m, _, _, hl, hlen, hall⟩ := DataW.trod_array hu hx
   have hcl : cs.length = n * v.cells := by
    rw [hl]
    simp [Program.cellsOf, hi, Nat.eq_of_beq_eq_true hb]
   have key : ∀ k, k <= n -> ∃ ys : List v.el, ys.length = k /\ repL (rep w (fun _ => False) v) (cs.take (k * v.cells)) ys /\ ∀ y ∈ ys, wfEl v y := by
    intro k
    induction k with
    | zero => intro _; exact ⟨[], rfl, by simp [repL], fun y hy => by cases hy⟩
    | succ k ihk =>
     intro hk
     obtain ⟨ys, h1, h2, h3⟩ := ihk (by omega)
     have hk' := hall k (by omega)
     obtain ⟨z, hz⟩ : ∃ z, xs[k]? = some z := ⟨_, List.getElem?_eq_getElem (by omega)⟩
     rw [hz] at hk'
     obtain ⟨y, r1, r2⟩ := trod_rep d e v hv ha m _ z hk'
     rw [cells_of hv] at r1
     refine ⟨ys ++ [y], by simp [h1], ?_, list_snoc h3 r2⟩
     have e1 : cs.take ((k + 1) * v.cells) = cs.take (k * v.cells) ++ (cs.drop (k * v.cells)).take v.cells := by
      rw [Nat.succ_mul, List.take_add]
     rw [e1]
     exact repL_snoc h2 r1
   obtain ⟨ys, h1, h2, h3⟩ := key n (Nat.le_refl _)
   rw [List.take_of_length_le (by omega)] at h2
   exact ⟨ys, ⟨h1, h2⟩, h1, h3⟩
  ·rename_i i k e hi hu
   cases hb : Nat.beq i.size 1 <;> rw [hb] at h
   ·cases h
   rw [cond_true] at h
   split at h
   ·cases h; cases ha
   ·cases h
  ·rename_i i a b c hi hu
   cases hb : Nat.beq i.size 1 <;> rw [hb] at h <;> cases h
   cases ha
  ·rename_i i e hi hu
   cases hb : Nat.beq i.size 1 <;> rw [hb] at h <;> cases h
   cases ha
  ·cases h
theorem open_arg {H : Type} {enc : TypeId × Value -> H} {P : Program} {w : World} {spare : Nat -> Bool} {held : Bool} {r : Reach} {b0 : Nat} {t : TypeId} {u : Ty} (ht : ty P t = some u) (ha : argOK u = true) {v : Value} {d : DataW H} {ps : List MemPlace}
  (hval : Value.okWide P w r b0 t v) (hd : DataW.Trod enc P w 0 spare held t v d ps) : ∃ x : u.el, repV w (fun _ => False) v u x /\ wfEl u x := by
 obtain ⟨fuel, hf⟩ := hd
 obtain ⟨x, h1, h2⟩ := trod_rep dep t u ht ha fuel _ _ hf
 refine ⟨x, ?_, h2⟩
 obtain ⟨i, hi, hsz, hfacts⟩ := zav ht
 cases hag : u.agg with
 | true =>
  have : ∃ cs, v = .agg cs := by
   have hs : (∃ fs, P.underlying t = some (.struct fs)) \/ ∃ n e, P.underlying t = some (.array n e) := by
    cases u with
    | unit => obtain ⟨fs, _, h, _⟩ := hfacts; exact .inl ⟨fs, h⟩
    | pair a b => obtain ⟨fs, _, h, _⟩ := hfacts; exact .inl ⟨fs, h⟩
    | arr n t => obtain ⟨e, _, h, _⟩ := hfacts; exact .inr ⟨n, e, h⟩
    | _ => cases hag
   unfold Value.okWide at hval
   rcases hs with ⟨fs, h⟩ | ⟨n, e, h⟩
   ·rw [h] at hval; obtain ⟨cs, e, _⟩ := hval; exact ⟨cs, e⟩
   ·rw [h] at hval; obtain ⟨cs, e, _⟩ := hval; exact ⟨cs, e⟩
  obtain ⟨cs, rfl⟩ := this
  exact (za4 hag).2 ⟨cs.toList, by simp, h1⟩
 | false =>
  refine (za3 hag).2 ?_
  have hv : v.cells.toList = [v] := by
   cases u with
   | int k => obtain ⟨n, rfl⟩ := okWide_int hfacts hval; rfl
   | bool => obtain ⟨n, rfl⟩ := okWide_bool hfacts hval; rfl
   | str => obtain ⟨n, rfl⟩ := okWide_string hfacts hval; rfl
   | sl e => obtain ⟨e', _, hs, _⟩ := hfacts; obtain ⟨a, l, c, rfl⟩ := okWide_slice hs hval; rfl
   | unit => cases hag
   | pair a b => cases hag
   | arr n t => cases hag
   | _ => cases ha
  rw [hv] at h1
  exact h1
end Go.Ev
namespace Go.Ev
open Go
def K_CorrCounts : Nat := 80000
theorem CorrCounts_true' (x0 : Alph) (x1 : List (List (List UInt8))) (k0 : wfEl (.pair (.sl .str) (.pair (.sl (.pair (.int .i32) (.pair (.int .u32) (.pair (.int .u32) .unit)))) .unit)) x0) (k1 : wfEl (.sl (.arr 2 .str)) x1) : zfn K_CorrCounts x0 x1 = some true :=
 CorrCounts_true x0 x1 fun g hg => (k1.2 g hg).1
end Go.Ev
