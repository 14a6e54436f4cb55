/- Plain law: the row of texts, by the program and by the reference. -/
import Derived.Test.YtciikbiapmbocaaDoorPlA
namespace Go.Ev
open Go
set_option linter.unusedVariables false

/-- The pieces from place p on. -/
def pl (s : List UInt8) (p : Nat) : List (Int × Int × Int × Bool × Unit) :=
  if h : p < s.length then pc s p :: pl s (p + (g s p).2) else []
  termination_by s.length - p
  decreasing_by
    have := g_size s p h
    omega
theorem pl_cons {s : List UInt8} {p : Nat} (h : p < s.length) : pl s p = pc s p :: pl s (p + (g s p).2) := by rw [pl, dif_pos h]
theorem pl_nil {s : List UInt8} {p : Nat} (h : ¬ p < s.length) : pl s p = [] := by rw [pl, dif_neg h]

theorem pl_length (s : List UInt8) : ∀ n p, s.length - p < n → (pl s p).length ≤ s.length - p := by
  intro n
  induction n with
  | zero => intro p h; omega
  | succ n ih =>
    intro p h
    by_cases hp : p < s.length
    · have hg := g_size s p hp
      have := ih (p + (g s p).2) (by omega)
      rw [pl_cons hp, List.length_cons]
      omega
    · rw [pl_nil hp]; simp

theorem All_l1_eq {k : Nat} {s : List UInt8} (hk : 6 ≤ k) (hs : s.length ≤ 65536) : ∀ n p (out : List (Int × Int × Int × Bool × Unit)), p ≤ s.length → s.length - p < n → out.length + (s.length - p) ≤ 200000 →
    r01_All_l1 k s n (p : Int) out = some (out ++ pl s p) := by
  intro n
  induction n with
  | zero => intro p out _ h; omega
  | succ n ih =>
    intro p out h1 h2 h3
    unfold r01_All_l1 r01_All_b1
    by_cases hp : p < s.length
    · have hg := g_size s p hp
      rw [if_pos (decide_eq_true (show (p : Int) < (s.length : Int) by omega))]
      simp only [At_eq hk hp hs, Option.bind]
      have hc : chk (List.length out + List.length ([((pc s p).1, (pc s p).2.1, (pc s p).2.2.1, (pc s p).2.2.2.1, ())] : List ((Int × Int × Int × Bool × Unit))) ≤ lim) = some () := by
        unfold chk lim
        rw [if_pos (by simp only [List.length_cons, List.length_nil]; omega)]
      simp only [hc]
      have e : wi64 ((p : Int) + (pc s p).2.2.1) = ((p + (g s p).2 : Nat) : Int) := by
        show wi64 ((p : Int) + ((g s p).2 : Int)) = _
        rw [wi64_id] <;> omega
      rw [e, ih _ _ (by omega) (by omega) (by simp only [List.length_append, List.length_cons, List.length_nil]; omega), pl_cons hp]
      simp [pc]
    · rw [if_neg (by simp only [decide_eq_true_eq]; omega), pl_nil hp]
      simp

theorem All_eq {k : Nat} {s : List UInt8} (hk : 80000 ≤ k) (hs : s.length ≤ 65536) : r01_All k s = some (pl s 0) := by
  unfold r01_All
  have := All_l1_eq (k := k) (s := s) (by omega) hs k 0 [] (by omega) (by omega) (by simp only [List.length_nil]; omega)
  simpa using this

/-- What a piece weighs. -/
def wt (s : List UInt8) (p : Nat) : Nat := if bad s p then 1114112 + gb s p else (g s p).1

def cmp (a b : List UInt8) (p q : Nat) : Bool :=
  if h : p < a.length ∧ q < b.length then
    if wt a p = wt b q then cmp a b (p + (g a p).2) (q + (g b q).2) else decide (wt a p < wt b q)
  else decide (¬ p < a.length ∧ q < b.length)
  termination_by a.length - p
  decreasing_by
    have := g_size a p h.1
    omega
theorem cmp_step {a b : List UInt8} {p q : Nat} (h : p < a.length ∧ q < b.length) : cmp a b p q = if wt a p = wt b q then cmp a b (p + (g a p).2) (q + (g b q).2) else decide (wt a p < wt b q) := by rw [cmp, dif_pos h]
theorem cmp_end {a b : List UInt8} {p q : Nat} (h : ¬ (p < a.length ∧ q < b.length)) : cmp a b p q = decide (¬ p < a.length ∧ q < b.length) := by rw [cmp, dif_neg h]

/-- What a piece weighs by the reference. -/
def wr (s : List UInt8) (p : Nat) : Nat := if bad s p then 2097152 + gb s p else (g s p).1
theorem wr_row (a b : List UInt8) (p q : Nat) : (wr a p = wr b q ↔ wt a p = wt b q) ∧ (wr a p < wr b q ↔ wt a p < wt b q) := by
  have r1 := g_rune a p
  have r2 := g_rune b q
  unfold wr wt
  constructor <;> (split <;> split <;> omega)
theorem weight_eq {k : Nat} {s : List UInt8} {p : Nat} (h : p < s.length) : r01_weight k s (pc s p) = some (wr s p : Int) := by
  have hb := gb_lt s p
  have hr := g_rune s p
  unfold r01_weight wr
  have c' : (pc s p).2.2.2.1 = bad s p := rfl
  rw [c']
  cases c : bad s p
  · simp only [Bool.false_eq_true, if_false]
    rw [show (pc s p).1 = ((g s p).1 : Int) from rfl, wi64_id (by omega) (by omega)]
  · simp only [if_true]
    rw [show (pc s p).2.1 = (p : Int) from rfl, byteAt_gb h]
    simp only [Option.bind]
    rw [show wi64 (gb s p : Int) = (gb s p : Int) by rw [wi64_id] <;> omega, wi64_id (by omega) (by omega)]
    congr 1

theorem Less_l1_ref {k : Nat} {a b : List UInt8} (ha : a.length ≤ 65536) (hb : b.length ≤ 65536) : ∀ n p q i, (pl a 0).drop i = pl a p → (pl b 0).drop i = pl b q → i ≤ (pl a 0).length → i ≤ (pl b 0).length →
    a.length - p < n → r01_Less_l1 k (pl a 0) a (pl b 0) b n (i : Int) = some (cmp a b p q) := by
  have la := pl_length a (a.length + 1) 0 (by omega)
  have lb := pl_length b (b.length + 1) 0 (by omega)
  intro n
  induction n with
  | zero => intro p q i _ _ _ _ h; omega
  | succ n ih =>
    intro p q i e1 e2 i1 i2 h
    have l1 : (pl a 0).length - i = (pl a p).length := by rw [← e1]; simp
    have l2 : (pl b 0).length - i = (pl b q).length := by rw [← e2]; simp
    unfold r01_Less_l1 r01_Less_b1
    by_cases hp : p < a.length
    · rw [pl_cons hp] at l1 e1
      rw [List.length_cons] at l1
      by_cases hq : q < b.length
      · rw [pl_cons hq] at l2 e2
        rw [List.length_cons] at l2
        have t : (decide ((i : Int) < (List.length (pl a 0) : Int)) && (decide ((i : Int) < (List.length (pl b 0) : Int)))) = true := by simp; omega
        rw [t]
        have g1 : at? (pl a 0) (i : Int) = some (pc a p) := by
          unfold at?
          rw [if_pos (by omega), Int.toNat_natCast]
          have := congrArg (fun l => l[0]?) e1
          simpa using this
        have g2 : at? (pl b 0) (i : Int) = some (pc b q) := by
          unfold at?
          rw [if_pos (by omega), Int.toNat_natCast]
          have := congrArg (fun l => l[0]?) e2
          simpa using this
        unfold r01_Less_j1
        simp only [if_true, g1, g2, Option.bind, weight_eq hp, weight_eq hq]
        rw [cmp_step ⟨hp, hq⟩, show wi64 ((i : Int) + 1) = ((i + 1 : Nat) : Int) by rw [wi64_id] <;> omega]
        have d1 : (pl a 0).drop (i + 1) = pl a (p + (g a p).2) := by rw [← List.drop_drop, e1]; simp
        have d2 : (pl b 0).drop (i + 1) = pl b (q + (g b q).2) := by rw [← List.drop_drop, e2]; simp
        have sz := g_size a p hp
        rw [ih _ _ _ d1 d2 (by omega) (by omega) (by omega)]
        have hw := wr_row a b p q
        by_cases e : wt a p = wt b q
        · have e' := hw.1.2 e
          rw [if_neg (by simp only [bne_iff_ne, ne_eq]; omega), if_pos e]
        · have e' : ¬ wr a p = wr b q := fun h => e (hw.1.1 h)
          rw [if_pos (by simp only [bne_iff_ne, ne_eq]; omega), if_neg e]
          congr 1
          rw [decide_eq_decide, ← hw.2]
          omega
      · rw [pl_nil hq] at l2
        simp only [List.length_nil] at l2
        have t : (decide ((i : Int) < (List.length (pl a 0) : Int)) && (decide ((i : Int) < (List.length (pl b 0) : Int)))) = false := by simp; omega
        rw [t, cmp_end (by omega)]
        unfold r01_Less_j1
        simp only [Bool.false_eq_true, if_false]
        congr 1
        rw [decide_eq_decide]
        omega
    · rw [pl_nil hp] at l1
      simp only [List.length_nil] at l1
      have t : (decide ((i : Int) < (List.length (pl a 0) : Int)) && (decide ((i : Int) < (List.length (pl b 0) : Int)))) = false := by simp; omega
      rw [t, cmp_end (by omega)]
      unfold r01_Less_j1
      simp only [Bool.false_eq_true, if_false]
      congr 1
      rw [decide_eq_decide]
      by_cases hq : q < b.length
      · rw [pl_cons hq] at l2
        rw [List.length_cons] at l2
        omega
      · rw [pl_nil hq] at l2
        simp only [List.length_nil] at l2
        omega

theorem Less_ref {k : Nat} {a b : List UInt8} (hk : 80000 ≤ k) (ha : a.length ≤ 65536) (hb : b.length ≤ 65536) : r01_Less k a b = some (cmp a b 0 0) := by
  unfold r01_Less
  simp only [All_eq hk ha, All_eq hk hb, Option.bind]
  exact Less_l1_ref ha hb k 0 0 0 (by simp) (by simp) (by omega) (by omega) (by omega)

theorem gb_drop (s : List UInt8) (p i : Nat) : gb (s.drop p) i = gb s (p + i) := by
  unfold gb
  simp [List.getD_eq_getElem?_getD]
theorem g_drop (s : List UInt8) (p i : Nat) : g (s.drop p) i = g s (p + i) := by
  unfold g
  simp only [gb_drop, List.length_drop, ← Nat.add_assoc, Nat.sub_sub]
theorem decodeGo_drop {s : List UInt8} {p : Nat} (h : p < s.length) : Lib.decodeGo ⟨(s.drop p).toArray⟩ = g s p := by
  unfold Lib.decodeGo
  rw [if_neg (by simp [ByteArray.size]; omega), decode_g, g_drop]
  rfl
theorem sub_drop {s : List UInt8} {p n : Nat} (h : p + n ≤ s.length) : sub? (s.drop p) (n : Int) ((s.drop p).length : Int) = some (s.drop (p + n)) := by
  unfold sub?
  rw [if_pos (by simp only [List.length_drop]; omega), Int.toNat_natCast, Int.toNat_natCast, List.take_length, List.drop_drop]
theorem drop_nil {s : List UInt8} {p : Nat} (h : p ≤ s.length) : (s.drop p == ([] : List UInt8)) = decide (¬ p < s.length) := by
  rw [Bool.eq_iff_iff]
  simp

theorem Less_l1_prog {k : Nat} {a b : List UInt8} : ∀ n p q, p ≤ a.length → q ≤ b.length → a.length - p < n → runes_Less_l1 k n (a.drop p) (b.drop q) = some (cmp a b p q) := by
  intro n
  induction n with
  | zero => intro p q _ _ h; omega
  | succ n ih =>
    intro p q h1 h2 h
    unfold runes_Less_l1 runes_Less_b1
    rw [drop_nil h1, drop_nil h2]
    by_cases hc : p < a.length ∧ q < b.length
    · have t : (!(decide (¬ p < a.length)) && !(decide (¬ q < b.length))) = true := by simp; omega
      rw [t]
      have sz1 := g_size a p hc.1
      have sz2 := g_size b q hc.2
      have r1 := g_rune a p
      have r2 := g_rune b q
      have b1 := gb_lt a p
      have b2 := gb_lt b q
      have y1 : byteAt (a.drop p) (0 : Int) = some (gb a p : Int) := by
        have := byteAt_gb (s := a.drop p) (i := 0) (by simp only [List.length_drop]; omega)
        rw [gb_drop] at this
        exact this
      have y2 : byteAt (b.drop q) (0 : Int) = some (gb b q : Int) := by
        have := byteAt_gb (s := b.drop q) (i := 0) (by simp only [List.length_drop]; omega)
        rw [gb_drop] at this
        exact this
      unfold runes_Less_j1
      simp only [if_true, utf8_DecodeRuneInString, decodeGo_drop hc.1, decodeGo_drop hc.2, Option.bind]
      have n1 : (((g a p).1 : Int) == 65533 && ((g a p).2 : Int) == 1) = bad a p := by
        unfold bad; rw [Bool.eq_iff_iff]; simp; omega
      have n2 : (((g b q).1 : Int) == 65533 && ((g b q).2 : Int) == 1) = bad b q := by
        unfold bad; rw [Bool.eq_iff_iff]; simp; omega
      have k3 : ∀ x y : Nat, x = wt a p → y = wt b q → runes_Less_j3 (x : Int) (a.drop p) (((g a p).1 : Int), ((g a p).2 : Int)) (b.drop q) (((g b q).1 : Int), ((g b q).2 : Int)) (runes_Less_l1 k n) (y : Int) = some (cmp a b p q) := by
        rintro x y rfl rfl
        unfold runes_Less_j3
        rw [cmp_step hc]
        by_cases e : wt a p = wt b q
        · rw [if_neg (by simp [e]), if_pos e]
          simp only [sub_drop sz1.2.1, sub_drop sz2.2.1, Option.bind]
          exact ih _ _ sz1.2.1 sz2.2.1 (by omega)
        · rw [if_pos (by simp only [bne_iff_ne, ne_eq]; omega), if_neg e]
          congr 1
          rw [decide_eq_decide]
          omega
      have k4 : ∀ x : Nat, x = wt a p → runes_Less_j2 (b.drop q) (a.drop p) (((g a p).1 : Int), ((g a p).2 : Int)) (((g b q).1 : Int), ((g b q).2 : Int)) (runes_Less_l1 k n) (x : Int) = some (cmp a b p q) := by
        intro x hx
        unfold runes_Less_j2 runes_Less_j4
        simp only [n2]
        by_cases c : bad b q = true
        · rw [if_pos c]
          simp only [y2, Option.bind]
          rw [show wi64 (gb b q : Int) = (gb b q : Int) by rw [wi64_id] <;> omega, show wi64 ((1114112 : Int) + (gb b q : Int)) = ((1114112 + gb b q : Nat) : Int) by rw [wi64_id] <;> omega]
          exact k3 _ _ hx (by unfold wt; rw [if_pos c])
        · rw [if_neg c, show wi64 ((g b q).1 : Int) = ((g b q).1 : Int) by rw [wi64_id] <;> omega]
          exact k3 _ _ hx (by unfold wt; rw [if_neg c])
      unfold runes_Less_j5
      simp only [n1]
      by_cases c : bad a p = true
      · rw [if_pos c]
        simp only [y1, Option.bind]
        rw [show wi64 (gb a p : Int) = (gb a p : Int) by rw [wi64_id] <;> omega, show wi64 ((1114112 : Int) + (gb a p : Int)) = ((1114112 + gb a p : Nat) : Int) by rw [wi64_id] <;> omega]
        exact k4 _ (by unfold wt; rw [if_pos c])
      · rw [if_neg c, show wi64 ((g a p).1 : Int) = ((g a p).1 : Int) by rw [wi64_id] <;> omega]
        exact k4 _ (by unfold wt; rw [if_neg c])
    · have t : (!(decide (¬ p < a.length)) && !(decide (¬ q < b.length))) = false := by simp; omega
      rw [t, cmp_end hc]
      unfold runes_Less_j1 runes_Less_j6
      simp only [Bool.false_eq_true, if_false]
      congr 1
      rw [Bool.eq_iff_iff]
      simp

theorem Less_prog {k : Nat} {a b : List UInt8} (hk : a.length < k) : runes_Less k a b = some (cmp a b 0 0) := by
  unfold runes_Less
  have := Less_l1_prog (k := k) (a := a) (b := b) k 0 0 (by omega) (by omega) (by omega)
  simpa using this

theorem RunesRow_true {k : Nat} (hk : 80000 ≤ k) (a b : List UInt8) : l01_RunesRow k a b = some true := by
  unfold l01_RunesRow l01_RunesRow_j1
  by_cases h : a.length ≤ 5000 ∧ b.length ≤ 5000
  · have t : (decide ((5000 : Int) < (List.length a : Int)) || (decide ((5000 : Int) < (List.length b : Int)))) = false := by simp; omega
    rw [t]
    simp only [Bool.false_eq_true, if_false, Less_prog (show a.length < k by omega), Less_prog (show b.length < k by omega), Less_ref hk (show a.length ≤ 65536 by omega) (show b.length ≤ 65536 by omega), Less_ref hk (show b.length ≤ 65536 by omega) (show a.length ≤ 65536 by omega), Option.bind, l01_RunesRow_j2]
    simp
  · have t : (decide ((5000 : Int) < (List.length a : Int)) || (decide ((5000 : Int) < (List.length b : Int)))) = true := by simp; omega
    rw [t]
    simp
end Go.Ev
