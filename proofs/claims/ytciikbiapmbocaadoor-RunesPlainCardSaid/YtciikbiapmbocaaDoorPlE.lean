/- Plain laws: a text's runes as bytes and back; the row of texts is a row; the laws RunesRows, RunesBack. -/
import Derived.Test.YtciikbiapmbocaaDoorPlD
import Derived.Test.YtciikbiapmbocaaDoorShRu3
namespace Go.Ev
open Go
set_option linter.unusedVariables false

theorem gb_of (s : List UInt8) (i : Nat) : s.getD i 0 = UInt8.ofNat (gb s i) := by unfold gb; simp
theorem seg_bytes {s : List UInt8} {p n : Nat} (h : p + n ≤ s.length) : seg s p (p + n) = (List.range n).map fun j => UInt8.ofNat (gb s (p + j)) := by
  apply List.ext_getElem
  · rw [seg_len h]; simp
  · intro i h1 h2
    have hi : i < n := by simpa using h2
    have : s[p + i]'(by omega) = UInt8.ofNat (gb s (p + i)) := by
      rw [← gb_of, List.getD_eq_getElem?_getD, List.getElem?_eq_getElem (by omega)]; rfl
    simp only [seg, List.getElem_drop, List.getElem_take, List.getElem_map, List.getElem_range, this]
/-- A good piece's bytes are its rune's. -/
theorem seg_enc {s : List UInt8} {p : Nat} (h : p < s.length) (hb : bad s p = false) : seg s p (p + (g s p).2) = encN (g s p).1 := by
  have hsz := g_size s p h
  rw [seg_bytes hsz.2.1]
  have h0 := gb_lt s p; have h1 := gb_lt s (p + 1); have h2 := gb_lt s (p + 2); have h3 := gb_lt s (p + 3)
  have hb' : ¬ ((g s p).1 = 65533 ∧ (g s p).2 = 1) := fun hc => by unfold bad at hb; simp [hc.1, hc.2] at hb
  clear hb
  unfold g Lib.decodeN at *
  split
  · rename_i c1
    simp [encN, c1]
  · rename_i c1
    rw [if_neg c1] at hb'
    split
    · rename_i c2
      rw [if_pos c2] at hb'
      split
      · rename_i c3
        have e1 : ¬ (gb s p % 32 * 64 + gb s (p + 1) % 64 < 128) := by omega
        have e2 : gb s p % 32 * 64 + gb s (p + 1) % 64 < 2048 := by omega
        simp only [encN, if_neg e1, if_pos e2, List.range, List.range.loop, List.map, Nat.add_zero]
        rw [show 192 + (gb s p % 32 * 64 + gb s (p + 1) % 64) / 64 = gb s p by omega, show 128 + (gb s p % 32 * 64 + gb s (p + 1) % 64) % 64 = gb s (p + 1) by omega]
      · rename_i c3; rw [if_neg c3] at hb'; exact absurd ⟨rfl, rfl⟩ hb'
    · rename_i c2
      rw [if_neg c2] at hb'
      split
      · rename_i c3
        rw [if_pos c3] at hb'
        split
        · rename_i c4
          have e1 : ¬ (gb s p % 16 * 4096 + gb s (p + 1) % 64 * 64 + gb s (p + 2) % 64 < 128) := by omega
          have e2 : ¬ (gb s p % 16 * 4096 + gb s (p + 1) % 64 * 64 + gb s (p + 2) % 64 < 2048) := by omega
          have e3 : gb s p % 16 * 4096 + gb s (p + 1) % 64 * 64 + gb s (p + 2) % 64 < 65536 := by omega
          simp only [encN, if_neg e1, if_neg e2, if_pos e3, List.range, List.range.loop, List.map, Nat.add_zero]
          rw [show 224 + (gb s p % 16 * 4096 + gb s (p + 1) % 64 * 64 + gb s (p + 2) % 64) / 4096 = gb s p by omega,
            show 128 + (gb s p % 16 * 4096 + gb s (p + 1) % 64 * 64 + gb s (p + 2) % 64) / 64 % 64 = gb s (p + 1) by omega,
            show 128 + (gb s p % 16 * 4096 + gb s (p + 1) % 64 * 64 + gb s (p + 2) % 64) % 64 = gb s (p + 2) by omega]
        · rename_i c4; rw [if_neg c4] at hb'; exact absurd ⟨rfl, rfl⟩ hb'
      · rename_i c3
        rw [if_neg c3] at hb'
        split
        · rename_i c4
          rw [if_pos c4] at hb'
          split
          · rename_i c5
            have e1 : ¬ (gb s p % 8 * 262144 + gb s (p + 1) % 64 * 4096 + gb s (p + 2) % 64 * 64 + gb s (p + 3) % 64 < 128) := by omega
            have e2 : ¬ (gb s p % 8 * 262144 + gb s (p + 1) % 64 * 4096 + gb s (p + 2) % 64 * 64 + gb s (p + 3) % 64 < 2048) := by omega
            have e3 : ¬ (gb s p % 8 * 262144 + gb s (p + 1) % 64 * 4096 + gb s (p + 2) % 64 * 64 + gb s (p + 3) % 64 < 65536) := by omega
            simp only [encN, if_neg e1, if_neg e2, if_neg e3, List.range, List.range.loop, List.map, Nat.add_zero]
            rw [show 240 + (gb s p % 8 * 262144 + gb s (p + 1) % 64 * 4096 + gb s (p + 2) % 64 * 64 + gb s (p + 3) % 64) / 262144 = gb s p by omega,
              show 128 + (gb s p % 8 * 262144 + gb s (p + 1) % 64 * 4096 + gb s (p + 2) % 64 * 64 + gb s (p + 3) % 64) / 4096 % 64 = gb s (p + 1) by omega,
              show 128 + (gb s p % 8 * 262144 + gb s (p + 1) % 64 * 4096 + gb s (p + 2) % 64 * 64 + gb s (p + 3) % 64) / 64 % 64 = gb s (p + 2) by omega,
              show 128 + (gb s p % 8 * 262144 + gb s (p + 1) % 64 * 4096 + gb s (p + 2) % 64 * 64 + gb s (p + 3) % 64) % 64 = gb s (p + 3) by omega]
          · rename_i c5; rw [if_neg c5] at hb'; exact absurd ⟨rfl, rfl⟩ hb'
        · rename_i c4; rw [if_neg c4] at hb'; exact absurd ⟨rfl, rfl⟩ hb'

/-- A rune that may be. -/
def okR (c : Nat) : Prop := c < 55296 ∨ (57344 ≤ c ∧ c ≤ 1114111)
theorem g_ok (s : List UInt8) (p : Nat) : okR (g s p).1 := by
  unfold okR
  rcases g_kinds0 s p with h | h | h | h | h <;> omega
theorem enc_ok {c : Nat} (h : okR c) : enc (c : Int) = encN c := by
  unfold okR at h
  rw [enc_eq]
  have : Utf8.valid (c : Int) = true := by unfold Utf8.valid; simp; omega
  rw [this, if_pos rfl, Int.toNat_natCast]
theorem gb_app (a b : List UInt8) (i : Nat) (h : i < a.length) : gb (a ++ b) i = gb a i := by
  unfold gb
  rw [List.getD_eq_getElem?_getD, List.getD_eq_getElem?_getD, List.getElem?_append_left h]
/-- A rune's bytes read as that rune. -/
theorem g_enc {c : Nat} (h : okR c) (rest : List UInt8) : g (encN c ++ rest) 0 = (c, (encN c).length) := by
  unfold okR at h
  have t : ∀ n : Nat, (UInt8.ofNat n).toNat = n % 256 := fun n => by simp
  unfold g
  rw [List.length_append, Nat.sub_zero]
  unfold encN
  by_cases c1 : c < 128
  · simp only [if_pos c1, gb, List.cons_append, List.getD_cons_zero, t, Lib.decodeN]
    rw [if_pos (by omega)]; simp; omega
  rw [if_neg c1]
  by_cases c2 : c < 2048
  · simp only [if_pos c2, gb, List.cons_append, List.getD_cons_zero, List.getD_cons_succ, t, Lib.decodeN, List.length_cons, Nat.zero_add]
    rw [if_neg (by omega), if_pos (by omega), if_pos (by omega)]
    simp; omega
  rw [if_neg c2]
  by_cases c3 : c < 65536
  · simp only [if_pos c3, gb, List.cons_append, List.getD_cons_zero, List.getD_cons_succ, t, Lib.decodeN, List.length_cons, Nat.zero_add]
    rw [if_neg (by omega), if_neg (by omega), if_pos (by omega), if_pos (by omega)]
    simp; omega
  · simp only [if_neg c3, gb, List.cons_append, List.getD_cons_zero, List.getD_cons_succ, t, Lib.decodeN, List.length_cons, Nat.zero_add]
    rw [if_neg (by omega), if_neg (by omega), if_neg (by omega), if_pos (by omega), if_pos (by omega)]
    simp; omega
theorem encN_pos (c : Nat) : 0 < (encN c).length := by
  unfold encN
  repeat' split
  all_goals simp
theorem encN_one {c : Nat} (h : (encN c).length = 1) : c < 128 := by
  unfold encN at h
  by_cases c1 : c < 128
  · exact c1
  · rw [if_neg c1] at h
    revert h
    repeat' split
    all_goals simp

/-- The pieces of runes' bytes are these runes, none broken. -/
theorem pl_enc : ∀ (xs : List Nat) (pre : List UInt8), (∀ x ∈ xs, okR x) → (pl (pre ++ xs.flatMap encN) pre.length).map (fun x => (x.1, x.2.2.2.1)) = xs.map fun (x : Nat) => ((x : Int), false)
  | [], pre, _ => by rw [pl_nil (by simp)]; rfl
  | x :: xs, pre, h => by
    have hx := h x List.mem_cons_self
    have hp := encN_pos x
    have e : g (pre ++ (x :: xs).flatMap encN) pre.length = (x, (encN x).length) := by
      have := g_drop (pre ++ (x :: xs).flatMap encN) pre.length 0
      rw [Nat.add_zero, List.drop_left] at this
      rw [← this, List.flatMap_cons, g_enc hx]
    rw [pl_cons (by simp only [List.length_append, List.flatMap_cons]; omega), List.map_cons, List.map_cons]
    congr 1
    · unfold pc bad
      rw [e]
      simp only [Prod.mk.injEq, true_and]
      by_cases hl : (encN x).length = 1
      · have := encN_one hl
        simp; omega
      · simp [hl]
    · rw [e]
      have := pl_enc xs (pre ++ encN x) (fun y hy => h y (List.mem_cons_of_mem _ hy))
      rw [List.length_append, List.append_assoc] at this
      exact this

/-- A text's runes, as numbers. -/
def rl (s : List UInt8) : List Nat := (pl s 0).map fun x => x.1.toNat
theorem pl_mem {s : List UInt8} : ∀ n p, s.length - p < n → ∀ x ∈ pl s p, ∃ q, q < s.length ∧ x = pc s q := by
  intro n
  induction n with
  | zero => intro p h; omega
  | succ n ih =>
    intro p h x hx
    by_cases hp : p < s.length
    · have := g_size s p hp
      rw [pl_cons hp] at hx
      rcases List.mem_cons.1 hx with hx | hx
      · exact ⟨p, hp, hx⟩
      · exact ih _ (by omega) x hx
    · rw [pl_nil hp] at hx; cases hx
theorem rl_ok (s : List UInt8) : ∀ x ∈ rl s, okR x := by
  intro x hx
  obtain ⟨y, hy, rfl⟩ := List.mem_map.1 hx
  obtain ⟨q, _, rfl⟩ := pl_mem (s.length + 1) 0 (by omega) y hy
  exact g_ok s q
theorem ebs_rl (s : List UInt8) : ebs (pl s 0) = (rl s).flatMap encN := by
  unfold ebs rl
  rw [List.flatMap_map]
  have : ∀ l : List (Int × Int × Int × Bool × Unit), (∀ x ∈ l, ∃ q, q < s.length ∧ x = pc s q) → l.flatMap (fun x => enc x.1) = l.flatMap fun x => encN x.1.toNat := by
    intro l
    induction l with
    | nil => intro _; rfl
    | cons x l ih =>
      intro h
      rw [List.flatMap_cons, List.flatMap_cons, ih fun y hy => h y (List.mem_cons_of_mem _ hy)]
      obtain ⟨q, _, rfl⟩ := h x List.mem_cons_self
      have e1 : enc (pc s q).1 = encN (pc s q).1.toNat := enc_ok (g_ok s q)
      rw [e1]
  exact this _ (pl_mem (s.length + 1) 0 (by omega))
/-- The mended text's pieces. -/
theorem pl_mended (s : List UInt8) : (pl (ebs (pl s 0)) 0).map (fun x => (x.1, x.2.2.2.1)) = (rl s).map fun (x : Nat) => ((x : Int), false) := by
  have := pl_enc (rl s) [] (rl_ok s)
  rw [List.nil_append, ← ebs_rl] at this
  exact this
theorem mended_length (s : List UInt8) : (pl (ebs (pl s 0)) 0).length = (pl s 0).length := by
  have := congrArg List.length (pl_mended s)
  rw [List.length_map, List.length_map] at this
  rw [this]; unfold rl; rw [List.length_map]
theorem mended_whole : ∀ {l : List (Int × Int × Int × Bool × Unit)} {xs : List Nat}, l.map (fun x => (x.1, x.2.2.2.1)) = xs.map (fun (x : Nat) => ((x : Int), false)) → brk l = -1
  | [], _, _ => rfl
  | x :: l, [], h => by cases h
  | x :: l, y :: xs, h => by
    rw [List.map_cons, List.map_cons] at h
    injection h with h1 h2
    have h3 : x.2.2.2.1 = false := congrArg Prod.snd h1
    unfold brk
    rw [h3, if_neg (by decide)]
    exact mended_whole h2
theorem ebs_map (l : List (Int × Int × Int × Bool × Unit)) : ebs l = (l.map fun x => x.1).flatMap enc := by unfold ebs; rw [List.flatMap_map]
theorem runes_rl (s : List UInt8) : (pl s 0).map (fun x => x.1) = (rl s).map fun (x : Nat) => (x : Int) := by
  unfold rl
  rw [List.map_map]
  apply List.map_congr_left
  intro x hx
  obtain ⟨q, _, rfl⟩ := pl_mem (s.length + 1) 0 (by omega) x hx
  rfl
theorem mended_runes (s : List UInt8) : (pl (ebs (pl s 0)) 0).map (fun x => x.1) = (rl s).map fun (x : Nat) => (x : Int) := by
  have h := congrArg (List.map Prod.fst) (pl_mended s)
  rw [List.map_map, List.map_map] at h
  exact h
theorem mended_again (s : List UInt8) : ebs (pl (ebs (pl s 0)) 0) = ebs (pl s 0) := by
  rw [ebs_map (pl (ebs (pl s 0)) 0), mended_runes, ebs_map (pl s 0), runes_rl]
end Go.Ev
