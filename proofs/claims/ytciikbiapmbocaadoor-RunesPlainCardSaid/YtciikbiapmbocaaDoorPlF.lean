/- Plain laws RunesRows and RunesBack. -/
import Derived.Test.YtciikbiapmbocaaDoorPlE
import GoSem.Claim
namespace Go.Ev
open Go
set_option linter.unusedVariables false
set_option maxRecDepth 100000

theorem wf_i64 {n : Int} (h : (Lit.int .i64 n).wf = true) : -9223372036854775808 ≤ n ∧ n < 9223372036854775808 := by
  simp [Lit.wf, IntKind.min, IntKind.max, IntKind.bits, IntKind.signed] at h
  omega
theorem alive_true : l01_alive 80000 = some true := by decide +kernel

/-- The weights of a text's pieces. -/
def wl (s : List UInt8) (p : Nat) : List Nat :=
  if h : p < s.length then wt s p :: wl s (p + (g s p).2) else []
  termination_by s.length - p
  decreasing_by
    have := g_size s p h
    omega
theorem wl_cons {s : List UInt8} {p : Nat} (h : p < s.length) : wl s p = wt s p :: wl s (p + (g s p).2) := by rw [wl, dif_pos h]
theorem wl_nil {s : List UInt8} {p : Nat} (h : ¬ p < s.length) : wl s p = [] := by rw [wl, dif_neg h]
def lex : List Nat → List Nat → Bool
  | [], [] => false
  | [], _ :: _ => true
  | _ :: _, [] => false
  | x :: xs, y :: ys => if x = y then lex xs ys else decide (x < y)
theorem cmp_lex {a b : List UInt8} : ∀ n p q, a.length - p < n → cmp a b p q = lex (wl a p) (wl b q) := by
  intro n
  induction n with
  | zero => intro p q h; omega
  | succ n ih =>
    intro p q h
    by_cases hp : p < a.length
    · have hg := g_size a p hp
      by_cases hq : q < b.length
      · rw [cmp_step ⟨hp, hq⟩, wl_cons hp, wl_cons hq, lex, ih _ _ (by omega)]
      · rw [cmp_end (by omega), wl_cons hp, wl_nil hq, lex]; simp [hp]
    · by_cases hq : q < b.length
      · rw [cmp_end (by omega), wl_nil hp, wl_cons hq, lex]; simp [hp, hq]
      · rw [cmp_end (by omega), wl_nil hp, wl_nil hq, lex]; simp [hq]
theorem lex_irr : ∀ l, lex l l = false
  | [] => rfl
  | x :: l => by rw [lex, if_pos rfl]; exact lex_irr l
theorem lex_asymm : ∀ l m, lex l m = true → lex m l = false
  | [], [], h => by cases h
  | [], _ :: _, _ => rfl
  | _ :: _, [], h => by cases h
  | x :: xs, y :: ys, h => by
    unfold lex at h ⊢
    by_cases e : x = y
    · rw [if_pos e] at h; rw [if_pos e.symm]; exact lex_asymm _ _ h
    · rw [if_neg e] at h; rw [if_neg (Ne.symm e)]; simp at h ⊢; omega
theorem lex_total : ∀ l m, lex l m = false → lex m l = false → l = m
  | [], [], _, _ => rfl
  | [], _ :: _, h, _ => by cases h
  | _ :: _, [], _, h => by cases h
  | x :: xs, y :: ys, h, k => by
    unfold lex at h k
    by_cases e : x = y
    · rw [if_pos e] at h; rw [if_pos e.symm] at k; rw [e, lex_total _ _ h k]
    · rw [if_neg e] at h; rw [if_neg (Ne.symm e)] at k; simp at h k; omega
theorem lex_trans : ∀ l m n, lex l m = true → lex m n = true → lex l n = true
  | [], [], _, h, _ => by cases h
  | [], _ :: _, [], _, k => by cases k
  | [], _ :: _, _ :: _, _, _ => rfl
  | _ :: _, [], _, h, _ => by cases h
  | _ :: _, _ :: _, [], _, k => by cases k
  | x :: xs, y :: ys, z :: zs, h, k => by
    unfold lex at h k ⊢
    by_cases e : x = y
    · rw [if_pos e] at h
      subst e
      by_cases f : x = z
      · rw [if_pos f] at k ⊢; exact lex_trans _ _ _ h k
      · rw [if_neg f] at k ⊢; exact k
    · rw [if_neg e] at h
      by_cases f : y = z
      · subst f; rw [if_neg e]; exact h
      · rw [if_neg f] at k
        simp at h k
        rw [if_neg (by omega)]; simp; omega
/-- What weighs so. -/
def unw (w : Nat) : List UInt8 := if 1114112 ≤ w then [UInt8.ofNat (w - 1114112)] else encN w
theorem drop_unw {s : List UInt8} : ∀ n p, p ≤ s.length → s.length - p < n → s.drop p = (wl s p).flatMap unw := by
  intro n
  induction n with
  | zero => intro p _ h; omega
  | succ n ih =>
    intro p h1 h2
    by_cases hp : p < s.length
    · have hg := g_size s p hp
      have e : s.drop p = seg s p (p + (g s p).2) ++ s.drop (p + (g s p).2) := by
        unfold seg
        conv => lhs; rw [← List.take_append_drop (p + (g s p).2) s]
        rw [List.drop_append_of_le_length (by rw [List.length_take]; omega)]
      rw [e, ih _ hg.2.1 (by omega), wl_cons hp, List.flatMap_cons]
      congr 1
      unfold wt unw
      cases hb : bad s p with
      | true =>
        have := bad_iff hb
        rw [if_pos rfl, if_pos (by omega), seg_bytes hg.2.1, this.2]
        simp
      | false =>
        have := g_rune s p
        rw [if_neg (show ¬ (false = true) by decide), if_neg (by omega)]
        exact seg_enc hp hb
    · rw [wl_nil hp, List.drop_eq_nil_of_le (by omega)]; rfl
theorem wl_inj {a b : List UInt8} (h : wl a 0 = wl b 0) : a = b := by
  have e1 := drop_unw (s := a) (a.length + 1) 0 (by omega) (by omega)
  have e2 := drop_unw (s := b) (b.length + 1) 0 (by omega) (by omega)
  rw [List.drop_zero] at e1 e2
  rw [e1, e2, h]
theorem Less_lex {k : Nat} {a b : List UInt8} (hk : a.length < k) : runes_Less k a b = some (lex (wl a 0) (wl b 0)) := by
  rw [Less_prog hk, cmp_lex (a.length + 1) 0 0 (by omega)]

def K_RunesRows : Nat := 80000
theorem RunesRows_true' (a b c : List UInt8) : l01_RunesRows K_RunesRows a b c = some true := by
  unfold K_RunesRows l01_RunesRows l01_RunesRows_j1 l01_RunesRows_j2
  by_cases h : a.length ≤ 5000 ∧ b.length ≤ 5000 ∧ c.length ≤ 5000
  · have t : ((decide ((5000 : Int) < (List.length a : Int)) || (decide ((5000 : Int) < (List.length b : Int)))) || decide ((5000 : Int) < (List.length c : Int))) = false := by simp; omega
    rw [t]
    simp only [Bool.false_eq_true, if_false, Less_lex (show a.length < 80000 by omega), Less_lex (show b.length < 80000 by omega), alive_true, Option.bind, lex_irr]
    simp only [Bool.not_true, Bool.false_eq_true, if_false]
    have tr := lex_trans (wl a 0) (wl b 0) (wl c 0)
    have as1 := lex_asymm (wl a 0) (wl b 0)
    have tt := lex_total (wl a 0) (wl b 0)
    have ir : a = b → lex (wl a 0) (wl b 0) = false := fun e => by rw [e]; exact lex_irr _
    have ir2 : a = b → lex (wl b 0) (wl a 0) = false := fun e => by rw [e]; exact lex_irr _
    have key : (a == b) = (!(lex (wl a 0) (wl b 0)) && !(lex (wl b 0) (wl a 0))) := by
      rw [Bool.eq_iff_iff]
      constructor
      · intro e
        have e := eq_of_beq e
        rw [ir e, ir2 e]; rfl
      · intro e
        simp at e
        exact beq_iff_eq.2 (wl_inj (tt e.1 e.2))
    unfold l01_RunesRows_j3
    simp only [Bool.false_eq_true, if_false, l01_RunesRows_j9, l01_RunesRows_j4, l01_RunesRows_j8, l01_RunesRows_j5, l01_RunesRows_j6, l01_RunesRows_j7, key]
    revert tr as1
    cases lex (wl a 0) (wl b 0) <;> cases lex (wl b 0) (wl a 0) <;> cases lex (wl b 0) (wl c 0) <;> cases lex (wl a 0) (wl c 0) <;> simp
  · have t : ((decide ((5000 : Int) < (List.length a : Int)) || (decide ((5000 : Int) < (List.length b : Int)))) || decide ((5000 : Int) < (List.length c : Int))) = true := by simp; omega
    rw [t]
    simp only [if_true, alive_true, Option.bind]

/-- A place among so many. -/
theorem place_mod {k1 : Int} {m : Nat} (hm : 0 < m) (hm2 : m ≤ 100000) (hk : -9223372036854775808 ≤ k1 ∧ k1 < 9223372036854775808) : ∃ a : Nat, a < m ∧ Int.tmod (wi64 (Int.tmod k1 (m : Int) + (m : Int))) (m : Int) = (a : Int) := by
  have h1 : -(m : Int) < Int.tmod k1 m ∧ Int.tmod k1 m < m := by
    rcases Int.le_total 0 k1 with h | h
    · rw [Int.tmod_eq_emod_of_nonneg h]
      have := Int.emod_nonneg k1 (show (m : Int) ≠ 0 by omega)
      have := Int.emod_lt_of_pos k1 (show (0 : Int) < m by omega)
      omega
    · have e : Int.tmod k1 m = -(Int.tmod (-k1) m) := by rw [Int.neg_tmod]; omega
      rw [e, Int.tmod_eq_emod_of_nonneg (by omega)]
      have := Int.emod_nonneg (-k1) (show (m : Int) ≠ 0 by omega)
      have := Int.emod_lt_of_pos (-k1) (show (0 : Int) < m by omega)
      omega
  rw [wi64_id (by omega) (by omega), Int.tmod_eq_emod_of_nonneg (by omega)]
  have h2 := Int.emod_nonneg (Int.tmod k1 m + m) (show (m : Int) ≠ 0 by omega)
  have h3 := Int.emod_lt_of_pos (Int.tmod k1 m + m) (show (0 : Int) < m by omega)
  exact ⟨((Int.tmod k1 m + m) % m).toNat, by omega, by omega⟩

/-- The pieces, gone through. -/
theorem RunesBack_l1 {s : List UInt8} {k1 : Int} (hs : s.length ≤ 5000) (hk : -9223372036854775808 ≤ k1 ∧ k1 < 9223372036854775808) : ∀ n i (all : List Int), i ≤ (pl s 0).length → (pl s 0).length - i < n → all = ((pl s 0).take i).map (fun x => x.1) →
    l01_RunesBack_l1 80000 (pl s 0, 0) s k1 true n (plc s i : Int) (i : Int) all = some true := by
  have hl := pl_len s
  intro n
  induction n with
  | zero => intro i all _ h; omega
  | succ n ih =>
    intro i all h1 h2 h3
    unfold l01_RunesBack_l1 l01_RunesBack_b1
    by_cases hi : i < (pl s 0).length
    · obtain ⟨q1, q2⟩ := plc_at hi
      have hg := g_size s _ q1
      have hal : all.length ≤ 5000 := by rw [h3]; simp; omega
      rw [if_pos (decide_eq_true (show (i : Int) < ((pl s 0).length : Int) by omega)), at_drop, q2]
      simp only [Option.bind]
      have e1 : ((pc s (plc s i)).2.1 != (plc s i : Int)) = false := by show ((plc s i : Int) != (plc s i : Int)) = false; simp
      have e2 : (decide ((pc s (plc s i)).2.2.1 < (1 : Int))) = false := by show decide (((g s (plc s i)).2 : Int) < 1) = false; simp only [decide_eq_false_iff_not]; omega
      have e3 : wi64 ((plc s i : Int) + (pc s (plc s i)).2.2.1) = ((plc s i + (g s (plc s i)).2 : Nat) : Int) := by show wi64 ((plc s i : Int) + ((g s (plc s i)).2 : Int)) = _; rw [wi64_id] <;> omega
      have e4 : (decide ((List.length s : Int) < ((plc s i + (g s (plc s i)).2 : Nat) : Int))) = false := by simp only [decide_eq_false_iff_not]; omega
      have e5 : bad s (plc s i) = (((g s (plc s i)).1 : Int) == 65533 && ((g s (plc s i)).2 : Int) == 1) := by unfold bad; rw [Bool.eq_iff_iff]; simp; omega
      have e6 : (pc s (plc s i)).1 = ((g s (plc s i)).1 : Int) := rfl
      have e7 : (pc s (plc s i)).2.2.1 = ((g s (plc s i)).2 : Int) := rfl
      have e8 : (pc s (plc s i)).2.2.2.1 = (((g s (plc s i)).1 : Int) == 65533 && ((g s (plc s i)).2 : Int) == 1) := e5
      unfold l01_RunesBack_j1 l01_RunesBack_j2
      rw [e1, e2, e3, e4]
      simp only [Bool.false_or, Bool.false_eq_true, if_false, sub_all (Nat.le_of_lt q1), utf8_DecodeRuneInString, decodeGo_drop q1, Option.bind_some]
      unfold l01_RunesBack_j3 l01_RunesBack_j5 l01_RunesBack_j4
      simp only [e6, e7, e8, bne_self_eq_false, Bool.or_self, beq_self_eq_true, Bool.not_true, Bool.false_eq_true, if_false]
      rw [chk_ok (by unfold lim; simp only [List.length_cons, List.length_nil]; omega), Option.bind_some]
      have e9 : wi64 ((plc s i : Int) + ((g s (plc s i)).2 : Int)) = (plc s (i + 1) : Int) := e3
      rw [e9, show wi64 ((i : Int) + 1) = ((i + 1 : Nat) : Int) by rw [wi64_id] <;> omega]
      refine ih (i + 1) _ (by omega) (by omega) ?_
      rw [List.take_add_one, q2, List.map_append, h3]
      rfl
    · have hi' : i = (pl s 0).length := by omega
      subst hi'
      rw [if_neg (by simp), plc_end]
      have em : wi64 (((pl s 0).length : Int) + 1) = (((pl s 0).length + 1 : Nat) : Int) := by rw [wi64_id] <;> omega
      simp only [em]
      obtain ⟨a, ha, ea⟩ := place_mod (k1 := k1) (m := (pl s 0).length + 1) (by omega) (by omega) hk
      simp only [ea]
      rw [chk_ok (by omega)]
      have hel := ebs_len (pl s 0)
      have hml := mended_length s
      have hpa := plc_drop s a (by omega)
      have p1 : partOf s 0 (a : Int) = (seg s 0 (plc s a), 0) := by
        unfold partOf; rw [if_neg (by omega)]; rfl
      have p2 : partOf s (a : Int) ((pl s 0).length : Int) = (seg s (plc s a) s.length, 0) := by
        unfold partOf; rw [if_neg (by omega), Int.toNat_natCast, Int.toNat_natCast, plc_end]
      have ha3 : all = (pl s 0).map (fun x => x.1) := by rw [h3, List.take_length]
      have htx : runesStr all = ebs (pl s 0) := by rw [runesStr_enc, ha3, ← ebs_map]
      simp only [Option.bind, Part_ok (Nat.le_refl 80000) (show s.length ≤ 65536 by omega), p1, p2, Back_ok (k := 80000) (show s.length ≤ 65536 by omega), Len_ok (Nat.le_refl 80000) (show (ebs (pl s 0)).length ≤ 65536 by omega), hml]
      unfold l01_RunesBack_j6 l01_RunesBack_j7 l01_RunesBack_j8 l01_RunesBack_j9 l01_RunesBack_j10 l01_RunesBack_j11
      have s1 := seg_len (s := s) (a := 0) (b := plc s a) (by omega)
      have s2 := seg_len (s := s) (a := plc s a) (b := s.length) (by omega)
      have sa : seg s 0 (plc s a) ++ seg s (plc s a) s.length = s := by
        rw [seg_append (by omega) (by omega)]; unfold seg; simp
      simp only [bne_self_eq_false, Bool.or_self, Bool.false_eq_true, if_false]
      rw [chk_ok (by unfold lim; omega)]
      simp only [Option.bind, sa, beq_self_eq_true, Bool.not_true, Bool.or_self, Bool.false_eq_true, if_false]
      have ht : runes_Text 80000 all = some (ebs (pl s 0)) := by unfold runes_Text; rw [htx, chk_ok (by unfold lim; omega)]; rfl
      rw [ht]
      simp only [Option.bind, beq_self_eq_true, Bool.not_true]
      unfold l01_RunesBack_j12
      simp only [Bool.false_eq_true, if_false, Broken_ok (Nat.le_refl 80000) (show (ebs (pl s 0)).length ≤ 65536 by omega), Back_ok (k := 80000) (show (ebs (pl s 0)).length ≤ 65536 by omega), Option.bind, mended_again, mended_whole (pl_mended s)]
      unfold l01_RunesBack_j13 l01_RunesBack_j14 l01_RunesBack_j15 l01_RunesBack_j16
      simp
def K_RunesBack : Nat := 80000
theorem RunesBack_true' (s : List UInt8) (k1 : Int) (hk : -9223372036854775808 ≤ k1 ∧ k1 < 9223372036854775808) : l01_RunesBack K_RunesBack s k1 = some true := by
  unfold K_RunesBack l01_RunesBack
  rw [alive_true]
  simp only [Option.bind]
  by_cases h : s.length ≤ 5000
  · rw [if_neg (by simp only [decide_eq_true_eq]; omega), Pieces_ok (Nat.le_refl 80000) (by omega)]
    have hl := pl_len s
    have := RunesBack_l1 h hk 80000 0 [] (by omega) (by omega) rfl
    simpa [plc] using this
  · rw [if_pos (by simp only [decide_eq_true_eq]; omega)]
end Go.Ev
