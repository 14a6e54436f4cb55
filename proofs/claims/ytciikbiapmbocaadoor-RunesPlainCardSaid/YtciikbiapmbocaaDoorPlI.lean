/- Plain laws: what the beginning of a quoted text stands for. -/
import Derived.Test.YtciikbiapmbocaaDoorPlH
namespace Go.Ev
open Go
set_option linter.unusedVariables false

def okB (c : Nat) : Bool := decide (c < 55296) || (decide (57344 ≤ c) && decide (c ≤ 1114111))
theorem okB_iff {c : Nat} : okB c = true ↔ okR c := by unfold okB okR; simp
/-- Are these digits, at the beginning of t, a rune told by its number? -/
def uOK (t h : List UInt8) : Bool := !h.isEmpty && (okB (hv h) && (!(decide (32 ≤ hv h) && decide (hv h ≤ 126)) && (!((t.headD 0 == 48) && decide (1 < h.length)) && ((t.drop h.length).head? == some 59))))
def thS : List UInt8 → List UInt8 × Nat
  | [] => ([], 0)
  | b :: r => if b ≠ 92 then (if b.toNat < 32 ∨ 126 < b.toNat then ([], 0) else ([b], 1)) else match r with
    | [] => ([], 0)
    | c :: t => if c = 34 ∨ c = 92 then ([c], 2)
      else if c = 120 then (if (t.takeWhile isHx).length < 2 ∨ (t.headD 0).toNat < 56 then ([], 0) else ([UInt8.ofNat (hv (t.take 2))], 4))
      else if c = 117 then (if uOK t (t.takeWhile isHx) then (encN (hv (t.takeWhile isHx)), (t.takeWhile isHx).length + 3) else ([], 0))
      else ([], 0)

theorem u8_ne {a b : UInt8} : (((a.toNat : Int) == (b.toNat : Int)) = true) ↔ a = b := by
  simp only [beq_iff_eq, Int.natCast_inj]
  exact UInt8.toNat_inj
theorem take_hx (t : List UInt8) : ∀ b ∈ t.takeWhile isHx, isHx b = true := by
  induction t with
  | nil => intro b hb; cases hb
  | cons c t ih =>
    intro b hb
    rw [List.takeWhile_cons] at hb
    split at hb
    · rename_i hc
      rcases List.mem_cons.1 hb with rfl | hb
      · exact hc
      · exact ih b hb
    · cases hb
theorem tw_dw (t : List UInt8) : (t.takeWhile isHx).length + (t.dropWhile isHx).length = t.length := by
  rw [← List.length_append, List.takeWhile_append_dropWhile]
theorem tw_take (t : List UInt8) : t.take (t.takeWhile isHx).length = t.takeWhile isHx := by
  conv => lhs; rw [← List.takeWhile_append_dropWhile (p := isHx) (l := t)]
  rw [List.take_append_of_le_length (by simp)]
  simp
theorem ValidRune_ok (k : Nat) (c : Nat) (h : c ≤ 1114111) : unicode_utf8_ValidRune k (wi32 (c : Int)) = some (okB c) := by
  rw [wi32_id (by omega) (by omega)]
  unfold unicode_utf8_ValidRune unicode_utf8_ValidRune_j1 unicode_utf8_ValidRune_j2 okB
  by_cases h1 : c < 55296
  · rw [if_pos (by simp only [Bool.and_eq_true, decide_eq_true_eq]; omega)]; simp [h1]
  · rw [if_neg (by simp only [Bool.and_eq_true, decide_eq_true_eq]; omega)]
    by_cases h2 : 57344 ≤ c
    · rw [if_pos (by simp only [Bool.and_eq_true, decide_eq_true_eq]; omega)]; simp [h2, h]
    · rw [if_neg (by simp only [Bool.and_eq_true, decide_eq_true_eq]; omega)]; simp [h1, h2]
theorem Prefix1 (k : Nat) (s : List UInt8) (b : UInt8) : strings_HasPrefix k s [b] = some (s.head? == some b) := by
  unfold strings_HasPrefix internal_stringslite_HasPrefix internal_stringslite_HasPrefix_j1
  cases s with
  | nil => rfl
  | cons c s =>
    rw [if_pos (by simp only [decide_eq_true_eq, List.length_cons, List.length_nil]; omega)]
    have : sub? (c :: s) 0 (([b] : List UInt8).length : Int) = some [c] := by unfold sub?; rw [if_pos (by simp only [List.length_cons, List.length_nil]; omega)]; rfl
    rw [this]
    simp only [Option.bind, List.head?_cons]
    congr 1
    by_cases h : c = b <;> simp [h]

set_option maxRecDepth 100000 in
theorem thing_u {t : List UInt8} (ht : t.length + 2 < 80000) (x : Int × Option (Option (Nat × Int))) (hx : strconv_ParseUint_16 80000 (t.takeWhile isHx) 32 = some x) :
    runes_thing_j4 80000 x (92 :: 117 :: t) (t.dropWhile isHx) ((!Option.isNone x.2) || (decide ((1114111 : Int) < x.1))) =
      some (if uOK t (t.takeWhile isHx) then (encN (hv (t.takeWhile isHx)), (((t.takeWhile isHx).length + 3 : Nat) : Int)) else ([], 0)) := by
  have rej : ∀ (v : List UInt8), runes_thing_j5 80000 x (92 :: 117 :: t) v true = some ([], 0) := fun v => rfl
  have hl := tw_dw t
  have e1 : wi64 ((wi64 (((92 :: 117 :: t : List UInt8).length : Int) - 2)) - ((t.dropWhile isHx).length : Int)) = ((t.takeWhile isHx).length : Int) := by
    rw [List.length_cons, List.length_cons, wi64_id (x := ((t.length + 1 + 1 : Nat) : Int) - 2) (by omega) (by omega), wi64_id (by omega) (by omega)]
    omega
  by_cases h0 : t.takeWhile isHx = []
  · rw [h0, Parse_nil] at hx
    cases hx
    unfold runes_thing_j4
    rw [if_pos (by simp), rej, if_neg (by simp [uOK, h0])]
  · rw [Parse_ok (.inr rfl) (take_hx t) (by omega) h0, mxB_32] at hx
    by_cases hb : (hv (t.takeWhile isHx) : Int) ≤ 4294967295
    · rw [if_pos hb] at hx
      cases hx
      unfold runes_thing_j4
      by_cases hm : hv (t.takeWhile isHx) ≤ 1114111
      · rw [if_neg (by simp; omega), ValidRune_ok _ _ hm]
        simp only [Option.bind]
        cases hok : okB (hv (t.takeWhile isHx)) with
        | false => rw [show (!false) = true from rfl, rej, if_neg (by simp [uOK, hok])]
        | true =>
          unfold runes_thing_j5
          rw [if_neg (by simp)]
          unfold runes_thing_j10 runes_thing_j6
          simp only []
          by_cases hp : 32 ≤ hv (t.takeWhile isHx) ∧ hv (t.takeWhile isHx) ≤ 126
          · rw [if_pos (by simp only [Bool.and_eq_true, decide_eq_true_eq]; omega)]
            unfold runes_thing_j7 runes_thing_j8
            rw [if_pos rfl, if_pos rfl, if_neg (by simp [uOK, hp])]
          · rw [if_neg (by simp only [Bool.and_eq_true, decide_eq_true_eq]; omega)]
            cases ht0 : t with
            | nil => rw [ht0] at h0; exact absurd rfl h0
            | cons d t' =>
              rw [← ht0]
              have hb2 : byteAt (92 :: 117 :: t) 2 = some (d.toNat : Int) := by rw [ht0]; rfl
              rw [hb2]
              simp only [Option.bind]
              rw [e1]
              unfold runes_thing_j9 runes_thing_j7
              by_cases hz : d = 48 ∧ 1 < (t.takeWhile isHx).length
              · rw [if_pos (by rw [hz.1]; simp only [Bool.and_eq_true, decide_eq_true_eq]; exact ⟨rfl, by omega⟩)]
                unfold runes_thing_j8
                rw [if_pos rfl, if_neg (by
                  rw [ht0] at hz ⊢
                  obtain ⟨rfl, hz2⟩ := hz
                  simp [uOK]
                  intros
                  omega)]
              · rw [if_neg (by
                  simp only [Bool.and_eq_true, decide_eq_true_eq]
                  rintro ⟨q1, q2⟩
                  exact hz ⟨(u8_ne (b := 48)).1 q1, by omega⟩)]
                have e2 : wi64 ((2 : Int) + ((t.takeWhile isHx).length : Int)) = (((t.takeWhile isHx).length + 2 : Nat) : Int) := by rw [wi64_id (by omega) (by omega)]; omega
                rw [e1, e2, sub_all (by simp only [List.length_cons]; omega)]
                simp only [Prefix1]
                have e3 : (92 :: 117 :: t : List UInt8).drop ((t.takeWhile isHx).length + 2) = t.drop (t.takeWhile isHx).length := rfl
                rw [e3]
                unfold runes_thing_j8
                have hu : uOK t (t.takeWhile isHx) = ((t.drop (t.takeWhile isHx).length).head? == some 59) := by
                  unfold uOK
                  have q1 : (t.takeWhile isHx).isEmpty = false := by cases q : t.takeWhile isHx with | nil => exact absurd q h0 | cons _ _ => rfl
                  have q2 : (decide (32 ≤ hv (t.takeWhile isHx)) && decide (hv (t.takeWhile isHx) ≤ 126)) = false := by simp; omega
                  have q3 : ((t.headD 0 == 48) && decide (1 < (t.takeWhile isHx).length)) = false := by
                    rw [Bool.eq_false_iff]
                    intro q
                    simp only [Bool.and_eq_true, decide_eq_true_eq, beq_iff_eq] at q
                    exact hz ⟨by rw [ht0] at q; exact q.1, q.2⟩
                  rw [q1, hok, q2, q3]
                  rfl
                rw [hu]
                simp only [Option.bind_some]
                cases hh : ((t.drop (t.takeWhile isHx).length).head? == some 59) with
                | false => rfl
                | true =>
                  simp only [Bool.not_true, Bool.false_eq_true, if_false, if_true]
                  rw [e1, wi64_id (by omega) (by omega), wi32_id (by omega) (by omega)]
                  have := enc_ok (okB_iff.1 hok)
                  unfold enc at this
                  rw [this]
                  rfl
      · rw [if_pos (by simp; omega), rej, if_neg (by
          have : okB (hv (t.takeWhile isHx)) = false := by unfold okB; simp; omega
          simp [uOK, this])]
    · rw [if_neg hb] at hx
      cases hx
      unfold runes_thing_j4
      rw [if_pos (by simp), rej, if_neg (by
        have : okB (hv (t.takeWhile isHx)) = false := by unfold okB; simp; omega
        simp [uOK, this])]

theorem bytesStr_one (n : Nat) (h : n < 256) : bytesStr [wu8 (n : Int)] = [UInt8.ofNat n] := by
  rw [wu8_id (by omega) (by omega)]
  simp [bytesStr]
theorem hv_two {t : List UInt8} (h : 2 ≤ (t.takeWhile isHx).length) : (∀ b ∈ t.take 2, isHx b = true) ∧ (t.take 2).length = 2 ∧ hv (t.take 2) < 256 := by
  match t, h with
  | a :: b :: t, h =>
    rw [List.takeWhile_cons] at h
    cases ha : isHx a with
    | false => simp [ha] at h
    | true =>
      simp only [ha, if_true, List.takeWhile_cons] at h
      cases hb : isHx b with
      | false => simp [hb] at h
      | true =>
        have d1 := dg_lt ha
        have d2 := dg_lt hb
        refine ⟨by simp [ha, hb], rfl, ?_⟩
        show 16 * (16 * 0 + dg a) + dg b < 256
        omega
  | [a], h =>
    cases ha : isHx a <;> simp [ha] at h
theorem byteAt_1 (b c : UInt8) (s : List UInt8) : byteAt (b :: c :: s) 1 = some (c.toNat : Int) := rfl
theorem ne_lit {c : UInt8} {n : UInt8} : ((c.toNat : Int) != (n.toNat : Int)) = decide (c ≠ n) := by
  by_cases h : c = n
  · subst h; simp
  · have : ¬ c.toNat = n.toNat := fun e => h (UInt8.toNat_inj.1 e)
    simp only [bne, h, decide_not, decide_false, Bool.not_false, Bool.not_eq_true', beq_eq_false_iff_ne, ne_eq]
    omega
theorem eq_lit {c : UInt8} {n : UInt8} : ((c.toNat : Int) == (n.toNat : Int)) = decide (c = n) := by
  by_cases h : c = n
  · subst h; simp
  · have : ¬ c.toNat = n.toNat := fun e => h (UInt8.toNat_inj.1 e)
    simp only [h, decide_false, beq_eq_false_iff_ne, ne_eq]
    omega
theorem thS_esc (c : UInt8) (t : List UInt8) : thS (92 :: c :: t) = if c = 34 ∨ c = 92 then ([c], 2)
      else if c = 120 then (if (t.takeWhile isHx).length < 2 ∨ (t.headD 0).toNat < 56 then ([], 0) else ([UInt8.ofNat (hv (t.take 2))], 4))
      else if c = 117 then (if uOK t (t.takeWhile isHx) then (encN (hv (t.takeWhile isHx)), (t.takeWhile isHx).length + 3) else ([], 0))
      else ([], 0) := by
  rw [thS, if_neg (by simp)]
/-- What a text's beginning stands for. -/
theorem Thing_ok {s : List UInt8} (h0 : s ≠ []) (hs : s.length < 80000) : runes_thing 80000 s = some ((thS s).1, ((thS s).2 : Int)) := by
  have first : ∀ (b : UInt8) (r : List UInt8), b ≠ 92 → runes_thing 80000 (b :: r) = some ((thS (b :: r)).1, ((thS (b :: r)).2 : Int)) := by
    intro b r hb
    unfold runes_thing thS
    simp only [byteAt_cons, Option.bind_some]
    rw [if_pos (by have := ne_lit (c := b) (n := 92); rw [show ((92 : UInt8).toNat : Int) = 92 from rfl] at this; rw [this]; simpa using hb), if_pos hb]
    unfold runes_thing_j1
    by_cases hc : b.toNat < 32 ∨ 126 < b.toNat
    · rw [if_pos hc, if_pos (by simp only [Bool.or_eq_true, decide_eq_true_eq]; omega)]
      rfl
    · rw [if_neg hc, if_neg (by simp only [Bool.or_eq_true, decide_eq_true_eq]; omega)]
      have : sub? (b :: r) 0 1 = some [b] := by unfold sub?; rw [if_pos (by simp only [List.length_cons]; omega)]; rfl
      rw [this]
      rfl
  match s, h0 with
  | b :: r, _ =>
    by_cases hb : b = 92
    · subst hb
      cases r with
      | nil => rfl
      | cons c t =>
        have hs' : t.length + 2 < 80000 := by simpa using hs
        unfold runes_thing
        simp only [byteAt_cons, Option.bind_some]
        rw [if_neg (by decide), if_neg (by simp only [decide_eq_true_eq, List.length_cons]; omega)]
        have e2 : sub? (92 :: c :: t) 2 (((92 : UInt8) :: c :: t).length : Int) = some t := sub_all (s := 92 :: c :: t) (p := 2) (by simp)
        rw [e2]
        simp only [Option.bind_some]
        rw [show ([48, 49, 50, 51, 52, 53, 54, 55, 56, 57, 97, 98, 99, 100, 101, 102] : List UInt8) = hexs from rfl, TrimHex (by omega)]
        simp only [Option.bind_some, byteAt_1]
        have q34 : ((c.toNat : Int) == 34) = decide (c = 34) := eq_lit (n := 34)
        have q92 : ((c.toNat : Int) == 92) = decide (c = 92) := eq_lit (n := 92)
        have q120 : ((c.toNat : Int) == 120) = decide (c = 120) := eq_lit (n := 120)
        have q117 : ((c.toNat : Int) == 117) = decide (c = 117) := eq_lit (n := 117)
        have one : sub? (92 :: c :: t) 1 2 = some [c] := by unfold sub?; rw [if_pos (by simp only [List.length_cons]; omega)]; rfl
        have hl := tw_dw t
        have e1 : wi64 ((wi64 ((((92 : UInt8) :: c :: t : List UInt8).length : Int) - 2)) - ((t.dropWhile isHx).length : Int)) = ((t.takeWhile isHx).length : Int) := by
          rw [List.length_cons, List.length_cons, wi64_id (x := ((t.length + 1 + 1 : Nat) : Int) - 2) (by omega) (by omega), wi64_id (by omega) (by omega)]
          omega
        have jj : ∀ x : Bool, x = decide (c = 34 ∨ c = 92) → runes_thing_j2 80000 (92 :: c :: t) (c.toNat : Int) (t.dropWhile isHx) x = some ((thS (92 :: c :: t)).1, ((thS (92 :: c :: t)).2 : Int)) := by
          intro x hx
          subst hx
          rw [thS_esc]
          unfold runes_thing_j2
          by_cases hq : c = 34 ∨ c = 92
          · rw [if_pos (by simpa using hq), if_pos hq, one]
            rfl
          · rw [if_neg (by simpa using hq), if_neg hq, q120, q117, e1]
            by_cases hx : c = 120
            · rw [if_pos (by simpa using hx), if_pos hx]
              by_cases h2 : (t.takeWhile isHx).length < 2
              · rw [if_pos (by simp only [decide_eq_true_eq]; omega), if_pos (.inl h2)]
                rfl
              · obtain ⟨a1, a2, a3⟩ := hv_two (t := t) (by omega)
                rw [if_neg (by simp only [decide_eq_true_eq]; omega)]
                match t, a2 with
                | d :: d2 :: t', _ =>
                  have hb3 : byteAt (92 :: c :: d :: d2 :: t') 2 = some (d.toNat : Int) := rfl
                  rw [hb3]
                  simp only [Option.bind_some]
                  unfold runes_thing_j3
                  by_cases h3 : d.toNat < 56
                  · rw [if_pos (by simp only [decide_eq_true_eq]; omega), if_pos (.inr h3)]
                    rfl
                  · rw [if_neg (by simp only [decide_eq_true_eq]; omega), if_neg (by rintro (q | q); exact h2 q; exact h3 q)]
                    have e4 : sub? (92 :: c :: d :: d2 :: t') 2 4 = some [d, d2] := by unfold sub?; rw [if_pos (by simp only [List.length_cons]; omega)]; rfl
                    rw [e4]
                    simp only [Option.bind_some]
                    have a1' : ∀ b ∈ [d, d2], isHx b = true := a1
                    have a3' : hv [d, d2] < 256 := a3
                    rw [Parse_ok (.inl rfl) a1' (by simp) (by simp), mxB_8, if_pos (by omega)]
                    simp only [Option.bind_some]
                    rw [bytesStr_one _ a3']
                    rfl
            · rw [if_neg (by simpa using hx), if_neg hx]
              by_cases hu : c = 117
              · rw [if_pos (by simpa using hu), if_pos hu]
                subst hu
                have e5 : wi64 ((2 : Int) + ((t.takeWhile isHx).length : Int)) = (((t.takeWhile isHx).length + 2 : Nat) : Int) := by rw [wi64_id (by omega) (by omega)]; omega
                have e6 : sub? (92 :: 117 :: t) 2 (((t.takeWhile isHx).length + 2 : Nat) : Int) = some (t.takeWhile isHx) := by
                  rw [show (2 : Int) = ((2 : Nat) : Int) from rfl, sub_seg (by omega) (by simp only [List.length_cons]; omega)]
                  unfold seg
                  exact congrArg some (tw_take t)
                rw [e5, e6]
                simp only [Option.bind_some]
                obtain ⟨x, hx⟩ : ∃ x, strconv_ParseUint_16 80000 (t.takeWhile isHx) 32 = some x := by
                  by_cases h0 : t.takeWhile isHx = []
                  · rw [h0]; exact ⟨_, Parse_nil⟩
                  · rw [Parse_ok (.inr rfl) (take_hx t) (by omega) h0]
                    split
                    · exact ⟨_, rfl⟩
                    · exact ⟨_, rfl⟩
                rw [hx]
                simp only [Option.bind_some]
                rw [thing_u hs' x hx]
                cases uOK t (t.takeWhile isHx) <;> rfl
              · rw [if_neg (by simpa using hu), if_neg hu]
                rfl
        rw [q34, q92]
        by_cases c34 : c = 34
        · rw [if_pos (by simpa using c34)]
          exact jj _ (by simp [c34])
        · rw [if_neg (by simpa using c34)]
          exact jj _ (by simp [c34])
    · exact first b r hb
end Go.Ev
