/- Plain laws that all need: numbers within their kinds, what is read of lists. -/
import Derived.Test.YtmelekiophkpiaaDoorME3
import Derived.Lib.DecodeN
import Derived.Test.YtmelekiophkpiaaDoorMS1
namespace Go.Ev
open Go
set_option linter.unusedVariables false

theorem wi64_id {x : Int} (h1 : -9223372036854775808 ≤ x) (h2 : x < 9223372036854775808) : wi64 x = x := by
  unfold wi64 IntKind.wrap
  simp [IntKind.bits, IntKind.signed]
  omega
theorem wi32_id {x : Int} (h1 : -2147483648 ≤ x) (h2 : x < 2147483648) : wi32 x = x := by
  unfold wi32 IntKind.wrap
  simp [IntKind.bits, IntKind.signed]
  omega
theorem wu8_id {x : Int} (h1 : 0 ≤ x) (h2 : x < 256) : wu8 x = x := by
  unfold wu8 IntKind.wrap
  simp [IntKind.bits, IntKind.signed]
  omega

def gb (s : List UInt8) (i : Nat) : Nat := (s.getD i 0).toNat
theorem gb_lt (s : List UInt8) (i : Nat) : gb s i < 256 := UInt8.toNat_lt _
theorem byteAt_gb {s : List UInt8} {i : Nat} (h : i < s.length) : byteAt s (i : Int) = some (gb s i : Int) := by
  unfold byteAt at? gb
  simp [h]
/-- The rune at place i, and its size. -/
def g (s : List UInt8) (i : Nat) : Nat × Nat := Lib.decodeN (s.length - i) (gb s i) (gb s (i + 1)) (gb s (i + 2)) (gb s (i + 3))
def bad (s : List UInt8) (i : Nat) : Bool := decide ((g s i).1 = 65533) && decide ((g s i).2 = 1)

theorem decode_g (s : List UInt8) (i : Nat) : Utf8.decode ⟨s.toArray⟩ i = g s i := by
  rw [Lib.decode_at]
  have e : ∀ j, (ByteArray.get! ⟨s.toArray⟩ j).toNat = gb s j := by
    intro j
    unfold gb ByteArray.get!
    show (s.toArray[j]!).toNat = _
    by_cases hj : j < s.length
    · simp [hj]
    · simp [hj, List.getD_eq_getElem?_getD]
      rfl
  simp only [e]
  rfl

theorem g_size (s : List UInt8) (i : Nat) (h : i < s.length) : 1 ≤ (g s i).2 ∧ i + (g s i).2 ≤ s.length ∧ (g s i).2 ≤ 4 := by
  unfold g Lib.decodeN
  repeat' split
  all_goals simp only; omega
theorem g_rune (s : List UInt8) (i : Nat) : (g s i).1 ≤ 1114111 := by
  have h0 := gb_lt s i; have h1 := gb_lt s (i + 1); have h2 := gb_lt s (i + 2); have h3 := gb_lt s (i + 3)
  unfold g Lib.decodeN
  repeat' split
  all_goals simp only; omega
theorem runeAt_g (s : List UInt8) (p : Nat) : runeAt s p = ((g s p).1 : Int) := by
  unfold runeAt
  show ((Utf8.decode ⟨s.toArray⟩ p).1 : Int) = _
  rw [decode_g]
theorem widthAt_g (s : List UInt8) (p : Nat) : widthAt s p = (g s p).2 := by
  unfold widthAt
  show (Utf8.decode ⟨s.toArray⟩ p).2 = _
  rw [decode_g]
theorem wi64_of {x : Int} (h : -9223372036854775808 ≤ x ∧ x < 9223372036854775808) : wi64 x = x := by
  unfold wi64 IntKind.wrap
  simp [IntKind.bits, IntKind.signed]
  omega
theorem wi32_of {x : Int} (h : -2147483648 ≤ x ∧ x < 2147483648) : wi32 x = x := by
  unfold wi32 IntKind.wrap
  simp [IntKind.bits, IntKind.signed]
  omega
theorem wu8_of {x : Int} (h : 0 ≤ x ∧ x < 256) : wu8 x = x := by
  unfold wu8 IntKind.wrap
  simp [IntKind.bits, IntKind.signed]
  omega
theorem wi64_nat {n : Nat} (h : n < 9223372036854775807) : wi64 ((n : Int) + 1) = ((n + 1 : Nat) : Int) := by rw [wi64_of (by omega)]; omega
theorem chk_of {p : Prop} [Decidable p] (h : p) : chk p = some () := by unfold chk; rw [if_pos h]
theorem at_of {α : Type} {l : List α} {i : Nat} : at? l (i : Int) = l[i]? := by
  unfold at?
  rw [if_pos (by omega), Int.toNat_natCast]
theorem at_lt {α : Type} {l : List α} {i : Nat} (h : i < l.length) : at? l (i : Int) = some (l[i]'h) := by rw [at_of, List.getElem?_eq_getElem h]
theorem at_int {α : Type} {l : List α} {i : Int} (h0 : 0 ≤ i) (h : i < l.length) : at? l i = some (l[i.toNat]'(by omega)) := by
  unfold at?
  rw [if_pos h0, List.getElem?_eq_getElem]
theorem byteAt_of {s : List UInt8} {i : Nat} (h : i < s.length) : byteAt s (i : Int) = some ((s[i]'h).toNat : Int) := by
  unfold byteAt
  rw [at_lt h]
theorem sub_pre0 {α : Type} {s : List α} {b : Nat} (h : b ≤ s.length) : sub? s 0 (b : Int) = some (s.take b) := by
  unfold sub?
  rw [if_pos (by omega), Int.toNat_natCast]
  rfl
theorem sub_suf {α : Type} {s : List α} {p : Nat} (h : p ≤ s.length) : sub? s (p : Int) (s.length : Int) = some (s.drop p) := by
  unfold sub?
  rw [if_pos (by omega), Int.toNat_natCast, Int.toNat_natCast, List.take_length]
theorem str_of_el (x : List UInt8) : bytesStr (bytesEl x) = x := by
  unfold bytesStr bytesEl
  rw [List.map_map]
  have : ((fun n : Int => UInt8.ofNat n.toNat) ∘ fun b : UInt8 => (b.toNat : Int)) = id := by
    funext b
    simp
  rw [this, List.map_id]
theorem el_append (a b : List UInt8) : bytesEl a ++ bytesEl b = bytesEl (a ++ b) := by simp [bytesEl]
theorem el_len (a : List UInt8) : (bytesEl a).length = a.length := by simp [bytesEl]
end Go.Ev

namespace Go.Ev
open Go
set_option linter.unusedVariables false

def Tot {α : Type} (x : Option α) : Prop := ∃ v, x = some v
theorem tot_some {α : Type} (v : α) : Tot (some v) := ⟨v, rfl⟩
theorem tot_bind {α β : Type} {x : Option α} {f : α → Option β} (hx : Tot x) (hf : ∀ v, x = some v → Tot (f v)) : Tot (Option.bind x f) := by
  obtain ⟨v, rfl⟩ := hx
  exact hf v rfl
theorem tot_ite {α : Type} {c : Bool} {a b : Option α} (h1 : c = true → Tot a) (h2 : c = false → Tot b) : Tot (if c then a else b) := by
  cases c with
  | true => rw [if_pos rfl]; exact h1 rfl
  | false => rw [if_neg (by simp)]; exact h2 rfl
theorem tot_dec {α : Type} {p : Prop} [Decidable p] {a b : Option α} (h1 : p → Tot a) (h2 : ¬ p → Tot b) : Tot (if decide p then a else b) :=
  tot_ite (fun h => h1 (of_decide_eq_true h)) (fun h => h2 (of_decide_eq_false h))
theorem tot_chk {p : Prop} [Decidable p] (h : p) : Tot (chk p) := ⟨(), chk_of h⟩
theorem tot_at {α : Type} {l : List α} {i : Nat} (h : i < l.length) : Tot (at? l (i : Int)) := ⟨_, at_lt h⟩
theorem tot_atI {α : Type} {l : List α} {i : Int} (h0 : 0 ≤ i) (h : i < l.length) : Tot (at? l i) := ⟨_, at_int h0 h⟩
theorem tot_loop {α β : Type} {L : Nat → Int → α → Option β} {len : Nat} (hlen : len < 4611686018427387904) (I : Nat → α → Prop)
    (step : ∀ n i s, I i s → i ≤ len → (∀ s', i < len → I (i + 1) s' → Tot (L n (wi64 ((i : Int) + 1)) s')) → Tot (L (n + 1) (i : Int) s)) : ∀ n i s, i ≤ len → len - i < n → I i s → Tot (L n (i : Int) s) := by
  intro n
  induction n with
  | zero => intro i s _ h; omega
  | succ n ih =>
    intro i s h1 h2 h3
    refine step n i s h3 h1 fun s' hlt hI => ?_
    rw [wi64_nat (by omega)]
    exact ih (i + 1) s' (by omega) (by omega) hI
theorem tot_loop0 {β : Type} {L : Nat → Int → Option β} {len : Nat} (hlen : len < 4611686018427387904)
    (step : ∀ n i, i ≤ len → (i < len → Tot (L n (wi64 ((i : Int) + 1)))) → Tot (L (n + 1) (i : Int))) : ∀ n i, i ≤ len → len - i < n → Tot (L n (i : Int)) := by
  intro n
  induction n with
  | zero => intro i _ h; omega
  | succ n ih =>
    intro i h1 h2
    refine step n i h1 fun hlt => ?_
    rw [wi64_nat (by omega)]
    exact ih (i + 1) (by omega) (by omega)
theorem bind_eq {α β : Type} {x : Option α} {f : α → Option β} {v : β} (h : Option.bind x f = some v) : ∃ u, x = some u ∧ f u = some v := by
  cases x with
  | none => cases h
  | some u => exact ⟨u, rfl, h⟩

theorem asc_at {bs : List Bool} (hl : bs.length = 256) (b : UInt8) (k : Nat) : Tot (strings_asciiSet_contains k bs (b.toNat : Int)) := by
  unfold strings_asciiSet_contains
  exact tot_bind (tot_at (by rw [hl]; exact UInt8.toNat_lt b)) fun v _ => tot_some _
theorem trimR_tot {bs : List Bool} (hl : bs.length = 256) : ∀ n (s : List UInt8), s.length < n → s.length < 4611686018427387904 → ∃ v, strings_trimRightASCII_l1 80000 bs n s = some v ∧ v.length ≤ s.length := by
  intro n
  induction n with
  | zero => intro s h; omega
  | succ n ih =>
    intro s h hs
    unfold strings_trimRightASCII_l1 strings_trimRightASCII_b1 strings_trimRightASCII_j1
    by_cases h0 : 0 < s.length
    · rw [if_pos (by simp only [decide_eq_true_eq]; omega), show wi64 ((s.length : Int) - 1) = ((s.length - 1 : Nat) : Int) by rw [wi64_of (by omega)]; omega, byteAt_of (by omega)]
      simp only [Option.bind_some]
      obtain ⟨v, hv⟩ := asc_at hl (s[s.length - 1]'(by omega)) 80000
      rw [hv]
      simp only [Option.bind_some]
      cases v with
      | false => exact ⟨s, rfl, Nat.le_refl _⟩
      | true =>
        rw [if_neg (by simp), sub_pre0 (by omega)]
        simp only [Option.bind_some]
        obtain ⟨v, h1, h2⟩ := ih (s.take (s.length - 1)) (by rw [List.length_take]; omega) (by rw [List.length_take]; omega)
        exact ⟨v, h1, Nat.le_trans h2 (by rw [List.length_take]; omega)⟩
    · rw [if_neg (by simp only [decide_eq_true_eq]; omega)]
      exact ⟨s, rfl, Nat.le_refl _⟩
theorem trimL_tot {bs : List Bool} (hl : bs.length = 256) : ∀ n (s : List UInt8), s.length < n → Tot (strings_trimLeftASCII_l1 80000 bs n s) := by
  intro n
  induction n with
  | zero => intro s h; omega
  | succ n ih =>
    intro s h
    unfold strings_trimLeftASCII_l1 strings_trimLeftASCII_b1 strings_trimLeftASCII_j1
    by_cases h0 : 0 < s.length
    · rw [if_pos (by simp only [decide_eq_true_eq]; omega), show (0 : Int) = ((0 : Nat) : Int) from rfl, byteAt_of h0]
      simp only [Option.bind_some]
      obtain ⟨v, hv⟩ := asc_at hl (s[0]'h0) 80000
      rw [hv]
      simp only [Option.bind_some]
      cases v with
      | false => exact tot_some _
      | true =>
        rw [if_neg (by simp), show (1 : Int) = ((1 : Nat) : Int) from rfl, sub_suf (by omega)]
        simp only [Option.bind_some]
        exact ih _ (by rw [List.length_drop]; omega)
    · rw [if_neg (by simp only [decide_eq_true_eq]; omega)]
      exact tot_some _
theorem Trim_tot {cut : List UInt8} {bs : List Bool} (hm : strings_makeASCIISet 80000 cut = some (bs, true)) (hl : bs.length = 256) (h1 : cut.length ≠ 1) (h0 : cut ≠ []) {s : List UInt8} (hs : s.length < 80000) : Tot (strings_Trim 80000 s cut) := by
  unfold strings_Trim strings_Trim_j1
  refine tot_ite (fun _ => tot_some _) fun _ => ?_
  rw [if_neg (by simp only [beq_iff_eq]; omega)]
  unfold strings_Trim_j2
  rw [if_neg (by simp), hm]
  simp only [Option.bind_some, if_true]
  unfold strings_trimRightASCII strings_trimLeftASCII
  obtain ⟨v, h1, h2⟩ := trimR_tot hl 80000 s hs (by omega)
  rw [h1]
  simp only [Option.bind_some]
  exact tot_bind (trimL_tot hl 80000 v (by omega)) fun v _ => tot_some _

def cutF : List UInt8 := [97, 98, 99, 100, 101, 102, 103, 104, 105, 106, 107, 108, 109, 110, 111, 112, 113, 114, 115, 116, 117, 118, 119, 120, 121, 122]
def cutR : List UInt8 := [97, 98, 99, 100, 101, 102, 103, 104, 105, 106, 107, 108, 109, 110, 111, 112, 113, 114, 115, 116, 117, 118, 119, 120, 121, 122, 48, 49, 50, 51, 52, 53, 54, 55, 56, 57, 45]
def ascOf (cut : List UInt8) : List Bool := (List.range 256).map fun i => cut.contains (UInt8.ofNat i)
theorem ascOf_len (cut : List UInt8) : (ascOf cut).length = 256 := by simp [ascOf]
set_option maxRecDepth 100000 in
theorem asc_F : strings_makeASCIISet 80000 cutF = some (ascOf cutF, true) := by decide +kernel
set_option maxRecDepth 100000 in
theorem asc_R : strings_makeASCIISet 80000 cutR = some (ascOf cutR, true) := by decide +kernel
theorem featNamed_tot (s : List UInt8) : ∃ b, feature_named 80000 s = some b ∧ (b = true → s.length ≤ 32) := by
  unfold feature_named
  by_cases h : s ≠ [] ∧ s.length ≤ 32
  · rw [show ((!(s == ([] : List UInt8))) && decide ((s.length : Int) ≤ 32)) = true by simp [h.1]; omega]
    unfold feature_named_j1
    rw [if_pos rfl]
    obtain ⟨v, hv⟩ := Trim_tot asc_F (ascOf_len _) (by simp [cutF]) (by simp [cutF]) (s := s) (by omega)
    rw [show ([97, 98, 99, 100, 101, 102, 103, 104, 105, 106, 107, 108, 109, 110, 111, 112, 113, 114, 115, 116, 117, 118, 119, 120, 121, 122] : List UInt8) = cutF from rfl, hv]
    exact ⟨_, rfl, fun _ => h.2⟩
  · rw [show ((!(s == ([] : List UInt8))) && decide ((s.length : Int) ≤ 32)) = false by
      rw [Bool.eq_false_iff]
      intro q
      simp only [Bool.and_eq_true, Bool.not_eq_true', beq_eq_false_iff_ne, ne_eq, decide_eq_true_eq] at q
      exact h ⟨q.1, by omega⟩]
    exact ⟨false, rfl, fun q => by cases q⟩
theorem ruleNamed_tot (s : List UInt8) : Tot (rule_named 80000 s) := by
  unfold rule_named
  refine tot_dec (fun h => ?_) fun _ => tot_some _
  refine tot_bind (Trim_tot asc_R (ascOf_len _) (by simp [cutR]) (by simp [cutR]) (by omega)) fun v _ => tot_some _
theorem lettered_tot (k : Nat) (r : Int) : Tot (feature_lettered k r) := by
  unfold feature_lettered
  repeat' first
    | exact tot_some _
    | (refine tot_ite (fun _ => ?_) fun _ => ?_)
    | (unfold feature_lettered_j1)
    | (unfold feature_lettered_j2)
    | (unfold feature_lettered_j3)
    | (unfold feature_lettered_j4)
    | (unfold feature_lettered_j5)
theorem within_tot (k : Nat) (a : List (List UInt8) × List (Int × Int × Int × Unit) × Unit) (p m : Int) : Tot (feature_within k a p m) := by
  unfold feature_within
  exact tot_bind (tot_chk (by omega)) fun _ _ => tot_some _

abbrev Alph : Type := List (List UInt8) × List (Int × Int × Int × Unit) × Unit
theorem featCheck_l2 (a : Alph) (h : a.2.1.length ≤ 128) : Tot (feature_Check_l2 80000 a 80000 0 []) := by
  refine tot_loop (L := feature_Check_l2 80000 a) (len := a.2.1.length) (by omega) (fun _ _ => True) ?_ 80000 0 [] (Nat.zero_le _) (by omega) trivial
  intro n i m _ hi go
  unfold feature_Check_l2 feature_Check_b2
  refine tot_dec (fun hlt => ?_) fun _ => tot_some _
  have hlt : i < a.2.1.length := by omega
  refine tot_bind (tot_at hlt) fun x _ => tot_bind (lettered_tot _ _) fun v _ => ?_
  unfold feature_Check_j4
  have j5 : ∀ t, Tot (feature_Check_j5 (feature_Check_l2 80000 a n) (i : Int) m x t) := fun t => by
    unfold feature_Check_j5
    exact tot_ite (fun _ => tot_some _) fun _ => go _ hlt trivial
  exact tot_ite (fun _ => j5 _) fun _ => tot_bind (within_tot _ _ _ _) fun _ _ => j5 _
theorem featCheck_l1 (a : Alph) (h1 : a.1.length ≤ 24) (h2 : a.2.1.length ≤ 128) : ∀ n i m, i ≤ a.1.length → a.1.length - i < n → ∃ e, feature_Check_l1 80000 a n (i : Int) m = some e ∧ (e = 0 → ∀ x ∈ a.1.drop i, x.length ≤ 32) := by
  intro n
  induction n with
  | zero => intro i m _ h; omega
  | succ n ih =>
    intro i m hi hn
    unfold feature_Check_l1 feature_Check_b1
    by_cases hlt : i < a.1.length
    · rw [if_pos (by simp only [decide_eq_true_eq]; omega), at_lt hlt]
      simp only [Option.bind_some]
      obtain ⟨b, hb, hb2⟩ := featNamed_tot (a.1[i]'hlt)
      rw [hb]
      simp only [Option.bind_some]
      unfold feature_Check_j3
      by_cases hc : ((!b) || ((mget (eqEl .str) m (a.1[i]'hlt)).getD false)) = true
      · rw [if_pos hc]
        exact ⟨7, rfl, fun q => by cases q⟩
      · rw [if_neg hc, wi64_nat (by omega)]
        obtain ⟨e, he, hp⟩ := ih (i + 1) (mset (eqEl .str) m (a.1[i]'hlt) true) (by omega) (by omega)
        refine ⟨e, he, fun h0 x hx => ?_⟩
        rw [List.drop_eq_getElem_cons hlt] at hx
        rcases List.mem_cons.1 hx with rfl | hx
        · refine hb2 ?_
          cases b with
          | true => rfl
          | false => simp at hc
        · exact hp h0 x hx
    · rw [if_neg (by simp only [decide_eq_true_eq]; omega)]
      obtain ⟨e, he⟩ := featCheck_l2 a h2
      exact ⟨e, he, fun _ x hx => by rw [List.drop_eq_nil_of_le (by omega)] at hx; cases hx⟩
theorem featCheck_tot (a : Alph) : ∃ e, feature_Check 80000 a = some e ∧ (e = 0 → a.1.length ≤ 24 ∧ a.2.1.length ≤ 128 ∧ ∀ x ∈ a.1, x.length ≤ 32) := by
  unfold feature_Check feature_Check_j1 feature_Check_j2
  by_cases hc : ((decide ((24 : Int) < (a.1.length : Int)) || decide ((a.2.1.length : Int) < 1)) || decide ((128 : Int) < (a.2.1.length : Int))) = true
  · rw [if_pos hc]
    exact ⟨7, rfl, fun q => by cases q⟩
  · rw [if_neg hc]
    simp only [Bool.or_eq_true, decide_eq_true_eq] at hc
    obtain ⟨e, he, hp⟩ := featCheck_l1 a (by omega) (by omega) 80000 0 [] (Nat.zero_le _) (by omega)
    exact ⟨e, he, fun h0 => ⟨by omega, by omega, hp h0⟩⟩

theorem indexOf_tot (l : List (Int × Int × Int × Unit)) (hl : l.length ≤ 128) (r : Int) : ∃ v, slices_IndexFunc___api_Letter_api_Letter__Of_c1 80000 l (r, ()) = some v ∧ v < (l.length : Int) := by
  unfold slices_IndexFunc___api_Letter_api_Letter__Of_c1
  have : ∀ n i, i ≤ l.length → l.length - i < n → ∃ v, slices_IndexFunc___api_Letter_api_Letter__Of_c1_l1 80000 l (r, ()) n (i : Int) = some v ∧ v < (l.length : Int) := by
    intro n
    induction n with
    | zero => intro i _ h; omega
    | succ n ih =>
      intro i h1 h2
      unfold slices_IndexFunc___api_Letter_api_Letter__Of_c1_l1 slices_IndexFunc___api_Letter_api_Letter__Of_c1_b1 feature_Of_c1
      by_cases hlt : i < l.length
      · rw [if_pos (by simp only [decide_eq_true_eq]; omega), at_lt hlt]
        simp only [Option.bind_some]
        split
        · exact ⟨_, rfl, by omega⟩
        · rw [wi64_nat (by omega)]
          exact ih (i + 1) (by omega) (by omega)
      · rw [if_neg (by simp only [decide_eq_true_eq]; omega)]
        exact ⟨-1, rfl, by omega⟩
  exact this 80000 0 (Nat.zero_le _) (by omega)
theorem Of_tot (a : Alph) (r : Int) : Tot (feature_Of 80000 a r) := by
  unfold feature_Of
  obtain ⟨e, he, hp⟩ := featCheck_tot (a.1, a.2.1, ())
  rw [he]
  simp only [Option.bind_some]
  refine tot_ite (fun _ => tot_some _) fun h => ?_
  have h0 : e = 0 := by simpa using h
  obtain ⟨_, h2, _⟩ := hp h0
  obtain ⟨v, hv, hlt⟩ := indexOf_tot a.2.1 h2 r
  rw [hv]
  simp only [Option.bind_some]
  exact tot_dec (fun _ => tot_some _) fun hn => tot_bind (tot_atI (by omega) hlt) fun _ _ => tot_some _
theorem letter_tot (a : Alph) (r : Int) : Tot (rule_letter 80000 a r) := by
  unfold rule_letter
  exact tot_bind (Of_tot _ _) fun _ _ => tot_some _

theorem Text_l1_tot (a : Alph) (p m : Int) (h1 : a.1.length ≤ 24) (h2 : ∀ x ∈ a.1, x.length ≤ 32) : ∀ n i (acc : List UInt8), i ≤ a.1.length → a.1.length - i < n → acc.length ≤ 33 * i → Tot (feature_Text_l1 80000 a p m n (i : Int) (bytesEl acc)) := by
  intro n
  induction n with
  | zero => intro i acc _ h; omega
  | succ n ih =>
    intro i acc hi hn ha
    unfold feature_Text_l1 feature_Text_b1
    refine tot_dec (fun hlt => ?_) fun _ => ?_
    · have hlt : i < a.1.length := by omega
      have hx := h2 _ (List.getElem_mem hlt)
      rw [at_lt hlt]
      simp only [Option.bind_some]
      have write : ∀ (c : UInt8), Tot (Option.bind (chk (([c] : List UInt8).length + (a.1[i]'hlt).length ≤ lim)) fun _ => Option.bind (strings_Builder_WriteString_i1 80000 (([c] : List UInt8) ++ (a.1[i]'hlt)) (bytesEl acc)) fun v3 => feature_Text_j1 (feature_Text_l1 80000 a p m n) (i : Int) v3.2.2) := by
        intro c
        refine tot_bind (tot_chk (by unfold lim; simp; omega)) fun _ _ => ?_
        unfold strings_Builder_WriteString_i1 bld_copyCheck
        simp only [Option.bind_some]
        rw [chk_of (by unfold lim; rw [el_len, el_len]; simp; omega)]
        simp only [Option.bind_some]
        unfold feature_Text_j1
        rw [el_append, wi64_nat (by omega)]
        exact ih (i + 1) _ (by omega) (by omega) (by simp; omega)
      refine tot_bind (tot_chk (by omega)) fun _ _ => tot_ite (fun _ => write 43) fun _ => tot_bind (tot_chk (by omega)) fun _ _ => tot_ite (fun _ => write 45) fun _ => ?_
      unfold feature_Text_j1
      rw [wi64_nat (by omega)]
      exact ih (i + 1) _ (by omega) (by omega) (by omega)
    · unfold bld_String
      rw [str_of_el, if_pos rfl]
      exact tot_some _
theorem Text_tot (a : Alph) (p m : Int) : Tot (feature_Text 80000 a p m) := by
  unfold feature_Text
  obtain ⟨e, he, hp⟩ := featCheck_tot (a.1, a.2.1, ())
  rw [he]
  simp only [Option.bind_some]
  refine tot_ite (fun _ => tot_some _) fun h => ?_
  have h0 : e = 0 := by simpa using h
  obtain ⟨h1, _, h3⟩ := hp h0
  exact tot_bind (within_tot _ _ _ _) fun _ _ => tot_ite (fun _ => tot_some _) fun _ => Text_l1_tot a p m h1 h3 80000 0 [] (Nat.zero_le _) (by have : a.1.length ≤ 24 := h1; omega) (by simp)
theorem class_tot (a : Alph) (p m : Int) : Tot (rule_class 80000 a p m) := by
  unfold rule_class
  exact tot_bind (Text_tot _ _ _) fun _ _ => tot_some _
theorem either_tot (a : Alph) (r p m : Int) : Tot (rule_either 80000 a r p m) := by
  unfold rule_either
  exact tot_ite (fun _ => tot_bind (letter_tot _ _) fun _ _ => tot_some _) fun _ => tot_bind (class_tot _ _ _) fun _ _ => tot_some _
theorem swap_tot (a : Alph) (s : Int × Int × Int × Int × Unit) (n : Int) : Tot (rule_swap 80000 a s n) := by
  have j2 : ∀ t, Tot (rule_swap_j2 80000 a s t) := fun t => by
    unfold rule_swap_j2
    exact tot_ite (fun _ => tot_some _) fun _ => tot_bind (either_tot _ _ _ _) fun _ _ => tot_some _
  unfold rule_swap rule_swap_j1
  exact tot_ite (fun _ => j2 _) fun _ => tot_ite (fun _ => j2 _) fun _ => j2 _
end Go.Ev

namespace Go.Ev
open Go
set_option linter.unusedVariables false

abbrev Node : Type := Int × Int × Int × Int × List Int × Unit
abbrev Pat : Type := List Node × Unit
theorem containsB_tot (l : List Bool) (hl : l.length ≤ 1000) (v : Bool) : Tot (slices_Contains___bool_bool_ 80000 l v) := by
  unfold slices_Contains___bool_bool_ slices_Index___bool_bool_
  refine tot_bind (tot_loop0 (L := slices_Index___bool_bool__l1 l v) (len := l.length) (by omega) ?_ 80000 0 (Nat.zero_le _) (by omega)) fun _ _ => tot_some _
  intro n i hi go
  unfold slices_Index___bool_bool__l1 slices_Index___bool_bool__b1
  exact tot_dec (fun h => tot_bind (tot_at (by omega)) fun _ _ => tot_ite (fun _ => tot_some _) fun _ => go (by omega)) fun _ => tot_some _

theorem count_set_true {l : List Bool} {i : Nat} (h : i < l.length) (hf : l[i] = false) : (l.set i true).count false + 1 = l.count false := by
  rw [List.count_set h, hf]
  have : 0 < l.count false := List.count_pos_iff.2 (hf ▸ List.getElem_mem h)
  simp
  omega
theorem tree_l2 (x : Node) (i : Nat) (p : Pat) (go : Int → List Bool → Option Bool) (hp : p.1.length ≤ 256) (hgo : ∀ t, t.length = p.1.length → Tot (go (wi64 ((i : Int) + 1)) t)) :
    ∀ n j (t : List Bool), t.length = p.1.length → t.count false < n → j + t.count false ≤ 1000 → Tot (pattern_tree_l2 x (i : Int) p go n (j : Int) t) := by
  intro n
  induction n with
  | zero => intro j t _ h; omega
  | succ n ih =>
    intro j t ht hn hj
    unfold pattern_tree_l2 pattern_tree_b2
    refine tot_dec (fun hlt => ?_) fun _ => hgo t ht
    refine tot_bind (tot_at (by omega)) fun y _ => ?_
    unfold pattern_tree_j5
    refine tot_ite (fun _ => ⟨false, rfl⟩) fun hc => ?_
    have hy : (i : Int) < y ∧ y < (p.1.length : Int) := by
      simp only [Bool.or_eq_false_iff, decide_eq_false_iff_not] at hc
      omega
    obtain ⟨m, rfl⟩ : ∃ m : Nat, y = (m : Int) := ⟨y.toNat, by omega⟩
    have hm : m < t.length := by omega
    rw [at_lt hm]
    simp only [Option.bind_some]
    unfold pattern_tree_j6
    refine tot_ite (fun _ => tot_some _) fun hf => ?_
    have hc := count_set_true hm hf
    rw [wi64_nat (by omega), Int.toNat_natCast, at_lt hm]
    simp only [Option.bind_some]
    exact ih (j + 1) (t.set m true) (by rw [List.length_set]; exact ht) (by omega) (by omega)
theorem tree_tot (p : Pat) : ∃ b, pattern_tree 80000 p = some b ∧ (b = true → p.1.length ≤ 256) := by
  unfold pattern_tree
  by_cases hb : (decide ((p.1.length : Int) < 1) || decide ((256 : Int) < (p.1.length : Int))) = true
  · rw [hb]
    exact ⟨false, rfl, fun q => by cases q⟩
  · rw [Bool.eq_false_iff.2 hb]
    simp only [Bool.or_eq_true, decide_eq_true_eq] at hb
    have h1 : 1 ≤ p.1.length := by omega
    have h2 : p.1.length ≤ 256 := by omega
    have key : Tot (pattern_tree_j1 80000 p false) := by
      unfold pattern_tree_j1
      rw [if_neg (by simp)]
      refine tot_bind (tot_chk (by unfold lim; omega)) fun _ _ => ?_
      rw [Int.toNat_natCast]
      refine tot_loop (L := pattern_tree_l1 80000 p) (len := p.1.length) (by omega) (fun _ t => t.length = p.1.length) ?_ 80000 0 _ (Nat.zero_le _) (by omega) (by simp)
      intro n i t ht hi go
      unfold pattern_tree_l1 pattern_tree_b1
      refine tot_dec (fun hlt => ?_) fun _ => ?_
      · refine tot_bind (tot_at (by omega)) fun x _ => ?_
        have j4 : ∀ b, Tot (pattern_tree_j4 80000 x (i : Int) p (pattern_tree_l1 80000 p n) t b) := fun b => by
          unfold pattern_tree_j4
          refine tot_ite (fun _ => tot_some _) fun _ => ?_
          have hcf : t.count false ≤ t.length := List.count_le_length
          exact tree_l2 x i p _ h2 (fun t' ht' => go t' (by omega) ht') 80000 0 t ht (by omega) (by omega)
        have j2 : Tot (pattern_tree_j2 80000 x (i : Int) p (pattern_tree_l1 80000 p n) t) := by
          unfold pattern_tree_j2 pattern_tree_j3
          exact tot_ite (fun _ => j4 _) fun _ => j4 _
        have j10 : ∀ b, Tot (pattern_tree_j10 80000 x (i : Int) p (pattern_tree_l1 80000 p n) t b) := fun b => by
          unfold pattern_tree_j10
          exact tot_ite (fun _ => tot_ite (fun _ => tot_some _) fun _ => j2) fun _ => tot_some _
        have j9 : ∀ b, Tot (pattern_tree_j9 80000 x (i : Int) p (pattern_tree_l1 80000 p n) t b) := fun b => by
          unfold pattern_tree_j9
          exact tot_ite (fun _ => tot_ite (fun _ => tot_some _) fun _ => j2) fun _ => tot_ite (fun _ => j10 _) fun _ => tot_ite (fun _ => j10 _) fun _ => tot_ite (fun _ => j10 _) fun _ => tot_ite (fun _ => j10 _) fun _ => j10 _
        have j8 : ∀ b, Tot (pattern_tree_j8 80000 x (i : Int) p (pattern_tree_l1 80000 p n) t b) := fun b => by
          unfold pattern_tree_j8
          exact tot_ite (fun _ => j2) fun _ => tot_ite (fun _ => j9 _) fun _ => j9 _
        exact tot_ite (fun _ => j8 _) fun _ => j8 _
      · rw [show (1 : Int) = ((1 : Nat) : Int) from rfl, sub_suf (by omega)]
        simp only [Option.bind_some]
        exact tot_bind (containsB_tot _ (by rw [List.length_drop]; omega) _) fun _ _ => tot_some _
    obtain ⟨b, hb'⟩ := key
    exact ⟨b, hb', fun _ => h2⟩
theorem patCheck_tot (a : Alph) (p : Pat) : Tot (pattern_Check 80000 a p) := by
  unfold pattern_Check
  obtain ⟨e, he, _⟩ := featCheck_tot (a.1, a.2.1, ())
  rw [he]
  simp only [Option.bind_some]
  refine tot_ite (fun _ => tot_some _) fun _ => ?_
  obtain ⟨b, hb, h2⟩ := tree_tot (p.1, ())
  rw [hb]
  simp only [Option.bind_some]
  refine tot_ite (fun _ => tot_some _) fun h => ?_
  have hl : p.1.length ≤ 256 := h2 (by simpa using h)
  refine tot_loop0 (L := pattern_Check_l1 80000 p a) (len := p.1.length) (by omega) ?_ 80000 0 (Nat.zero_le _) (by omega)
  intro n i hi go
  unfold pattern_Check_l1 pattern_Check_b1 pattern_Check_j1
  exact tot_dec (fun hlt => tot_bind (tot_at (by omega)) fun x _ => tot_ite (fun _ => tot_bind (Of_tot _ _) fun _ _ => tot_ite (fun _ => tot_some _) fun _ => go (by omega))
    fun _ => tot_ite (fun _ => tot_bind (Text_tot _ _ _) fun _ _ => tot_ite (fun _ => tot_some _) fun _ => go (by omega)) fun _ => go (by omega)) fun _ => tot_some _

abbrev Rul : Type := List UInt8 × List (Int × Int × Int × Unit) × List (Int × Int × Int × Int × Unit) × Pat × Pat × Int × Bool × Unit
theorem ruleCheck_tot (a : Alph) (r : Rul) : Tot (rule_Check 80000 a r) := by
  unfold rule_Check
  obtain ⟨e, he, _⟩ := featCheck_tot (a.1, a.2.1, ())
  rw [he]
  simp only [Option.bind_some]
  refine tot_ite (fun _ => tot_some _) fun _ => tot_bind (ruleNamed_tot _) fun v _ => ?_
  unfold rule_Check_j1 rule_Check_j2 rule_Check_j3 rule_Check_j4 rule_Check_j5
  refine tot_ite (fun _ => tot_some _) fun hc => ?_
  simp only [Bool.or_eq_false_iff, decide_eq_false_iff_not] at hc
  have h1 : r.2.1.length ≤ 8 := by omega
  have h2 : r.2.2.1.length ≤ 8 := by omega
  have j6 : ∀ t, Tot (rule_Check_j6 t) := fun t => by
    unfold rule_Check_j6
    exact tot_ite (fun _ => tot_some _) fun _ => tot_some _
  have l2 : Tot (rule_Check_l2 80000 r a 80000 0) := by
    refine tot_loop0 (L := rule_Check_l2 80000 r a) (len := r.2.2.1.length) (by omega) ?_ 80000 0 (Nat.zero_le _) (by omega)
    intro n i hi go
    unfold rule_Check_l2 rule_Check_b2
    exact tot_dec (fun hlt => tot_bind (tot_at (by omega)) fun x _ => tot_bind (swap_tot _ _ _) fun _ _ => tot_ite (fun _ => tot_some _) fun _ => go (by omega))
      fun _ => tot_bind (patCheck_tot _ _) fun _ _ => tot_ite (fun _ => j6 _) fun _ => tot_bind (patCheck_tot _ _) fun _ _ => j6 _
  refine tot_loop0 (L := rule_Check_l1 80000 r a) (len := r.2.1.length) (by omega) ?_ 80000 0 (Nat.zero_le _) (by omega)
  intro n i hi go
  unfold rule_Check_l1 rule_Check_b1
  exact tot_dec (fun hlt => tot_bind (tot_at (by omega)) fun x _ => tot_bind (either_tot _ _ _ _) fun _ _ => tot_ite (fun _ => tot_some _) fun _ => go (by omega)) fun _ => l2
theorem lawCheck_tot (a : Alph) (l : List Rul) : Tot (law_Check 80000 a l) := by
  unfold law_Check
  obtain ⟨e, he, _⟩ := featCheck_tot (a.1, a.2.1, ())
  rw [he]
  simp only [Option.bind_some]
  refine tot_ite (fun _ => tot_some _) fun _ => tot_dec (fun _ => tot_some _) fun hl => ?_
  refine tot_loop0 (L := law_Check_l1 80000 l a) (len := l.length) (by omega) ?_ 80000 0 (Nat.zero_le _) (by omega)
  intro n i hi go
  unfold law_Check_l1 law_Check_b1
  exact tot_dec (fun hlt => tot_bind (tot_at (by omega)) fun x _ => tot_bind (ruleCheck_tot _ _) fun _ _ => tot_ite (fun _ => tot_some _) fun _ => go (by omega)) fun _ => tot_some _

/-- A language's name bears no line's end. -/
theorem g_small1 {s : List UInt8} {p : Nat} (h : p < s.length) (hr : (g s p).1 < 128) : (g s p).2 = 1 ∧ gb s p = (g s p).1 := by
  have h0 := gb_lt s p; have h1 := gb_lt s (p + 1); have h2 := gb_lt s (p + 2); have h3 := gb_lt s (p + 3)
  revert hr
  unfold g Lib.decodeN
  repeat' split
  all_goals (dsimp only; intro hr; omega)
theorem c1_val (r : Int) : family_named_c1 80000 r = some (!((decide (97 ≤ r) && decide (r ≤ 122)) || ((decide (48 ≤ r) && decide (r ≤ 57)) || decide (r = 45)))) := by
  unfold family_named_c1 family_named_c1_j1 family_named_c1_j2 family_named_c1_j3 family_named_c1_j4
  have key : ∀ x y : Bool, x = y → (some x : Option Bool) = some y := fun x y h => by rw [h]
  by_cases h1 : (decide (r < 97) || decide ((122 : Int) < r)) = true
  · rw [if_pos h1]
    refine key _ _ ?_
    rw [Bool.eq_iff_iff]
    simp only [Bool.or_eq_true, decide_eq_true_eq] at h1
    simp
    omega
  · rw [if_neg h1]
    refine key _ _ ?_
    simp only [Bool.or_eq_true, decide_eq_true_eq] at h1
    rw [Bool.eq_iff_iff]
    simp
    omega
theorem named_l1 {s : List UInt8} (hs : s.length ≤ 32) : ∀ n p, p ≤ s.length → s.length - p < n → ∃ v, strings_indexFunc_named_c1_l1 80000 s true n p = some v ∧ (v < 0 → ∀ j, p ≤ j → j < s.length → gb s j ≠ 10) := by
  intro n
  induction n with
  | zero => intro p _ h; omega
  | succ n ih =>
    intro p h1 h2
    unfold strings_indexFunc_named_c1_l1 strings_indexFunc_named_c1_b1
    by_cases hp : p < s.length
    · have hg := g_size s p hp
      rw [if_pos (decide_eq_true hp), c1_val, runeAt_g, widthAt_g]
      simp only [Option.bind_some]
      split
      · exact ⟨(p : Int), rfl, fun q => by omega⟩
      · rename_i hc
        obtain ⟨v, hv, hv2⟩ := ih (p + (g s p).2) hg.2.1 (by omega)
        refine ⟨v, hv, fun q j hj1 hj2 => ?_⟩
        have hr : (97 ≤ (g s p).1 ∧ (g s p).1 ≤ 122) ∨ (48 ≤ (g s p).1 ∧ (g s p).1 ≤ 57) ∨ (g s p).1 = 45 := by
          simp at hc
          omega
        obtain ⟨e1, e2⟩ := g_small1 hp (by omega)
        by_cases hj : j = p
        · subst hj
          omega
        · exact hv2 q j (by omega) hj2
    · rw [if_neg (by simpa using hp)]
      exact ⟨-1, rfl, fun _ j hj1 hj2 => by omega⟩
theorem named_tot (s : List UInt8) : ∃ b, family_named 80000 s = some b ∧ (b = true → s.length ≤ 32 ∧ ∀ j, j < s.length → gb s j ≠ 10) := by
  unfold family_named
  by_cases h : ((!(s == ([] : List UInt8))) && decide ((s.length : Int) ≤ 32)) = true
  · rw [h]
    have hs : s.length ≤ 32 := by
      simp only [Bool.and_eq_true, decide_eq_true_eq] at h
      omega
    unfold family_named_j1 strings_ContainsFunc_named_c1 strings_IndexFunc_named_c1 strings_indexFunc_named_c1
    rw [if_pos rfl]
    obtain ⟨v, hv, hv2⟩ := named_l1 hs 80000 0 (Nat.zero_le _) (by omega)
    rw [hv]
    refine ⟨_, rfl, fun q => ⟨hs, fun j hj => hv2 ?_ j (Nat.zero_le _) hj⟩⟩
    simp at q
    omega
  · rw [Bool.eq_false_iff.2 h]
    exact ⟨false, rfl, fun q => by cases q⟩
end Go.Ev

namespace Go.Ev
set_option linter.unusedVariables false

/-- From one up to the first of all. -/
def ch (p : Nat → Nat) (x : Nat) : List Nat := x :: (if h : 0 < x ∧ p x < x then ch p (p x) else [])
termination_by x
decreasing_by exact h.2
variable {p : Nat → Nat}
theorem ch_zero : ch p 0 = [0] := by rw [ch, dif_neg (by omega)]
theorem ch_step {x : Nat} (h : 0 < x) (hp : p x < x) : ch p x = x :: ch p (p x) := by rw [ch, dif_pos ⟨h, hp⟩]
theorem ch_self (x : Nat) : x ∈ ch p x := by rw [ch]; exact List.mem_cons_self
theorem ch_le : ∀ (x : Nat) {w : Nat}, w ∈ ch p x → w ≤ x := by
  intro x
  induction x using Nat.strongRecOn with
  | _ x ih =>
    intro w h
    rw [ch] at h
    rcases List.mem_cons.1 h with rfl | h
    · exact Nat.le_refl _
    · split at h
      · rename_i hc
        exact Nat.le_trans (ih _ hc.2 h) (Nat.le_of_lt hc.2)
      · cases h
/-- One that stands on a chain, with all ahead of it. -/
theorem ch_zero_mem (hp : ∀ i, 0 < i → p i < i) : ∀ x, 0 ∈ ch p x := by
  intro x
  induction x using Nat.strongRecOn with
  | _ x ih =>
    rcases Nat.eq_zero_or_pos x with rfl | h
    · exact ch_self 0
    · rw [ch_step h (hp x h)]; exact List.mem_cons_of_mem _ (ih _ (hp x h))
theorem ch_mem_step {x w : Nat} (h : 0 < x) (hp : p x < x) : w ∈ ch p x ↔ w = x ∨ w ∈ ch p (p x) := by rw [ch_step h hp, List.mem_cons]
theorem ch_length : ∀ x, (ch p x).length ≤ x + 1 := by
  intro x
  induction x using Nat.strongRecOn with
  | _ x ih =>
    rw [ch]
    split
    · rename_i hc
      have := ih _ hc.2
      simp only [List.length_cons]
      omega
    · simp

/-- The nearest one above two. -/
def near (p : Nat → Nat) : Nat → Nat → Nat → Nat
  | 0, x, _ => x
  | n + 1, x, y => if x = y then x else if y < x then near p n (p x) y else near p n x (p y)
theorem near_spec (hp : ∀ i, 0 < i → p i < i) : ∀ n x y, x + y < n → near p n x y ∈ ch p x ∧ near p n x y ∈ ch p y ∧ ∀ w, w ∈ ch p x → w ∈ ch p y → w ≤ near p n x y := by
  intro n
  induction n with
  | zero => intro x y h; omega
  | succ n ih =>
    intro x y h
    unfold near
    by_cases hxy : x = y
    · subst hxy
      rw [if_pos rfl]
      exact ⟨ch_self _, ch_self _, fun w hw _ => ch_le _ hw⟩
    · rw [if_neg hxy]
      by_cases hlt : y < x
      · rw [if_pos hlt]
        have h0 : 0 < x := by omega
        have hpx := hp x h0
        obtain ⟨a1, a2, a3⟩ := ih (p x) y (by omega)
        refine ⟨(ch_mem_step h0 hpx).2 (.inr a1), a2, fun w hw1 hw2 => ?_⟩
        rcases (ch_mem_step h0 hpx).1 hw1 with rfl | hw1
        · have := ch_le _ hw2; omega
        · exact a3 w hw1 hw2
      · rw [if_neg hlt]
        have h0 : 0 < y := by omega
        have hpy := hp y h0
        obtain ⟨a1, a2, a3⟩ := ih x (p y) (by omega)
        refine ⟨a1, (ch_mem_step h0 hpy).2 (.inr a2), fun w hw1 hw2 => ?_⟩
        rcases (ch_mem_step h0 hpy).1 hw2 with rfl | hw2
        · have := ch_le _ hw1; omega
        · exact a3 w hw1 hw2
theorem near_comm (hp : ∀ i, 0 < i → p i < i) {n m x y : Nat} (h1 : x + y < n) (h2 : x + y < m) : near p n x y = near p m y x := by
  obtain ⟨a1, a2, a3⟩ := near_spec hp n x y h1
  obtain ⟨b1, b2, b3⟩ := near_spec hp m y x (by omega)
  exact Nat.le_antisymm (b3 _ a2 a1) (a3 _ b2 b1)

/-- Sums. -/
def sumr (f : Nat → Nat) : Nat → Nat
  | 0 => 0
  | n + 1 => sumr f n + f n
theorem sumr_add (f g : Nat → Nat) : ∀ n, sumr (fun i => f i + g i) n = sumr f n + sumr g n
  | 0 => rfl
  | n + 1 => by simp only [sumr, sumr_add f g n]; omega
theorem sumr_zero : ∀ n, sumr (fun _ => 0) n = 0
  | 0 => rfl
  | n + 1 => by simp only [sumr, sumr_zero n]
theorem sumr_congr {f g : Nat → Nat} : ∀ n, (∀ i, i < n → f i = g i) → sumr f n = sumr g n
  | 0, _ => rfl
  | n + 1, h => by simp only [sumr, sumr_congr n (fun i hi => h i (by omega)), h n (by omega)]
theorem sumr_comm (f : Nat → Nat → Nat) (m : Nat) : ∀ n, sumr (fun i => sumr (fun j => f i j) m) n = sumr (fun j => sumr (fun i => f i j) n) m
  | 0 => by simp only [sumr]; exact (sumr_zero m).symm
  | n + 1 => by
    simp only [sumr]
    rw [sumr_comm f m n, ← sumr_add]
theorem sumr_one {t n : Nat} (h : t < n) : sumr (fun j => if j = t then 1 else 0) n = 1 := by
  have key : ∀ n, sumr (fun j => if j = t then 1 else 0) n = if t < n then 1 else 0 := by
    intro n
    induction n with
    | zero => rfl
    | succ n ih =>
      simp only [sumr, ih]
      by_cases h1 : t < n
      · rw [if_pos h1, if_neg (by omega), if_pos (by omega)]
      · rw [if_neg h1]
        by_cases h2 : n = t
        · rw [if_pos h2, if_pos (by omega)]
        · rw [if_neg h2, if_neg (by omega)]
  rw [key, if_pos h]
theorem sumr_mono {f g : Nat → Nat} (h : ∀ i, f i ≤ g i) : ∀ n, sumr f n ≤ sumr g n
  | 0 => Nat.le_refl _
  | n + 1 => Nat.add_le_add (sumr_mono h n) (h n)
theorem sumr_le (f : Nat → Nat) : ∀ {i n : Nat}, i ≤ n → sumr f i ≤ sumr f n := by
  intro i n h
  induction h with
  | refl => exact Nat.le_refl _
  | step _ ih => exact Nat.le_trans ih (Nat.le_add_right _ _)

/-- How many of n have one on their chain. -/
def cnt (p : Nat → Nat) (n t : Nat) : Nat := sumr (fun j => if t ∈ ch p j then 1 else 0) n
/-- What the children of one count. -/
def kid (p : Nat → Nat) (n t i : Nat) : Nat := if 0 < i ∧ p i = t then cnt p n i else 0
theorem cnt_all (hp : ∀ i, 0 < i → p i < i) (n : Nat) : cnt p n 0 = n := by
  unfold cnt
  rw [sumr_congr (g := fun _ => 1) n fun i _ => if_pos (ch_zero_mem hp i)]
  induction n with
  | zero => rfl
  | succ n ih => simp only [sumr, ih]
theorem one_chain (hp : ∀ i, 0 < i → p i < i) (n t : Nat) : ∀ j, j < n → (if t ∈ ch p j then 1 else 0) = (if j = t then 1 else 0) + sumr (fun i => if 0 < i ∧ p i = t then (if i ∈ ch p j then 1 else 0) else 0) n := by
  intro j
  induction j using Nat.strongRecOn with
  | _ j ih =>
    intro hj
    by_cases hjt : j = t
    · subst hjt
      rw [if_pos (ch_self _), if_pos rfl, sumr_congr (g := fun _ => 0) n, sumr_zero]
      intro i _
      by_cases hc : 0 < i ∧ p i = j
      · rw [if_pos hc, if_neg]
        intro hm
        have h1 := ch_le _ hm
        have h2 := hp i hc.1
        omega
      · rw [if_neg hc]
    · rw [if_neg hjt]
      rcases Nat.eq_zero_or_pos j with rfl | h0
      · rw [ch_zero]
        rw [if_neg (by simp; omega), sumr_congr (g := fun _ => 0) n, sumr_zero]
        intro i _
        by_cases hc : 0 < i ∧ p i = t
        · rw [if_pos hc, if_neg (by simp; omega)]
        · rw [if_neg hc]
      · have hpj := hp j h0
        have := ih (p j) hpj (by omega)
        have e1 : (if t ∈ ch p j then 1 else 0) = (if t ∈ ch p (p j) then 1 else 0) := by
          by_cases hm : t ∈ ch p (p j)
          · rw [if_pos hm, if_pos ((ch_mem_step h0 hpj).2 (.inr hm))]
          · rw [if_neg hm, if_neg]
            intro q
            rcases (ch_mem_step h0 hpj).1 q with rfl | q
            · exact hjt rfl
            · exact hm q
        rw [e1, this, Nat.zero_add]
        have e2 : sumr (fun i => if 0 < i ∧ p i = t then (if i ∈ ch p j then 1 else 0) else 0) n =
            sumr (fun i => (if i = j then (if p j = t then 1 else 0) else 0) + (if 0 < i ∧ p i = t then (if i ∈ ch p (p j) then 1 else 0) else 0)) n := by
          refine sumr_congr n fun i _ => ?_
          by_cases hij : i = j
          · subst hij
            rw [if_pos rfl]
            have hn : ¬ i ∈ ch p (p i) := fun q => by have := ch_le _ q; omega
            by_cases hc : p i = t
            · rw [if_pos ⟨h0, hc⟩, if_pos (ch_self _), if_pos hc, if_pos ⟨h0, hc⟩, if_neg hn]
            · rw [if_neg (fun q => hc q.2), if_neg hc, if_neg (fun q => hc q.2)]
          · rw [if_neg hij, Nat.zero_add]
            by_cases hc : 0 < i ∧ p i = t
            · rw [if_pos hc, if_pos hc]
              by_cases hm : i ∈ ch p (p j)
              · rw [if_pos hm, if_pos ((ch_mem_step h0 hpj).2 (.inr hm))]
              · rw [if_neg hm, if_neg]
                intro q
                rcases (ch_mem_step h0 hpj).1 q with q | q
                · exact hij q
                · exact hm q
            · rw [if_neg hc, if_neg hc]
        rw [e2, sumr_add]
        congr 1
        by_cases hc : p j = t
        · simp only [if_pos hc]
          exact (sumr_one hj).symm
        · simp only [if_neg hc, ite_self]
          exact (sumr_zero n).symm
theorem cnt_step (hp : ∀ i, 0 < i → p i < i) {n t : Nat} (ht : t < n) : cnt p n t = 1 + sumr (kid p n t) n := by
  conv => lhs; unfold cnt
  rw [sumr_congr n (one_chain hp n t), sumr_add, sumr_one ht, ← sumr_comm]
  congr 1
  refine sumr_congr n fun i _ => ?_
  unfold kid cnt
  by_cases hc : 0 < i ∧ p i = t
  · simp only [if_pos hc]
  · simp only [if_neg hc]
    exact sumr_zero n
end Go.Ev

namespace Go.Ev
open Go
set_option linter.unusedVariables false

abbrev Br : Type := List UInt8 × Int × List Rul × Unit
abbrev Fam : Type := Alph × List Br × Unit
/-- What is known of the branches of a family that may be. -/
structure Shp (l : List Br) : Prop where
  pos : 1 ≤ l.length
  le : l.length ≤ 32
  root : ∀ h : 0 < l.length, (l[0]'h).2.1 = -1
  parent : ∀ i (h : i < l.length), 0 < i → 0 ≤ (l[i]'h).2.1 ∧ (l[i]'h).2.1 < (i : Int)
  name : ∀ i (h : i < l.length), (l[i]'h).1.length ≤ 32 ∧ ∀ j, j < (l[i]'h).1.length → gb (l[i]'h).1 j ≠ 10
theorem shaped_l1 (l : List Br) (hl : l.length ≤ 32) : ∀ n i m, i ≤ l.length → l.length - i < n → ∃ b, family_shaped_l1 80000 l n (i : Int) m = some b ∧
    (b = true → ∀ j (h : j < l.length), i ≤ j → ((l[j]'h).1.length ≤ 32 ∧ ∀ q, q < (l[j]'h).1.length → gb (l[j]'h).1 q ≠ 10) ∧ (0 < j → 0 ≤ (l[j]'h).2.1 ∧ (l[j]'h).2.1 < (j : Int))) := by
  intro n
  induction n with
  | zero => intro i m _ h; omega
  | succ n ih =>
    intro i m h1 h2
    unfold family_shaped_l1 family_shaped_b1
    by_cases hlt : i < l.length
    · rw [if_pos (by simp only [decide_eq_true_eq]; omega), at_lt hlt]
      simp only [Option.bind_some]
      have j5f : ∀ t, t = true → ∃ b, family_shaped_j5 (family_shaped_l1 80000 l n) (i : Int) m (l[i]'hlt) t = some b ∧ b = false := by
        intro t ht
        subst ht
        exact ⟨false, rfl, rfl⟩
      have rej : ∀ t, t = true → ∃ b, family_shaped_j5 (family_shaped_l1 80000 l n) (i : Int) m (l[i]'hlt) t = some b ∧
          (b = true → ∀ j (h : j < l.length), i ≤ j → ((l[j]'h).1.length ≤ 32 ∧ ∀ q, q < (l[j]'h).1.length → gb (l[j]'h).1 q ≠ 10) ∧ (0 < j → 0 ≤ (l[j]'h).2.1 ∧ (l[j]'h).2.1 < (j : Int))) := by
        intro t ht
        obtain ⟨b, e1, e2⟩ := j5f t ht
        exact ⟨b, e1, fun q => by rw [e2] at q; cases q⟩
      split
      · exact rej true rfl
      · obtain ⟨v, hv, hv2⟩ := named_tot (l[i]'hlt).1
        rw [hv]
        simp only [Option.bind_some]
        unfold family_shaped_j4
        cases v with
        | false => exact rej true rfl
        | true =>
          rw [if_neg (by simp)]
          have good : ((0 < i → 0 ≤ (l[i]'hlt).2.1 ∧ (l[i]'hlt).2.1 < (i : Int))) → ∀ t, t = false → ∃ b, family_shaped_j5 (family_shaped_l1 80000 l n) (i : Int) m (l[i]'hlt) t = some b ∧
              (b = true → ∀ j (h : j < l.length), i ≤ j → ((l[j]'h).1.length ≤ 32 ∧ ∀ q, q < (l[j]'h).1.length → gb (l[j]'h).1 q ≠ 10) ∧ (0 < j → 0 ≤ (l[j]'h).2.1 ∧ (l[j]'h).2.1 < (j : Int))) := by
            intro hpar t ht
            subst ht
            unfold family_shaped_j5
            rw [if_neg (by simp), wi64_nat (by omega)]
            obtain ⟨b, hb, hb2⟩ := ih (i + 1) (mset (eqEl .str) m (l[i]'hlt).1 ()) (by omega) (by omega)
            refine ⟨b, hb, fun q j hj hij => ?_⟩
            by_cases hji : j = i
            · subst hji
              exact ⟨hv2 rfl, hpar⟩
            · exact hb2 q j hj (by omega)
          by_cases hi : 0 < i
          · rw [if_pos (by simp only [decide_eq_true_eq]; omega)]
            unfold family_shaped_j7 family_shaped_j6
            by_cases hc : (decide ((l[i]'hlt).2.1 < 0) || decide ((i : Int) ≤ (l[i]'hlt).2.1)) = true
            · exact rej _ hc
            · refine good (fun _ => ?_) _ (Bool.eq_false_iff.2 hc)
              simp only [Bool.or_eq_true, decide_eq_true_eq] at hc
              omega
          · rw [if_neg (by simp only [decide_eq_true_eq]; omega)]
            unfold family_shaped_j6
            exact good (fun h => absurd h hi) false rfl
    · rw [if_neg (by simp only [decide_eq_true_eq]; omega)]
      exact ⟨true, rfl, fun _ j h hij => by omega⟩
theorem shaped_tot (l : List Br) : ∃ b, family_shaped 80000 l = some b ∧ (b = true → Shp l) := by
  unfold family_shaped
  have rej : ∃ b, family_shaped_j1 80000 l true = some b ∧ (b = true → Shp l) := ⟨false, rfl, fun q => by cases q⟩
  by_cases hc : (((l.length : Int) == 0) || decide ((32 : Int) < (l.length : Int))) = true
  · rw [hc]; exact rej
  · rw [Bool.eq_false_iff.2 hc]
    simp only [Bool.or_eq_true, beq_iff_eq, decide_eq_true_eq] at hc
    have h1 : 1 ≤ l.length := by omega
    have h2 : l.length ≤ 32 := by omega
    unfold family_shaped_j1
    rw [if_neg (by simp), show (0 : Int) = ((0 : Nat) : Int) from rfl, at_lt (by omega)]
    simp only [Option.bind_some]
    unfold family_shaped_j2
    by_cases hr : ((l[0]'(by omega)).2.1 != -1) = true
    · rw [hr]; exact ⟨false, rfl, fun q => by cases q⟩
    · rw [Bool.eq_false_iff.2 hr, if_neg (by simp), show (0 : Int) = ((0 : Nat) : Int) from rfl, at_lt (by omega)]
      simp only [Option.bind_some]
      unfold family_shaped_j3
      split
      · exact ⟨false, rfl, fun q => by cases q⟩
      · obtain ⟨b, hb, hb2⟩ := shaped_l1 l h2 80000 0 [] (Nat.zero_le _) (by omega)
        refine ⟨b, hb, fun q => ⟨h1, h2, fun _ => by simpa using hr, fun i h hi => (hb2 q i h (Nat.zero_le _)).2 hi, fun i h => (hb2 q i h (Nat.zero_le _)).1⟩⟩
theorem famCheck_tot (f : Fam) : ∃ e, family_Check 80000 f = some e ∧ (e = 0 → Shp f.2.1) := by
  unfold family_Check
  obtain ⟨e, he, _⟩ := featCheck_tot (f.1.1, f.1.2.1, ())
  rw [he]
  simp only [Option.bind_some]
  by_cases h : (e != 0) = true
  · rw [if_pos h]
    exact ⟨e, rfl, fun q => by rw [q] at h; cases h⟩
  · rw [if_neg h]
    obtain ⟨b, hb, hb2⟩ := shaped_tot f.2.1
    rw [hb]
    simp only [Option.bind_some]
    cases b with
    | false => exact ⟨270, rfl, fun q => by cases q⟩
    | true =>
      rw [if_neg (by simp)]
      have hs := hb2 rfl
      have hle := hs.le
      obtain ⟨e2, he2⟩ : Tot (family_Check_l1 80000 f 80000 0) := by
        refine tot_loop0 (L := family_Check_l1 80000 f) (len := f.2.1.length) (by omega) ?_ 80000 0 (Nat.zero_le _) (by omega)
        intro n i hi go
        unfold family_Check_l1 family_Check_b1
        exact tot_dec (fun hlt => tot_bind (tot_at (by omega)) fun x _ => tot_bind (lawCheck_tot _ _) fun _ _ => tot_ite (fun _ => tot_some _) fun _ => go (by omega)) fun _ => tot_some _
      exact ⟨e2, he2, fun _ => hs⟩
def inR (f : Fam) (x : Int) : Bool := decide (0 ≤ x) && decide (x < (f.2.1.length : Int))
theorem asked_l1 (f : Fam) (ts : List Int) (ht : ts.length ≤ 10) : ∀ n i, i ≤ ts.length → ts.length - i < n → family_asked_l1 ts f n (i : Int) = some (if (ts.drop i).all (inR f) then 0 else 8) := by
  intro n
  induction n with
  | zero => intro i _ h; omega
  | succ n ih =>
    intro i h1 h2
    unfold family_asked_l1 family_asked_b1
    by_cases hlt : i < ts.length
    · rw [if_pos (by simp only [decide_eq_true_eq]; omega), at_lt hlt, List.drop_eq_getElem_cons hlt, List.all_cons]
      simp only [Option.bind_some]
      unfold family_asked_j1
      by_cases hc : (decide ((ts[i]'hlt) < 0) || decide ((f.2.1.length : Int) ≤ (ts[i]'hlt))) = true
      · rw [if_pos hc]
        have : inR f (ts[i]'hlt) = false := by
          unfold inR
          simp only [Bool.or_eq_true, decide_eq_true_eq] at hc
          rw [Bool.eq_false_iff]
          intro q
          simp only [Bool.and_eq_true, decide_eq_true_eq] at q
          omega
        rw [this]
        rfl
      · rw [if_neg hc, wi64_nat (by omega), ih (i + 1) (by omega) (by omega)]
        have : inR f (ts[i]'hlt) = true := by
          unfold inR
          simp only [Bool.or_eq_true, decide_eq_true_eq] at hc
          simp only [Bool.and_eq_true, decide_eq_true_eq]
          omega
        rw [this, Bool.true_and]
    · rw [if_neg (by simp only [decide_eq_true_eq]; omega), List.drop_eq_nil_of_le (by omega)]
      rfl
theorem asked_val {f : Fam} {e : Int} (he : family_Check 80000 f = some e) (ts : List Int) (ht : ts.length ≤ 10) : family_asked 80000 f ts = some (if e ≠ 0 then e else if ts.all (inR f) then 0 else 8) := by
  unfold family_asked
  have he' : family_Check 80000 ((f.1.1, f.1.2.1, ()), f.2.1, ()) = some e := he
  rw [he']
  simp only [Option.bind_some]
  by_cases h : e = 0
  · rw [if_neg (by simp [h]), if_neg (by simp [h])]
    have := asked_l1 f ts ht 80000 0 (Nat.zero_le _) (by omega)
    rw [List.drop_zero] at this
    exact this
  · rw [if_pos (by simpa using h), if_pos h]

/-- The parent's number. -/
def par (l : List Br) (i : Nat) : Nat := ((l[i]?).elim 0 fun b => b.2.1.toNat)
theorem par_lt {l : List Br} (h : Shp l) : ∀ i, 0 < i → par l i < i := by
  intro i hi
  unfold par
  by_cases hl : i < l.length
  · have := h.parent i hl hi
    rw [List.getElem?_eq_getElem hl]
    simp only [Option.elim_some]
    omega
  · rw [List.getElem?_eq_none (by omega)]
    exact hi
theorem par_val {l : List Br} (h : Shp l) {i : Nat} (hl : i < l.length) (hi : 0 < i) : (l[i]'hl).2.1 = (par l i : Int) := by
  have := h.parent i hl hi
  unfold par
  rw [List.getElem?_eq_getElem hl]
  simp only [Option.elim_some]
  omega
def ups (p : Nat → Nat) (x : Nat) : List Nat := (ch p x).reverse
def ints (l : List Nat) : List Int := l.map Int.ofNat
theorem ints_len (l : List Nat) : (ints l).length = l.length := List.length_map _
theorem ints_snoc (l : List Nat) (t : Nat) : ints l ++ [(t : Int)] = ints (l ++ [t]) := by simp [ints]
theorem path_l1 {f : Fam} (h : Shp f.2.1) : ∀ n t (out : List Nat), t < f.2.1.length → t + 1 < n → out.length + t ≤ 1000 → family_path_l1 f n (t : Int) (ints out) = some (ints ((out ++ ch (par f.2.1) t).reverse)) := by
  intro n
  induction n with
  | zero => intro t out _ h; omega
  | succ n ih =>
    intro t out h1 h2 h3
    unfold family_path_l1 family_path_b1
    rw [if_pos (by simp), chk_of (by unfold lim; rw [ints_len]; simp; omega), at_lt h1]
    simp only [Option.bind_some]
    rw [ints_snoc]
    rcases Nat.eq_zero_or_pos t with rfl | ht
    · rw [h.root h1, ch_zero]
      obtain ⟨n, rfl⟩ : ∃ m, n = m + 1 := ⟨n - 1, by omega⟩
      unfold family_path_l1 family_path_b1
      rw [if_neg (by simp)]
      unfold ints
      rw [List.map_reverse]
    · have hp := par_lt h t ht
      rw [par_val h h1 ht, ih (par f.2.1 t) (out ++ [t]) (by omega) (by omega) (by simp; omega), ch_step ht hp]
      simp
theorem path_ok {f : Fam} (h : Shp f.2.1) {t : Nat} (ht : t < f.2.1.length) : family_path 80000 f (t : Int) = some (ints (ups (par f.2.1) t)) := by
  have hl := h.le
  unfold family_path
  have := path_l1 h 80000 t [] ht (by omega) (by simp; omega)
  rw [List.nil_append] at this
  exact this
theorem near_l1 {f : Fam} (h : Shp f.2.1) : ∀ n x y, x < f.2.1.length → y < f.2.1.length → x + y < n → family_Near_l1 f n (x : Int) (y : Int) = some ((near (par f.2.1) n x y : Int), 0) := by
  intro n
  induction n with
  | zero => intro x y _ _ h; omega
  | succ n ih =>
    intro x y h1 h2 h3
    unfold family_Near_l1 family_Near_b1 near
    by_cases hxy : x = y
    · subst hxy
      rw [if_neg (by simp), if_pos rfl]
    · rw [if_pos (by simp only [bne_iff_ne, ne_eq]; omega), if_neg hxy]
      by_cases hlt : y < x
      · have hp := par_lt h x (by omega)
        rw [if_pos (by simp only [decide_eq_true_eq]; omega), if_pos hlt, at_lt h1]
        simp only [Option.bind_some]
        rw [par_val h h1 (by omega)]
        exact ih _ _ (by omega) h2 (by omega)
      · have hp := par_lt h y (by omega)
        rw [if_neg (by simp only [decide_eq_true_eq]; omega), if_neg hlt, at_lt h2]
        simp only [Option.bind_some]
        rw [par_val h h2 (by omega)]
        exact ih _ _ h1 (by omega) (by omega)

theorem idx_spec (l : List Br) (hl : l.length ≤ 32) (t : Int) : ∀ n i, i ≤ l.length → l.length - i < n → ∃ v, slices_IndexFunc___api_Branch_api_Branch__Leaves_c1_l1 80000 l (t, ()) n (i : Int) = some v ∧
    (v < 0 → ∀ j (h : j < l.length), i ≤ j → (l[j]'h).2.1 ≠ t) ∧ (0 ≤ v → ∃ j, ∃ h : j < l.length, (l[j]'h).2.1 = t) := by
  intro n
  induction n with
  | zero => intro i _ h; omega
  | succ n ih =>
    intro i h1 h2
    unfold slices_IndexFunc___api_Branch_api_Branch__Leaves_c1_l1 slices_IndexFunc___api_Branch_api_Branch__Leaves_c1_b1 family_Leaves_c1
    by_cases hlt : i < l.length
    · rw [if_pos (by simp only [decide_eq_true_eq]; omega), at_lt hlt]
      simp only [Option.bind_some]
      split
      · rename_i hc
        exact ⟨(i : Int), rfl, fun q => by omega, fun _ => ⟨i, hlt, by simpa using hc⟩⟩
      · rename_i hc
        rw [wi64_nat (by omega)]
        obtain ⟨v, hv, q1, q2⟩ := ih (i + 1) (by omega) (by omega)
        refine ⟨v, hv, fun q j hj hij => ?_, q2⟩
        by_cases hji : j = i
        · subst hji; simpa using hc
        · exact q1 q j hj (by omega)
    · rw [if_neg (by simp only [decide_eq_true_eq]; omega)]
      exact ⟨-1, rfl, fun _ j h hij => by omega, fun q => by omega⟩
theorem contains_spec (l : List Br) (hl : l.length ≤ 32) (t : Int) : ∃ b, slices_ContainsFunc___api_Branch_api_Branch__Leaves_c1 80000 l (t, ()) = some b ∧ (b = false → ∀ j (h : j < l.length), (l[j]'h).2.1 ≠ t) ∧ (b = true → ∃ j, ∃ h : j < l.length, (l[j]'h).2.1 = t) := by
  obtain ⟨v, hv, q1, q2⟩ := idx_spec l hl t 80000 0 (Nat.zero_le _) (by omega)
  unfold slices_ContainsFunc___api_Branch_api_Branch__Leaves_c1 slices_IndexFunc___api_Branch_api_Branch__Leaves_c1
  have hv' : slices_IndexFunc___api_Branch_api_Branch__Leaves_c1_l1 80000 l (t, ()) 80000 0 = some v := hv
  rw [hv']
  refine ⟨_, rfl, fun q j h => q1 ?_ j h (Nat.zero_le _), fun q => q2 (by simpa using q)⟩
  have : ¬ 0 ≤ v := by simpa using q
  omega
theorem leaves_l1 {f : Fam} (h : Shp f.2.1) : ∀ n i (out : List Int), i ≤ f.2.1.length → f.2.1.length - i < n → out.length ≤ i → (∀ y ∈ out, ∀ j (hj : j < f.2.1.length), (f.2.1[j]'hj).2.1 ≠ y) →
    ∃ L, family_Leaves_l1 80000 f n (i : Int) out = some (L, 0) ∧ L.length ≤ 32 ∧ (∀ y ∈ L, ∀ j (hj : j < f.2.1.length), (f.2.1[j]'hj).2.1 ≠ y) ∧ (out ≠ [] ∨ i < f.2.1.length → L ≠ []) := by
  have hle := h.le
  intro n
  induction n with
  | zero => intro i out _ h; omega
  | succ n ih =>
    intro i out h1 h2 h3 h4
    unfold family_Leaves_l1 family_Leaves_b1
    by_cases hlt : i < f.2.1.length
    · rw [if_pos (by simp only [decide_eq_true_eq]; omega)]
      obtain ⟨b, hb, q1, q2⟩ := contains_spec f.2.1 hle (i : Int)
      rw [hb]
      simp only [Option.bind_some]
      unfold family_Leaves_j1
      cases b with
      | false =>
        rw [if_pos (show (!false) = true from rfl), chk_of (by unfold lim; simp; omega)]
        simp only [Option.bind_some]
        rw [wi64_nat (by omega)]
        obtain ⟨L, e1, e2, e3, e4⟩ := ih (i + 1) (out ++ [(i : Int)]) (by omega) (by omega) (by simp; omega) (fun y hy j hj => by
          rcases List.mem_append.1 hy with hy | hy
          · exact h4 y hy j hj
          · rw [List.mem_singleton.1 hy]; exact q1 rfl j hj)
        exact ⟨L, e1, e2, e3, fun _ => e4 (.inl (by simp))⟩
      | true =>
        rw [if_neg (by simp), wi64_nat (by omega)]
        obtain ⟨L, e1, e2, e3, e4⟩ := ih (i + 1) out (by omega) (by omega) (by omega) h4
        refine ⟨L, e1, e2, e3, fun hq => e4 ?_⟩
        obtain ⟨j, hj, hjp⟩ := q2 rfl
        refine .inr ?_
        rcases Nat.eq_zero_or_pos j with rfl | hj0
        · rw [h.root hj] at hjp; omega
        · have := (h.parent j hj hj0).2
          omega
    · rw [if_neg (by simp only [decide_eq_true_eq]; omega)]
      exact ⟨out, rfl, by omega, h4, fun hq => hq.resolve_right hlt⟩
end Go.Ev

namespace Go.Ev
open Go
set_option linter.unusedVariables false

theorem rep_len (d : Nat) : (Lib.repeatL [32, 32] d).length = 2 * d := by rw [Lib.repeatL_length]; simp; omega
theorem rep_count : ∀ d, (Lib.repeatL [32, 32] d).count 10 = 0
  | 0 => rfl
  | d + 1 => by
    show (([32, 32] : List UInt8) ++ Lib.repeatL [32, 32] d).count 10 = 0
    rw [List.count_append, rep_count d]
    rfl
theorem name_count {s : List UInt8} (h : ∀ j, j < s.length → gb s j ≠ 10) : s.count 10 = 0 := by
  rw [List.count_eq_zero]
  intro hm
  obtain ⟨j, hj, e⟩ := List.getElem_of_mem hm
  refine h j hj ?_
  unfold gb
  rw [List.getD_eq_getElem?_getD, List.getElem?_eq_getElem hj, e]
  rfl
theorem draw_loop {l : List Br} (h : Shp l) (c1 : List (List UInt8)) (c2 : List (Int × Int × Int × Unit)) {k t deep : Nat} (ht : t < l.length) (hd : deep ≤ t)
    (ih : ∀ i deep (acc : List UInt8), t < i → i < l.length → deep ≤ i → acc.length + 100 * cnt (par l) l.length i ≤ 1000000 →
      ∃ txt, family_Text_c1_i1 k (i : Int) (deep : Int) c1 c2 l (bytesEl acc) = some (bytesEl (acc ++ txt)) ∧ txt.count 10 = cnt (par l) l.length i ∧ txt.length ≤ 100 * cnt (par l) l.length i) :
    ∀ n i (acc : List UInt8), i ≤ l.length → l.length - i < n → acc.length + 100 * sumr (kid (par l) l.length t) l.length ≤ 1000000 + 100 * sumr (kid (par l) l.length t) i →
      ∃ txt, family_Text_c1_i1_l1 l (t : Int) (family_Text_c1_i1 k) (deep : Int) c1 c2 n (i : Int) (bytesEl acc) = some (bytesEl (acc ++ txt)) ∧
        txt.count 10 + sumr (kid (par l) l.length t) i = sumr (kid (par l) l.length t) l.length ∧ txt.length + 100 * sumr (kid (par l) l.length t) i ≤ 100 * sumr (kid (par l) l.length t) l.length := by
  have hle := h.le
  intro n
  induction n with
  | zero => intro i acc _ h; omega
  | succ n ihn =>
    intro i acc h1 h2 h3
    unfold family_Text_c1_i1_l1 family_Text_c1_i1_b1
    by_cases hlt : i < l.length
    · rw [if_pos (by simp only [decide_eq_true_eq]; omega), at_lt hlt]
      simp only [Option.bind_some]
      have hs : sumr (kid (par l) l.length t) (i + 1) = sumr (kid (par l) l.length t) i + kid (par l) l.length t i := rfl
      have hmono := sumr_le (kid (par l) l.length t) (show i + 1 ≤ l.length by omega)
      have hc : ((l[i]'hlt).2.1 == (t : Int)) = decide (0 < i ∧ par l i = t) := by
        rcases Nat.eq_zero_or_pos i with rfl | hi
        · rw [h.root hlt, Bool.eq_iff_iff]
          simp
        · rw [par_val h hlt hi, Bool.eq_iff_iff]
          simp [hi]
          omega
      rw [hc]
      unfold family_Text_c1_i1_j1
      by_cases hk : 0 < i ∧ par l i = t
      · have hkv : kid (par l) l.length t i = cnt (par l) l.length i := by unfold kid; rw [if_pos hk]
        have hpi := par_lt h i hk.1
        rw [if_pos (by simpa using hk), wi64_nat (by omega), wi64_nat (by omega)]
        obtain ⟨t1, e1, e2, e3⟩ := ih i (deep + 1) acc (by omega) hlt (by omega) (by omega)
        rw [e1]
        simp only [Option.bind_some]
        obtain ⟨t2, f1, f2, f3⟩ := ihn (i + 1) (acc ++ t1) (by omega) (by omega) (by rw [List.length_append]; omega)
        refine ⟨t1 ++ t2, by rw [f1, List.append_assoc], by rw [List.count_append]; omega, by rw [List.length_append]; omega⟩
      · have hkv : kid (par l) l.length t i = 0 := by unfold kid; rw [if_neg hk]
        rw [if_neg (by simpa using hk), wi64_nat (by omega)]
        obtain ⟨t2, f1, f2, f3⟩ := ihn (i + 1) acc (by omega) (by omega) (by omega)
        exact ⟨t2, f1, by omega, by omega⟩
    · have : i = l.length := by omega
      subst this
      rw [if_neg (by simp)]
      exact ⟨[], by simp, by simp, by simp⟩
theorem draw_ok {l : List Br} (h : Shp l) (c1 : List (List UInt8)) (c2 : List (Int × Int × Int × Unit)) : ∀ k t deep (acc : List UInt8), t < l.length → 100 ≤ k + t → deep ≤ t → acc.length + 100 * cnt (par l) l.length t ≤ 1000000 →
    ∃ txt, family_Text_c1_i1 k (t : Int) (deep : Int) c1 c2 l (bytesEl acc) = some (bytesEl (acc ++ txt)) ∧ txt.count 10 = cnt (par l) l.length t ∧ txt.length ≤ 100 * cnt (par l) l.length t := by
  have hle := h.le
  intro k
  induction k with
  | zero => intro t deep acc h1 h2; omega
  | succ k ih =>
    intro t deep acc h1 h2 h3 h4
    have hcs := cnt_step (par_lt h) h1
    obtain ⟨n1, n2⟩ := h.name t h1
    unfold family_Text_c1_i1 strings_Repeat
    rw [if_pos ⟨by omega, by omega, by simp; omega⟩, Int.toNat_natCast]
    simp only [Option.bind_some]
    rw [at_lt h1]
    simp only [Option.bind_some]
    have r1 := rep_len deep
    have r2 := rep_count deep
    have r3 := name_count n2
    rw [chk_of (by unfold lim; omega), chk_of (by unfold lim; rw [List.length_append]; simp; omega)]
    simp only [Option.bind_some]
    unfold strings_Builder_WriteString_i1 bld_copyCheck
    simp only [Option.bind_some]
    rw [chk_of (by unfold lim; rw [el_len, el_len, List.length_append, List.length_append]; simp; omega)]
    simp only [Option.bind_some]
    rw [el_append]
    generalize hline : (Lib.repeatL [32, 32] deep ++ (l[t]'h1).1) ++ ([10] : List UInt8) = line
    have q1 : line.count 10 = 1 := by rw [← hline, List.count_append, List.count_append, r2, r3]; rfl
    have q2 : line.length ≤ 100 := by rw [← hline, List.length_append, List.length_append]; simp; omega
    obtain ⟨t2, f1, f2, f3⟩ := draw_loop h c1 c2 h1 h3 (k := k) (fun i d a hi1 hi2 hi3 hi4 => ih i d a hi2 (by omega) hi3 hi4) k 0 (acc ++ line) (Nat.zero_le _) (by omega) (by
      show (acc ++ line).length + 100 * sumr (kid (par l) l.length t) l.length ≤ 1000000 + 100 * 0
      rw [List.length_append]
      omega)
    have z : sumr (kid (par l) l.length t) 0 = 0 := rfl
    refine ⟨line ++ t2, by rw [← List.append_assoc]; exact f1, by rw [List.count_append]; omega, by rw [List.length_append]; omega⟩
theorem Text_ok {f : Fam} {e : Int} (he : family_Check 80000 f = some e) (h0 : e = 0) (h : Shp f.2.1) : ∃ s, family_Text 80000 f = some (s, 0) ∧ s.count 10 = f.2.1.length ∧ s.length ≤ 3200 := by
  have hle := h.le
  have hpos := h.pos
  have ha := asked_val he [] (by simp)
  rw [if_neg (by simp [h0])] at ha
  unfold family_Text
  have ha' : family_asked 80000 ((f.1.1, f.1.2.1, ()), f.2.1, ()) [] = some 0 := ha
  rw [ha']
  simp only [Option.bind_some]
  rw [if_neg (by simp)]
  have hc := cnt_all (par_lt h) f.2.1.length
  obtain ⟨t, e1, e2, e3⟩ := draw_ok h f.1.1 f.1.2.1 80000 0 0 [] hpos (by omega) (Nat.le_refl _) (by rw [hc]; simp; omega)
  have e1' : family_Text_c1_i1 80000 0 0 f.1.1 f.1.2.1 f.2.1 [] = some (bytesEl ([] ++ t)) := e1
  rw [e1', List.nil_append]
  simp only [Option.bind_some]
  unfold bld_String
  rw [str_of_el, if_pos rfl]
  exact ⟨t, rfl, by rw [e2, hc], by omega⟩
end Go.Ev

namespace Go.Ev
open Go
set_option linter.unusedVariables false

variable {p : Nat → Nat}
theorem ups_zero : ups p 0 = [0] := by unfold ups; rw [ch_zero]; rfl
theorem ups_snoc {x : Nat} (h : 0 < x) (hp : p x < x) : ups p x = ups p (p x) ++ [x] := by unfold ups; rw [ch_step h hp, List.reverse_cons]
theorem ups_facts (hp : ∀ i, 0 < i → p i < i) : ∀ x, (ups p x)[0]? = some 0 ∧ (ups p x)[(ups p x).length - 1]? = some x ∧ 1 ≤ (ups p x).length ∧ (ups p x).length ≤ x + 1 ∧
    ∀ k a b, (ups p x)[k]? = some a → (ups p x)[k + 1]? = some b → 0 < b ∧ a = p b ∧ b ≤ x := by
  intro x
  induction x using Nat.strongRecOn with
  | _ x ih =>
    rcases Nat.eq_zero_or_pos x with rfl | h
    · rw [ups_zero]
      exact ⟨rfl, rfl, Nat.le_refl _, Nat.le_refl _, fun k a b h1 h2 => by simp at h2⟩
    · have hpx := hp x h
      obtain ⟨a1, a2, a3, a4, a5⟩ := ih (p x) hpx
      rw [ups_snoc h hpx]
      have hl : (ups p (p x) ++ [x]).length = (ups p (p x)).length + 1 := by simp
      refine ⟨by rw [List.getElem?_append_left (by omega)]; exact a1, by rw [hl, List.getElem?_append_right (by omega)]; simp, by omega, by omega, fun k a b h1 h2 => ?_⟩
      have hk : k + 1 < (ups p (p x) ++ [x]).length := (List.getElem?_eq_some_iff.1 h2).1
      rw [List.getElem?_append_left (by omega)] at h1
      by_cases hk2 : k + 1 < (ups p (p x)).length
      · rw [List.getElem?_append_left hk2] at h2
        obtain ⟨b1, b2, b3⟩ := a5 k a b h1 h2
        exact ⟨b1, b2, by omega⟩
      · have hke : k = (ups p (p x)).length - 1 := by omega
        rw [List.getElem?_append_right (by omega)] at h2
        have hb : b = x := by
          rw [show k + 1 - (ups p (p x)).length = 0 by omega] at h2
          simpa using h2.symm
        rw [hke, a2] at h1
        cases h1
        exact ⟨by omega, by rw [hb], by omega⟩
theorem fold_near (hp : ∀ i, 0 < i → p i < i) (Q : List Nat) (m : Nat) (hm2 : m ∈ Q) : ∀ x a, m ∈ ch p x → (∀ w, w ∈ ch p x → w ∈ Q → w ≤ m) → (ups p x).foldl (fun a z => if z ∈ Q then z else a) a = m := by
  intro x
  induction x using Nat.strongRecOn with
  | _ x ih =>
    intro a h1 h2
    rcases Nat.eq_zero_or_pos x with rfl | h
    · rw [ups_zero]
      have : m = 0 := by have := ch_le _ h1; omega
      subst this
      simp [hm2]
    · have hpx := hp x h
      rw [ups_snoc h hpx, List.foldl_append]
      simp only [List.foldl_cons, List.foldl_nil]
      by_cases hx : x ∈ Q
      · rw [if_pos hx]
        have := h2 x (ch_self x) hx
        have := ch_le _ h1
        omega
      · rw [if_neg hx]
        rcases (ch_mem_step h hpx).1 h1 with rfl | h1
        · exact absurd hm2 hx
        · exact ih (p x) hpx a h1 fun w hw hq => h2 w ((ch_mem_step h hpx).2 (.inr hw)) hq
theorem at_ints {l : List Nat} {k a : Nat} (h : l[k]? = some a) : at? (ints l) (k : Int) = some (a : Int) := by
  rw [at_of]
  unfold ints
  rw [List.getElem?_map, h]
  rfl

abbrev V2 : Type := List Int × Int
theorem law_l1 {f : Fam} (h : Shp f.2.1) {x : Nat} (hx : x < f.2.1.length) (v4 : V2) (v5 : Int × Int) (y : Int) : ∀ n k, 1 ≤ k → k ≤ (ups (par f.2.1) x).length → (ups (par f.2.1) x).length - k < n →
    l27_FamilyPaths_l1 80000 (ints (ups (par f.2.1) x), 0) f v4 v5 (x : Int) y n (k : Int) = l27_FamilyPaths_l2 80000 (ints (ups (par f.2.1) x), 0) v4 v5 (x : Int) y 80000 (-1) 0 f.1.1 f.1.2.1 f.2.1 := by
  obtain ⟨_, _, u3, u4, u5⟩ := ups_facts (par_lt h) x
  have hle := h.le
  generalize hP : ups (par f.2.1) x = P at *
  intro n
  induction n with
  | zero => intro k _ _ h; omega
  | succ n ih =>
    intro k h1 h2 h3
    unfold l27_FamilyPaths_l1 l27_FamilyPaths_b1
    rw [ints_len]
    by_cases hlt : k < P.length
    · obtain ⟨k, rfl⟩ : ∃ m, k = m + 1 := ⟨k - 1, by omega⟩
      have ga : P[k]? = some (P[k]'(by omega)) := List.getElem?_eq_getElem _
      have gb' : P[k + 1]? = some (P[k + 1]'hlt) := List.getElem?_eq_getElem _
      generalize P[k]'(by omega) = a at ga
      generalize P[k + 1]'hlt = b at gb'
      obtain ⟨b1, b2, b3⟩ := u5 k a b ga gb'
      have hpb := par_lt h b b1
      have ew : wi64 (((k + 1 : Nat) : Int) - 1) = ((k : Nat) : Int) := by rw [wi64_of (by omega)]; omega
      rw [if_pos (by simp only [decide_eq_true_eq]; omega), at_ints gb', ew, at_ints ga]
      simp only [Option.bind_some]
      have hc : (decide ((b : Int) ≤ (a : Int)) || decide ((f.2.1.length : Int) ≤ (b : Int))) = false := by
        rw [Bool.eq_false_iff]
        intro q
        simp only [Bool.or_eq_true, decide_eq_true_eq] at q
        omega
      rw [hc]
      unfold l27_FamilyPaths_j10
      rw [if_neg (by simp), at_ints gb', ew, at_ints ga]
      simp only [Option.bind_some]
      have hbl : b < f.2.1.length := by omega
      rw [at_lt hbl]
      simp only [Option.bind_some]
      have hpv := par_val h hbl b1
      unfold l27_FamilyPaths_j11
      rw [if_neg (by rw [hpv, b2]; simp), wi64_nat (by omega)]
      exact ih (k + 1 + 1) (by omega) (by omega) (by omega)
    · rw [if_neg (by simp only [decide_eq_true_eq]; omega)]

theorem law_l3 {P Q : List Nat} (hQ : Q.length ≤ 1000) {k z : Nat} (hz : P[k]? = some z) (go : Int → Int → List (List UInt8) → List (Int × Int × Int × Unit) → List Br → Option Bool) (f2 : List (List UInt8)) (f3 : List (Int × Int × Int × Unit)) (f4 : List Br) :
    ∀ n j last, j ≤ Q.length → Q.length - j < n → l27_FamilyPaths_l3 (ints Q, 0) (ints P, 0) (k : Int) go f2 f3 f4 n last (j : Int) = go (if z ∈ Q.drop j then (z : Int) else last) (wi64 ((k : Int) + 1)) f2 f3 f4 := by
  intro n
  induction n with
  | zero => intro j last _ h; omega
  | succ n ih =>
    intro j last h1 h2
    unfold l27_FamilyPaths_l3 l27_FamilyPaths_b3
    rw [ints_len]
    by_cases hlt : j < Q.length
    · have gq : Q[j]? = some (Q[j]'hlt) := List.getElem?_eq_getElem _
      rw [if_pos (by simp only [decide_eq_true_eq]; omega), at_ints hz, at_ints gq, List.drop_eq_getElem_cons hlt]
      simp only [Option.bind_some]
      unfold l27_FamilyPaths_j12
      rw [wi64_nat (by omega)]
      by_cases hq : z = Q[j]'hlt
      · rw [if_pos (by simp [hq]), ih (j + 1) _ (by omega) (by omega), if_pos (show z ∈ Q[j]'hlt :: Q.drop (j + 1) by rw [← hq]; exact List.mem_cons_self), ite_self]
      · rw [if_neg (by simp only [beq_iff_eq]; omega), ih (j + 1) _ (by omega) (by omega)]
        by_cases hd : z ∈ Q.drop (j + 1)
        · rw [if_pos hd, if_pos (List.mem_cons_of_mem _ hd)]
        · rw [if_neg hd, if_neg (fun q => (List.mem_cons.1 q).elim hq hd)]
    · rw [if_neg (by simp only [decide_eq_true_eq]; omega), List.drop_eq_nil_of_le (by omega), if_neg (by simp)]
def foldL (Q : List Nat) (a : Int) (P : List Nat) : Int := P.foldl (fun a z => if z ∈ Q then (z : Int) else a) a
theorem foldL_nat (Q : List Nat) : ∀ (P : List Nat) (a : Nat), foldL Q (a : Int) P = ((P.foldl (fun a z => if z ∈ Q then z else a) a : Nat) : Int)
  | [], _ => rfl
  | z :: P, a => by
    unfold foldL
    simp only [List.foldl_cons]
    by_cases h : z ∈ Q
    · rw [if_pos h, if_pos h]; exact foldL_nat Q P z
    · rw [if_neg h, if_neg h]; exact foldL_nat Q P a
theorem foldL_first {Q : List Nat} {P : List Nat} (a b : Int) (h : ∃ z ∈ P, z ∈ Q) : foldL Q a P = foldL Q b P := by
  induction P generalizing a b with
  | nil => obtain ⟨z, hz, _⟩ := h; cases hz
  | cons z P ih =>
    unfold foldL
    simp only [List.foldl_cons]
    by_cases hz : z ∈ Q
    · rw [if_pos hz, if_pos hz]
    · rw [if_neg hz, if_neg hz]
      obtain ⟨w, hw, hq⟩ := h
      rcases List.mem_cons.1 hw with rfl | hw
      · exact absurd hq hz
      · exact ih a b ⟨w, hw, hq⟩
theorem law_l2 {P Q : List Nat} (hP : P.length ≤ 1000) (hQ : Q.length ≤ 1000) (v5 : Int × Int) (x y : Int) (f2 : List (List UInt8)) (f3 : List (Int × Int × Int × Unit)) (f4 : List Br) (m : Int)
    (hfin : l27_FamilyPaths_b2 80000 (ints P, 0) (ints Q, 0) v5 x y (fun _ _ _ _ _ => none) m ((P.length : Nat) : Int) f2 f3 f4 = some true) :
    ∀ n k last, k ≤ P.length → P.length - k < n → foldL Q last (P.drop k) = m → l27_FamilyPaths_l2 80000 (ints P, 0) (ints Q, 0) v5 x y n last (k : Int) f2 f3 f4 = some true := by
  intro n
  induction n with
  | zero => intro k last _ h; omega
  | succ n ih =>
    intro k last h1 h2 h3
    unfold l27_FamilyPaths_l2
    by_cases hlt : k < P.length
    · unfold l27_FamilyPaths_b2
      rw [ints_len, if_pos (by simp only [decide_eq_true_eq]; omega)]
      have gz : P[k]? = some (P[k]'hlt) := List.getElem?_eq_getElem _
      have := law_l3 hQ gz (l27_FamilyPaths_l2 80000 (ints P, 0) (ints Q, 0) v5 x y n) f2 f3 f4 80000 0 last (Nat.zero_le _) (by omega)
      rw [List.drop_zero] at this
      refine Eq.trans this ?_
      rw [wi64_nat (by omega)]
      refine ih (k + 1) _ (by omega) (by omega) ?_
      rw [List.drop_eq_getElem_cons hlt] at h3
      exact h3
    · have : k = P.length := by omega
      subst this
      rw [List.drop_length] at h3
      have hm : last = m := h3
      subst hm
      unfold l27_FamilyPaths_b2 at hfin ⊢
      rw [ints_len, if_neg (by simp)] at hfin ⊢
      exact hfin

theorem law_l6 (s : List UInt8) (hs : s.length ≤ 4000) (l : List Br) : ∀ n i c, i ≤ s.length → s.length - i < n → c ≤ i → l27_FamilyPaths_l6 (s, 0) l n ((c : Nat) : Int) (i : Int) = some (((c + (s.drop i).count 10 : Nat) : Int) == (l.length : Int)) := by
  intro n
  induction n with
  | zero => intro i c _ h; omega
  | succ n ih =>
    intro i c h1 h2 h3
    unfold l27_FamilyPaths_l6 l27_FamilyPaths_b6
    by_cases hlt : i < s.length
    · rw [if_pos (by simp only [decide_eq_true_eq]; omega), byteAt_of hlt, List.drop_eq_getElem_cons hlt, List.count_cons]
      simp only [Option.bind_some]
      unfold l27_FamilyPaths_j17
      rw [wi64_nat (n := i) (by omega)]
      by_cases hb : s[i]'hlt = 10
      · rw [if_pos (by rw [hb]; rfl), wi64_nat (by omega), ih (i + 1) (c + 1) (by omega) (by omega) (by omega), if_pos (by rw [hb]; rfl)]
        congr 2
        omega
      · have hn : ¬ (s[i]'hlt).toNat = 10 := fun e => hb (UInt8.toNat_inj.1 e)
        rw [if_neg (by simp only [beq_iff_eq]; omega), ih (i + 1) c (by omega) (by omega) (by omega), if_neg (by simpa using hb)]
        rfl
    · rw [if_neg (by simp only [decide_eq_true_eq]; omega), List.drop_eq_nil_of_le (by omega)]
      rfl
theorem law_l5 {l : List Br} (hl : l.length ≤ 32) {L : List Int} {k : Nat} (hk : k < L.length) (hL : ∀ j (hj : j < l.length), (l[j]'hj).2.1 ≠ L[k]'hk) (go : Int → List (List UInt8) → List (Int × Int × Int × Unit) → List Br → Option Bool) (f5 : List (List UInt8)) (f6 : List (Int × Int × Int × Unit)) :
    ∀ n j, j ≤ l.length → l.length - j < n → l27_FamilyPaths_l5 l (L, 0) (k : Int) go f5 f6 n (j : Int) = go (wi64 ((k : Int) + 1)) f5 f6 l := by
  intro n
  induction n with
  | zero => intro j _ h; omega
  | succ n ih =>
    intro j h1 h2
    unfold l27_FamilyPaths_l5 l27_FamilyPaths_b5
    by_cases hlt : j < l.length
    · rw [if_pos (by simp only [decide_eq_true_eq]; omega), at_lt hlt, at_lt hk]
      simp only [Option.bind_some]
      rw [if_neg (by simpa using hL j hlt), wi64_nat (by omega)]
      exact ih (j + 1) (by omega) (by omega)
    · rw [if_neg (by simp only [decide_eq_true_eq]; omega)]
theorem law_l4 {l : List Br} (hl : l.length ≤ 32) {L : List Int} (hLl : L.length ≤ 32) (hL : ∀ y ∈ L, ∀ j (hj : j < l.length), (l[j]'hj).2.1 ≠ y) {s : List UInt8} (hs : s.length ≤ 4000) (hc : s.count 10 = l.length) (f5 : List (List UInt8)) (f6 : List (Int × Int × Int × Unit)) :
    ∀ n k, k ≤ L.length → L.length - k < n → l27_FamilyPaths_l4 80000 (L, 0) (s, 0) n (k : Int) f5 f6 l = some true := by
  intro n
  induction n with
  | zero => intro k _ h; omega
  | succ n ih =>
    intro k h1 h2
    unfold l27_FamilyPaths_l4 l27_FamilyPaths_b4
    by_cases hlt : k < L.length
    · rw [if_pos (by simp only [decide_eq_true_eq]; omega)]
      have := law_l5 hl hlt (hL _ (List.getElem_mem hlt)) (l27_FamilyPaths_l4 80000 (L, 0) (s, 0) n) f5 f6 80000 0 (Nat.zero_le _) (by omega)
      refine Eq.trans this ?_
      rw [wi64_nat (by omega)]
      exact ih (k + 1) (by omega) (by omega)
    · rw [if_neg (by simp only [decide_eq_true_eq]; omega)]
      have := law_l6 s hs l 80000 0 0 (Nat.zero_le _) (by omega) (Nat.le_refl _)
      refine Eq.trans this ?_
      rw [List.drop_zero, hc, Nat.zero_add]
      simp
set_option maxRecDepth 100000 in
theorem awake_true : l27_awake 80000 = some true := by decide +kernel
theorem large_tot (f : Fam) : Tot (l27_large 80000 f) := by
  have : ∀ (n i : Nat) (c : Int), i ≤ 40 → 40 - i < n → Tot (l27_large_l1 f n c (i : Int)) := by
    intro n
    induction n with
    | zero => intro i c _ h; omega
    | succ n ih =>
      intro i c h1 h2
      unfold l27_large_l1 l27_large_b1 l27_large_j1
      refine tot_ite (fun h => ?_) fun _ => tot_some _
      simp only [Bool.and_eq_true, decide_eq_true_eq] at h
      refine tot_bind (tot_at (by omega)) fun x _ => ?_
      unfold l27_large_j2
      rw [wi64_nat (by omega)]
      exact tot_ite (fun _ => ih (i + 1) _ (by omega) (by omega)) fun _ => ih (i + 1) _ (by omega) (by omega)
  exact this 80000 0 0 (by omega) (by omega)

theorem Path_val {f : Fam} {e : Int} (he : family_Check 80000 f = some e) (hs : e = 0 → Shp f.2.1) (x : Int) : ∃ v, family_Path 80000 f x = some v ∧ (¬ (e = 0 ∧ inR f x = true) → v.2 ≠ 0) ∧ (e = 0 → inR f x = true → v = (ints (ups (par f.2.1) x.toNat), 0)) := by
  have ha := asked_val he [x] (by simp)
  have red : ∀ r, family_asked 80000 f [x] = some r → family_Path 80000 f x = if (r != 0) = true then some ([], r) else Option.bind (family_path 80000 f x) fun v2 => some (v2, (0 : Int)) := by
    intro r hr
    have hr' : family_asked 80000 ((f.1.1, f.1.2.1, ()), f.2.1, ()) [x] = some r := hr
    unfold family_Path
    rw [hr']
    rfl
  by_cases h0 : e = 0
  · cases hx : inR f x with
    | false =>
      rw [red 8 (by rw [ha]; simp [h0, hx]), if_pos (by simp)]
      exact ⟨_, rfl, fun _ => by simp, fun _ q => by cases q⟩
    | true =>
      have hx' := hx
      unfold inR at hx'
      simp only [Bool.and_eq_true, decide_eq_true_eq] at hx'
      obtain ⟨t, rfl⟩ : ∃ t : Nat, x = (t : Int) := ⟨x.toNat, by omega⟩
      rw [red 0 (by rw [ha]; simp [h0, hx]), if_neg (by simp), path_ok (hs h0) (t := t) (by omega)]
      exact ⟨_, rfl, fun q => absurd ⟨h0, rfl⟩ q, fun _ _ => by rw [Int.toNat_natCast]⟩
  · rw [red e (by rw [ha]; simp [h0]), if_pos (by simpa using h0)]
    exact ⟨_, rfl, fun _ => h0, fun q => absurd q h0⟩
theorem Near_val {f : Fam} {e : Int} (he : family_Check 80000 f = some e) (hs : e = 0 → Shp f.2.1) (x y : Int) : ∃ v, family_Near 80000 f x y = some v ∧ (¬ (e = 0 ∧ inR f x = true ∧ inR f y = true) → v.2 ≠ 0 ∧ v.1 = 0) ∧
    (e = 0 → inR f x = true → inR f y = true → ∃ m : Nat, v = ((m : Int), 0) ∧ m ∈ ch (par f.2.1) x.toNat ∧ m ∈ ch (par f.2.1) y.toNat ∧ ∀ w, w ∈ ch (par f.2.1) x.toNat → w ∈ ch (par f.2.1) y.toNat → w ≤ m) := by
  have ha := asked_val he [x, y] (by simp)
  have red : ∀ r, family_asked 80000 f [x, y] = some r → family_Near 80000 f x y = if (r != 0) = true then some (0, r) else family_Near_l1 f 80000 x y := by
    intro r hr
    have hr' : family_asked 80000 ((f.1.1, f.1.2.1, ()), f.2.1, ()) [x, y] = some r := hr
    unfold family_Near
    rw [hr']
    rfl
  by_cases h0 : e = 0
  · cases hxy : (inR f x && inR f y) with
    | false =>
      rw [red 8 (by
        rw [ha, if_neg (by simpa using h0)]
        simp only [List.all_cons, List.all_nil, Bool.and_true, hxy]
        rfl), if_pos (by simp)]
      refine ⟨_, rfl, fun _ => ⟨by simp, by simp⟩, fun _ q1 q2 => ?_⟩
      rw [q1, q2] at hxy
      cases hxy
    | true =>
      have hxy2 := hxy
      simp only [Bool.and_eq_true] at hxy2
      have hx := hxy2.1
      have hy := hxy2.2
      unfold inR at hx hy
      simp only [Bool.and_eq_true, decide_eq_true_eq] at hx hy
      have hle := (hs h0).le
      rw [red 0 (by
        rw [ha, if_neg (by simpa using h0)]
        simp only [List.all_cons, List.all_nil, Bool.and_true, hxy]
        rfl), if_neg (by simp)]
      obtain ⟨t, rfl⟩ : ∃ t : Nat, x = (t : Int) := ⟨x.toNat, by omega⟩
      obtain ⟨u, rfl⟩ : ∃ t : Nat, y = (t : Int) := ⟨y.toNat, by omega⟩
      rw [near_l1 (hs h0) 80000 t u (by omega) (by omega) (by omega)]
      refine ⟨_, rfl, fun q => absurd ⟨h0, hxy2.1, hxy2.2⟩ q, fun _ _ _ => ⟨_, rfl, ?_⟩⟩
      rw [Int.toNat_natCast, Int.toNat_natCast]
      exact near_spec (par_lt (hs h0)) 80000 t u (by omega)
  · rw [red e (by rw [ha]; simp [h0]), if_pos (by simpa using h0)]
    exact ⟨_, rfl, fun _ => ⟨h0, rfl⟩, fun q => absurd q h0⟩

def K_FamilyPaths : Nat := 80000
theorem FamilyPaths_true' (f : Fam) (x y : Int) : l27_FamilyPaths K_FamilyPaths f x y = some true := by
  unfold K_FamilyPaths l27_FamilyPaths
  rw [awake_true]
  simp only [Option.bind_some]
  rw [if_neg (by simp)]
  obtain ⟨b, hb⟩ := large_tot f
  have hb' : l27_large 80000 ((f.1.1, f.1.2.1, ()), f.2.1, ()) = some b := hb
  rw [hb']
  simp only [Option.bind_some]
  cases b with
  | true => rw [if_pos rfl]
  | false =>
  rw [if_neg (by simp)]
  obtain ⟨e, he, hs⟩ := famCheck_tot f
  obtain ⟨v3, p1, p2, p3⟩ := Path_val he hs x
  obtain ⟨v4, q1, q2, q3⟩ := Path_val he hs y
  obtain ⟨v5, n1, n2, n3⟩ := Near_val he hs x y
  obtain ⟨v6, m1, m2, m3⟩ := Near_val he hs y x
  have p1' : family_Path 80000 ((f.1.1, f.1.2.1, ()), f.2.1, ()) x = some v3 := p1
  have q1' : family_Path 80000 ((f.1.1, f.1.2.1, ()), f.2.1, ()) y = some v4 := q1
  have n1' : family_Near 80000 ((f.1.1, f.1.2.1, ()), f.2.1, ()) x y = some v5 := n1
  have m1' : family_Near 80000 ((f.1.1, f.1.2.1, ()), f.2.1, ()) y x = some v6 := m1
  rw [p1', q1', n1', m1']
  simp only [Option.bind_some]
  by_cases hok : e = 0 ∧ inR f x = true ∧ inR f y = true
  · obtain ⟨h0, hx, hy⟩ := hok
    have hsh := hs h0
    have hle := hsh.le
    have r3 := p3 h0 hx
    have r4 := q3 h0 hy
    obtain ⟨m, r5, a1, a2, a3⟩ := n3 h0 hx hy
    obtain ⟨m', r6, b1, b2, b3⟩ := m3 h0 hy hx
    have hmm : m = m' := Nat.le_antisymm (b3 m a2 a1) (a3 m' b2 b1)
    subst hmm
    subst r3
    subst r4
    subst r5
    subst r6
    unfold inR at hx hy
    simp only [Bool.and_eq_true, decide_eq_true_eq] at hx hy
    obtain ⟨t, rfl⟩ : ∃ t : Nat, x = (t : Int) := ⟨x.toNat, by omega⟩
    obtain ⟨u, rfl⟩ : ∃ t : Nat, y = (t : Int) := ⟨y.toNat, by omega⟩
    simp only [Int.toNat_natCast] at a1 a2 a3 b1 b2 b3 ⊢
    obtain ⟨u1, u2, u3, u4, u5⟩ := ups_facts (par_lt hsh) t
    obtain ⟨w1, w2, w3, w4, w5⟩ := ups_facts (par_lt hsh) u
    obtain ⟨s, s1, s2, s3⟩ := Text_ok he h0 hsh
    have hleaf : ∃ L, family_Leaves 80000 f = some (L, 0) ∧ L.length ≤ 32 ∧ (∀ y ∈ L, ∀ j (hj : j < f.2.1.length), (f.2.1[j]'hj).2.1 ≠ y) ∧ L ≠ [] := by
      have hpos := hsh.pos
      obtain ⟨L, l1, l2, l3, l4⟩ := leaves_l1 hsh 80000 0 [] (Nat.zero_le _) (by omega) (Nat.le_refl _) (fun y hy => by cases hy)
      have ha := asked_val he [] (by simp)
      rw [if_neg (by simp [h0])] at ha
      have ha' : family_asked 80000 ((f.1.1, f.1.2.1, ()), f.2.1, ()) [] = some 0 := ha
      unfold family_Leaves
      rw [ha']
      simp only [Option.bind_some]
      rw [if_neg (by simp)]
      exact ⟨L, l1, l2, l3, l4 (.inr (by omega))⟩
    obtain ⟨L, l1, l2, l3, l4⟩ := hleaf
    unfold l27_FamilyPaths_j1
    rw [if_neg (by simp)]
    unfold l27_FamilyPaths_j5 l27_FamilyPaths_j6
    have hne : ((ups (par f.2.1) t).length : Int) ≠ 0 := by omega
    rw [show ((((((0 : Int) != 0) || ((0 : Int) != 0)) || ((m : Int) != (m : Int)))) || (((ints (ups (par f.2.1) t)).length : Int) == 0)) = false by
      rw [ints_len, Bool.eq_false_iff]
      intro q
      simp only [bne_self_eq_false, Bool.or_self, Bool.false_or, beq_iff_eq] at q
      exact hne q]
    unfold l27_FamilyPaths_j7
    rw [if_neg (by simp), show (0 : Int) = ((0 : Nat) : Int) from rfl, at_ints u1]
    simp only [Option.bind_some]
    unfold l27_FamilyPaths_j8
    rw [if_neg (by simp), ints_len, show wi64 (((ups (par f.2.1) t).length : Int) - 1) = (((ups (par f.2.1) t).length - 1 : Nat) : Int) by rw [wi64_of (by omega)]; omega, at_ints u2]
    simp only [Option.bind_some]
    unfold l27_FamilyPaths_j9
    rw [if_neg (by simp)]
    have hl1 := law_l1 hsh (x := t) (by omega) (ints (ups (par f.2.1) u), 0) ((m : Int), ((0 : Nat) : Int)) (u : Int) 80000 1 (Nat.le_refl _) u3 (by omega)
    refine Eq.trans hl1 ?_
    have hmemu : m ∈ ups (par f.2.1) u := List.mem_reverse.2 a2
    have hmemt : m ∈ ups (par f.2.1) t := List.mem_reverse.2 a1
    refine law_l2 (P := ups (par f.2.1) t) (Q := ups (par f.2.1) u) (by omega) (by omega) _ _ _ _ _ _ (m : Int) ?_ 80000 0 (-1) (Nat.zero_le _) (by omega) ?_
    · unfold l27_FamilyPaths_b2
      rw [ints_len, if_neg (by simp)]
      have l1' : family_Leaves 80000 ((f.1.1, f.1.2.1, ()), f.2.1, ()) = some (L, 0) := l1
      have s1' : family_Text 80000 ((f.1.1, f.1.2.1, ()), f.2.1, ()) = some (s, 0) := s1
      rw [l1', s1']
      simp only [Option.bind_some]
      rw [if_neg (by simp)]
      unfold l27_FamilyPaths_j18 l27_FamilyPaths_j13 l27_FamilyPaths_j14 l27_FamilyPaths_j15 l27_FamilyPaths_j16
      have hLl : (L.length : Int) ≠ 0 := by
        have : L.length ≠ 0 := fun q => l4 (List.length_eq_zero_iff.1 q)
        omega
      have hself : (((t : Int) == (u : Int)) && ((m : Int) != (t : Int))) = false := by
        rw [Bool.eq_false_iff]
        intro q
        simp only [Bool.and_eq_true, beq_iff_eq, bne_iff_ne, ne_eq] at q
        have htu : t = u := by omega
        subst htu
        have h1 := ch_le _ a1
        have h2 := a3 t (ch_self t) (ch_self t)
        omega
      rw [hself, if_neg (by simp; exact fun q => hLl (by rw [q]; rfl))]
      exact law_l4 hle l2 l3 (by omega) s2 f.1.1 f.1.2.1 80000 0 (Nat.zero_le _) (by omega)
    · rw [List.drop_zero]
      rw [foldL_first (-1) ((0 : Nat) : Int) ⟨m, hmemt, hmemu⟩, foldL_nat]
      have hf := fold_near (par_lt hsh) (ups (par f.2.1) u) m hmemu t 0 a1 fun w hw hq => a3 w hw (List.mem_reverse.1 hq)
      rw [hf]
  · have hbad : v3.2 ≠ 0 ∨ v4.2 ≠ 0 := by
      by_cases h1 : e = 0 ∧ inR f x = true
      · exact .inr (q2 fun h2 => hok ⟨h1.1, h1.2, h2.2⟩)
      · exact .inl (p2 h1)
    obtain ⟨c1, c2⟩ := n2 hok
    obtain ⟨d1, d2⟩ := m2 fun h => hok ⟨h.1, h.2.2, h.2.1⟩
    unfold l27_FamilyPaths_j1
    rw [if_pos (by simpa using hbad)]
    unfold l27_FamilyPaths_j2 l27_FamilyPaths_j3 l27_FamilyPaths_j4
    simp [c1, c2, d1, d2]
end Go.Ev
