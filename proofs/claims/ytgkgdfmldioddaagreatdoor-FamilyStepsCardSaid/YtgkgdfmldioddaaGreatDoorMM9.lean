/- Plain laws: a pattern turned round is a tree; a law turned round. -/
import Derived.Test.YtgkgdfmldioddaaGreatDoorMM8
import Derived.Test.YtgkgdfmldioddaaGreatDoorMM4
import Derived.OpenShut
import Derived.WideShapes
import Derived.Test.YtgkgdfmldioddaaGreatDoorTyA
set_option linter.unusedSectionVars false
set_option linter.unusedVariables false
set_option linter.unusedSimpArgs false
namespace Go.Ev
open Go
set_option linter.unusedVariables false
theorem sum_sub (f : Nat -> Nat) : ∀ (l l' : List Nat), l.Nodup -> (∀ x ∈ l, x ∈ l') -> (l.map f).sum <= (l'.map f).sum := by
 intro l
 induction l with
 | nil => intro l' _ _; exact Nat.zero_le _
 | cons x t ih =>
  intro l' hn hs
  rw [List.nodup_cons] at hn
  have hp : l'.Perm (x :: l'.erase x) := List.perm_cons_erase (hs x List.mem_cons_self)
  have := ih (l'.erase x) hn.2 fun y hy => (List.mem_erase_of_ne (fun e => hn.1 (by rw [<- e]; exact hy))).2 (hs y (List.mem_cons_of_mem _ hy))
  rw [(hp.map f).sum_nat, List.map_cons, List.sum_cons, List.map_cons, List.sum_cons]
  omega
def kidsAt (ns : List Node) (i : Nat) : List Int := (ns[i]?).elim [] fun x => x.2.2.2.2.1
def wtF (ns : List Node) : Nat -> Nat -> Nat
 | 0, _ => 0
 | d + 1, i => 1 + ((kidsAt ns i).map fun k => wtF ns d k.toNat).sum
theorem kidsAt_eq {ns : List Node} {i : Nat} (h : i < ns.length) : kidsAt ns i = (ns[i]'h).2.2.2.2.1 := by
 unfold kidsAt
 rw [List.getElem?_eq_getElem h]
 rfl
theorem wtF_eq {ns : List Node} (hT : TreeOK ns) : ∀ d d' i, i < ns.length -> ns.length - i <= d -> ns.length - i <= d' -> wtF ns d i = wtF ns d' i := by
 intro d
 induction d with
 | zero => intro d' i h1 h2; omega
 | succ d ih =>
  intro d' i h1 h2 h3
  obtain ⟨d', rfl⟩ : ∃ m, d' = m + 1 := ⟨d' - 1, by omega⟩
  unfold wtF
  congr 2
  refine List.map_congr_left fun k hk => ?_
  rw [kidsAt_eq h1] at hk
  have := (hT.2.2 i h1).1 k hk
  exact ih d' k.toNat (by omega) (by omega) (by omega)
def wt (ns : List Node) (i : Nat) : Nat := wtF ns ns.length i
theorem wt_eq {ns : List Node} (hT : TreeOK ns) {i : Nat} (h : i < ns.length) : wt ns i = 1 + ((ns[i]'h).2.2.2.2.1.map fun k => wt ns k.toNat).sum := by
 unfold wt
 rw [wtF_eq hT ns.length (ns.length + 1) i h (by omega) (by omega), wtF, kidsAt_eq h]
theorem wt_all {ns : List Node} (hT : TreeOK ns) : ∀ m, m <= ns.length -> ((List.range' (ns.length - m) m).map (wt ns)).sum = m + (((ns.drop (ns.length - m)).flatMap fun x => x.2.2.2.2.1).map fun k => wt ns k.toNat).sum := by
 intro m
 induction m with
 | zero => intro _; simp
 | succ m ih =>
  intro h
  have hi : ns.length - (m + 1) < ns.length := by omega
  have hs : ns.length - (m + 1) + 1 = ns.length - m := by omega
  rw [List.range'_succ, List.map_cons, List.sum_cons, hs, ih (by omega), List.drop_eq_getElem_cons hi, hs, List.flatMap_cons, List.map_append, List.sum_append, wt_eq hT hi]
  omega
theorem wt_le {ns : List Node} (hT : TreeU ns) : wt ns 0 <= ns.length := by
 have h1 := hT.1.1
 have hall := wt_all hT.1 ns.length (Nat.le_refl _)
 rw [Nat.sub_self, List.drop_zero] at hall
 have hk : (ns.flatMap fun x => x.2.2.2.2.1) = kidsOf ns ns.length := by unfold kidsOf; rw [List.take_length]
 rw [hk] at hall
 have hr : ∀ k ∈ kidsOf ns ns.length, 1 <= k /\ k < (ns.length : Int) := by
  intro k hkm
  rw [<- hk] at hkm
  obtain ⟨x, hx, hkx⟩ := List.mem_flatMap.1 hkm
  obtain ⟨i, hi, rfl⟩ := List.getElem_of_mem hx
  have := (hT.1.2.2 i hi).1 k hkx
  omega
 have hsub := sum_sub (wt ns) ((kidsOf ns ns.length).map Int.toNat) (List.range' 1 (ns.length - 1)) ?_ ?_
 ·have e : List.range' 0 ns.length = 0 :: List.range' 1 (ns.length - 1) := by
   rw [show ns.length = (ns.length - 1) + 1 by omega, List.range'_succ]
   rfl
  rw [e, List.map_cons, List.sum_cons] at hall
  rw [List.map_map] at hsub
  have : ((kidsOf ns ns.length).map (wt ns ∘ Int.toNat)).sum = ((kidsOf ns ns.length).map fun k => wt ns k.toNat).sum := rfl
  omega
 ·rw [List.nodup_iff_pairwise_ne, List.pairwise_map]
  refine List.Pairwise.imp_of_mem ?_ (List.nodup_iff_pairwise_ne.1 hT.2.2)
  intro a b ha hb hab e
  have := hr a ha
  have := hr b hb
  omega
 ·intro x hx
  obtain ⟨k, hkm, rfl⟩ := List.mem_map.1 hx
  have := hr k hkm
  rw [List.mem_range'_1]
  omega
def SegOK (b : Nat) (seg : List Node) : Prop := ∀ j (h : j < seg.length), (∀ k ∈ (seg[j]'h).2.2.2.2.1, ((b + j : Nat) : Int) < k /\ k < ((b + seg.length : Nat) : Int)) /\ ((seg[j]'h).1 = 8 \/ (seg[j]'h).1 = 9 -> (seg[j]'h).2.2.2.2.1 ≠ []) /\ (seg[j]'h).2.2.2.2.1.length <= 1000
theorem SegOK.append {b : Nat} {s t : List Node} (h1 : SegOK b s) (h2 : SegOK (b + s.length) t) : SegOK b (s ++ t) := by
 intro j h
 by_cases e : j < s.length
 ·rw [List.getElem_append_left e]
  obtain ⟨a, c, d⟩ := h1 j e
  refine ⟨fun k hk => ?_, c, d⟩
  have := a k hk
  rw [List.length_append]
  omega
 ·rw [List.length_append] at h
  have hj : j - s.length < t.length := by omega
  rw [List.getElem_append_right (by omega)]
  obtain ⟨a, c, d⟩ := h2 (j - s.length) hj
  refine ⟨fun k hk => ?_, c, d⟩
  have := a k hk
  rw [List.length_append]
  omega
theorem mid_set {α : Type} (A : List α) (x y : α) (B : List α) : (A ++ x :: B).set A.length y = A ++ y :: B := by
 rw [List.set_append_right _ _ (Nat.le_refl _), Nat.sub_self]
 rfl
theorem mid_get {α : Type} (A : List α) (x : α) (B : List α) : at? (A ++ x :: B) (A.length : Int) = some x := by
 rw [at_of, List.getElem?_append_right (Nat.le_refl _), Nat.sub_self]
 rfl
abbrev WalkT : Type := Int -> List Node -> Bool -> List Node -> Option (List Node)
def WalkP (rows : List Node) (n : Nat) (v : List Node) : Prop := ∃ seg, v = rows ++ seg /\ SegOK rows.length seg /\ 1 <= seg.length /\ seg.length <= n
theorem walk_l1 {ns : List Node} {tb : Bool} {ks : List Int} {rows : List Node} {rec1 : WalkT} {x : Node} (hk : ks.length <= 1000) (hx : x.1 = 8 \/ x.1 = 9 -> ks ≠ [])
  (hb : rows.length + 1 + (ks.map fun k => wt ns k.toNat).sum <= 1000)
  (hr : ∀ k ∈ ks, ∀ R : List Node, R.length + wt ns k.toNat <= 1000 -> Has (rec1 k ns tb R) (WalkP R (wt ns k.toNat))) :
  ∀ n (i : Nat) (kids : List Int) (segs : List Node), i <= ks.length -> ks.length - i < n -> kids.length = i -> (∀ k ∈ kids, (rows.length : Int) < k /\ k < ((rows.length + 1 + segs.length : Nat) : Int)) -> SegOK (rows.length + 1) segs -> segs.length <= ((ks.take i).map fun k => wt ns k.toNat).sum ->
   Has (zgv ks rows rec1 ns tb n (i : Int) (rows ++ (x.1, x.2.1, x.2.2.1, x.2.2.2.1, kids, ()) :: segs)) (WalkP rows (1 + (ks.map fun k => wt ns k.toNat).sum)) := by
 have hbl := zhl
 intro n
 induction n with
 | zero => intro i _ _ _ h; omega
 | succ n ih =>
  intro i kids segs h1 h2 h3 h4 h5 h6
  unfold zgv pattern_walked_c1_i3_b1
  refine has_dec (fun hlt => ?_) fun hnl => ?_
  ·have hi : i < ks.length := by omega
   refine has_at hi fun y hy => ?_
   have hsum : ((ks.take (i + 1)).map fun k => wt ns k.toNat).sum = ((ks.take i).map fun k => wt ns k.toNat).sum + wt ns y.toNat := by
    rw [List.take_succ_eq_append_getElem hi, hy, List.map_append, List.sum_append]
    simp
   have hle : ((ks.take (i + 1)).map fun k => wt ns k.toNat).sum <= (ks.map fun k => wt ns k.toNat).sum := by
    have : (ks.map fun k => wt ns k.toNat).sum = ((ks.take (i + 1)).map fun k => wt ns k.toNat).sum + ((ks.drop (i + 1)).map fun k => wt ns k.toNat).sum := by
     rw [<- List.sum_append, <- List.map_append, List.take_append_drop]
    omega
   have hlen : (rows ++ (x.1, x.2.1, x.2.2.1, x.2.2.2.1, kids, ()) :: segs).length = rows.length + 1 + segs.length := by
    simp only [List.length_append, List.length_cons]
    omega
   rw [hlen]
   refine has_chk ⟨by omega, by omega⟩ ?_
   rw [mid_get, Option.bind_some]
   refine has_chk (by show kids.length + _ <= _; simp only [List.length_cons, List.length_nil]; omega) ?_
   refine has_chk ⟨by omega, by omega⟩ ?_
   rw [Int.toNat_natCast, mid_set]
   refine zhk (hr y (hy ▸ List.getElem_mem _) _ ?_) ?_
   ·simp only [List.length_append, List.length_cons]
    omega
   ·rintro v ⟨seg, rfl, hs1, hs2, hs3⟩
    simp only [List.length_append, List.length_cons] at hs1
    rw [zhf (by omega), List.append_assoc, List.cons_append]
    refine ih (i + 1) (kids ++ [((rows.length + 1 + segs.length : Nat) : Int)]) (segs ++ seg) (by omega) (by omega) (by simp [h3]) ?_ ?_ (by rw [List.length_append]; omega)
    ·intro k hk
     rw [List.length_append]
     rcases List.mem_append.1 hk with hk | hk
     ·have := h4 k hk
      omega
     ·simp only [List.mem_cons, List.not_mem_nil, or_false] at hk
      omega
    ·refine h5.append ?_
     rw [show rows.length + 1 + segs.length = rows.length + (segs.length + 1) by omega]
     exact hs1
  ·have hi : i = ks.length := by omega
   rw [hi, List.take_length] at h6
   refine zhj ⟨(x.1, x.2.1, x.2.2.1, x.2.2.2.1, kids, ()) :: segs, rfl, ?_, by simp, by rw [List.length_cons]; omega⟩
   intro j h
   match j, h with
   | 0, h =>
    refine ⟨fun k hk => ?_, fun q e => ?_, by show kids.length <= _; omega⟩
    ·have := h4 k hk
     rw [List.length_cons]
     omega
    ·have e' : kids = [] := e
     have hks : ks.length = 0 := by rw [<- hi, <- h3, e']; rfl
     exact hx q (List.length_eq_zero_iff.1 hks)
   | j + 1, h =>
    have hj : j < segs.length := by simpa using h
    obtain ⟨a, c, d⟩ := h5 j hj
    refine ⟨fun k hk => ?_, c, d⟩
    have := a k hk
    rw [List.length_cons]
    omega
theorem walk_ok {ns : List Node} (hT : TreeOK ns) (tb : Bool) : ∀ d k (at1 : Nat), at1 < ns.length -> ns.length - at1 <= d -> 60000 + d <= k -> ∀ R : List Node, R.length + wt ns at1 <= 1000 -> Has (zgx k (at1 : Int) ns tb R) (WalkP R (wt ns at1)) := by
 have hbl := zhl
 have hbi := big_lim
 intro d
 induction d with
 | zero => intro k at1 h1 h2; omega
 | succ d ih =>
  intro k at1 h1 h2 h3 R hR
  obtain ⟨k, rfl⟩ : ∃ m, k = m + 1 := ⟨k - 1, by omega⟩
  have hx := hT.2.2 at1 h1
  have hw := wt_eq hT h1
  unfold zgx
  refine has_at h1 fun x hxe => ?_
  rw [hxe] at hx hw
  have hr : ∀ y ∈ x.2.2.2.2.1, ∀ R : List Node, R.length + wt ns y.toNat <= 1000 -> Has (zgx k y ns tb R) (WalkP R (wt ns y.toNat)) := by
   intro y hy R hR
   have := hx.1 y hy
   obtain ⟨m, rfl⟩ : ∃ m : Nat, y = (m : Int) := ⟨y.toNat, by omega⟩
   exact ih k m (by omega) (by omega) (by omega) R hR
  unfold zgu
  refine zhk (Q := fun v => v = x.2.2.2.2.1) (has_chk (by have := hx.2.2; simp only [List.length_nil]; omega) (zhj (List.nil_append _))) ?_
  rintro v rfl
  have go : ∀ ks : List Int, ks.length = x.2.2.2.2.1.length -> (∀ y ∈ ks, y ∈ x.2.2.2.2.1) -> (ks.map fun k => wt ns k.toNat).sum = (x.2.2.2.2.1.map fun k => wt ns k.toNat).sum -> Has (zgw k R x (zgx k) ns tb ks) (WalkP R (wt ns at1)) := by
   intro ks e1 e2 e3
   have hl := hx.2.2
   unfold zgw
   refine has_chk ⟨by omega, by omega, by omega⟩ ?_
   refine has_chk (by simp only [List.length_cons, List.length_nil]; omega) ?_
   rw [hw, <- e3]
   refine walk_l1 (x := x) (by omega) (fun q e => ?_) (by omega) (fun y hy => hr y (e2 y hy)) k 0 [] [] (Nat.zero_le _) (by omega) rfl (fun k hk => by cases hk) (fun j h => by cases h) (Nat.zero_le _)
   rw [e] at e1
   exact hx.2.1 q (List.length_eq_zero_iff.1 e1.symm)
  unfold pattern_walked_c1_i3_j2
  refine has_ite (fun _ => go _ List.length_reverse (fun y hy => List.mem_reverse.1 hy) ?_) fun _ => go _ rfl (fun y hy => hy) rfl
  rw [List.map_reverse]
  exact (List.reverse_perm _).sum_nat
theorem Turned_ok (p : Pat) (hp : TreeU p.1) (hT : zdu 80000 (p.1, ()) = some true) : Has (zgz 80000 p) fun v => TreeOK v.1.1 := by
 have hw := wt_le hp
 have h256 := hp.2.1
 unfold zgz zgy
 rw [hT, Option.bind_some]
 refine has_ite (fun q => nomatch q) fun _ => ?_
 refine zhk (Q := WalkP [] (wt p.1 0)) (zhk (walk_ok hp.1 true 1000 80000 0 hp.1.1 (by omega) (by omega) [] (by simp only [List.length_nil]; omega)) fun v hv => zhj hv) ?_
 rintro v ⟨seg, e, h1, h2, h3⟩
 rw [List.nil_append] at e
 subst e
 refine zhj ?_
 show TreeOK v
 refine ⟨h2, by omega, fun i h => ?_⟩
 have := h1 i h
 simp only [List.length_nil, Nat.zero_add] at this
 exact this
structure RuleRun (r : Rul) : Prop where
 target : r.2.1.length <= 8
 into : r.2.2.1.length <= 8
 from_ : ∀ s ∈ r.2.2.1, s.1 = 0 -> 0 <= s.2.1 /\ s.2.1 < (r.2.1.length : Int)
 left : TreeOK r.2.2.2.1.1
 right : TreeOK r.2.2.2.2.1.1
theorem RuleOK.run {a : Alph} {r : Rul} (h : RuleOK a r) : RuleRun r := ⟨h.target, h.into, h.from_, h.left.1, h.right.1⟩
theorem lawTurned_ok {a : Alph} {r : Rul} (h : RuleOK a r) : Has (rule_turned 80000 r) fun v => RuleRun v := by
 have hbl := zhl
 have ht := h.target
 have hi := h.into
 unfold rule_turned zgs zgt
 refine zhk (Q := fun v => v = r.2.1) (has_chk (by simp only [List.length_nil]; omega) (zhj (List.nil_append _))) ?_
 rintro v1 rfl
 refine zhk (Q := fun v => v = r.2.2.1) (has_chk (by simp only [List.length_nil]; omega) (zhj (List.nil_append _))) ?_
 rintro v2 rfl
 have main : ∀ n (i : Nat) (t : List Swp), i <= r.2.2.1.length -> r.2.2.1.length - i < n -> t.length = r.2.2.1.length -> (∀ s ∈ t, s.1 = 0 -> 0 <= s.2.1 /\ s.2.1 < (r.2.1.length : Int)) -> Has (zg0 80000 r.2.2.1 r.2.1 r n (i : Int) t) fun v => RuleRun v := by
  intro n
  induction n with
  | zero => intro i t _ h; omega
  | succ n ih =>
   intro i t h1 h2 h3 h4
   unfold zg0 rule_turned_b1 rule_turned_j1
   rw [List.length_reverse, List.length_reverse]
   refine has_dec (fun hlt => ?_) fun hnl => ?_
   ·refine has_at (by omega) fun x hx => ?_
    rw [zhf (by omega)]
    refine has_ite (fun h0 => ?_) fun _ => ih (i + 1) t (by omega) (by omega) h3 h4
    have h0' : x.1 = 0 := by simpa using h0
    have hx4 := h4 x (hx ▸ List.getElem_mem _) h0'
    refine ih (i + 1) _ (by omega) (by omega) (by rw [List.length_set]; exact h3) fun s hs hs0 => ?_
    rcases List.mem_or_eq_of_mem_set hs with hs | rfl
    ·exact h4 s hs hs0
    ·have e : wi64 ((wi64 ((r.2.1.length : Int) - 1)) - x.2.1) = (r.2.1.length : Int) - 1 - x.2.1 := by
      rw [wi64_of (x := (r.2.1.length : Int) - 1) (by omega), wi64_of (by omega)]
     show 0 <= wi64 ((wi64 ((r.2.1.length : Int) - 1)) - x.2.1) /\ wi64 ((wi64 ((r.2.1.length : Int) - 1)) - x.2.1) < _
     rw [e]
     omega
   ·refine zhk (Turned_ok (r.2.2.2.2.1.1, ()) h.right h.rightT) fun v3 h3' => ?_
    refine zhk (Turned_ok (r.2.2.2.1.1, ()) h.left h.leftT) fun v4 h4' => zhj ?_
    refine ⟨?_, ?_, ?_, h3', h4'⟩
    ·show (List.reverse r.2.1).length <= 8
     rw [List.length_reverse]; exact ht
    ·show t.length <= 8
     omega
    ·intro s hs h0
     show _ /\ _ < ((List.reverse r.2.1).length : Int)
     rw [List.length_reverse]
     exact h4 s hs h0
 exact main 80000 0 _ (Nat.zero_le _) (by omega) List.length_reverse fun s hs => h.from_ s (List.mem_reverse.1 hs)
end Go.Ev
namespace Go.Ev
open Go
set_option linter.unusedVariables false
def MkP (v : List (List UInt8) × Int) : Prop := v.2 = 0 -> v.1.length = 1
theorem makes_l1 {v9 : RunT} (h9 : RunP v9) : ∀ n (i : Nat) (t : List (List UInt8)), i <= v9.2.2.2.2.2.2.2.2.2.2.2.length -> v9.2.2.2.2.2.2.2.2.2.2.2.length - i < n -> t.length = v9.2.2.2.2.2.2.2.2.2.2.2.length -> (∀ w ∈ t, w.length <= 100000) ->
  Has (zg2 v9 n (i : Int) t) MkP := by
 have hbl := zhl
 have h91 := h9.2.1
 intro n
 induction n with
 | zero => intro i t _ h; omega
 | succ n ih =>
  intro i t h1 h2 h3 h4
  unfold zg2 zg1
  refine has_dec (fun hlt => ?_) fun _ => zhj fun q => ?_
  ·refine has_at (by omega) fun x hx => ?_
   have hxl := h4 x (hx ▸ List.getElem_mem _)
   have h5 := strRunes_le x
   have h6 := runesStr_le (List.reverse (zba x))
   rw [List.length_reverse] at h6
   refine has_chk (by omega) ?_
   refine has_chk (by omega) ?_
   by_cases hi : i + 1 < v9.2.2.2.2.2.2.2.2.2.2.2.length
   ·omega
   rw [zhf (by omega)]
   unfold zg2
   obtain ⟨n, rfl⟩ : ∃ m, n = m + 1 := ⟨n - 1, by omega⟩
   unfold zg1
   refine has_dec (fun q => by omega) fun _ => zhj fun q => ?_
   show (List.set t _ _).length = 1
   rw [List.length_set, h3]
   exact h9.1 q
  ·show t.length = 1
   rw [h3]
   exact h9.1 q
theorem makes_ok (a : Alph) (r : Rul) (w : List UInt8) : Has (zg3 80000 a r w) MkP := by
 unfold zg3
 refine zhk (ruleCheck_U a r) fun v1 hv => ?_
 refine has_ite (fun h => zhj fun q => by rw [show v1 = 0 from q] at h; cases h) fun h0 => ?_
 have hR := hv (by simpa using h0)
 have hrun := hR.run
 refine zhk (letters_i1_ok a w) fun v2 hv2 => ?_
 refine has_ite (fun h => zhj fun q => by rw [show v2.1 = 0 from q] at h; cases h) fun _ => ?_
 refine has_ite (fun _ => ?_) fun _ => ?_
 ·refine zhk (ready_ok a hrun.target hrun.left.2.1 hrun.right.2.1) ?_
  rintro v ⟨m, rfl⟩
  refine zhk (run6_ok hv2 hrun.left hrun.right hrun.target hR.alph hrun.into hrun.from_) fun v4 h4 => zhj ?_
  exact h4.1
 refine has_ite (fun _ => ?_) fun _ => ?_
 ·refine zhk (ready_ok a hrun.target hrun.left.2.1 hrun.right.2.1) ?_
  rintro v ⟨m, rfl⟩
  refine zhk (run7_ok hv2 hrun.left hrun.right hrun.target hR.alph hrun.into hrun.from_) fun v4 h4 => zhj ?_
  exact h4.1
 ·refine zhk (lawTurned_ok hR) fun v7 h7 => ?_
  refine zhk (ready_ok a h7.target h7.left.2.1 h7.right.2.1) ?_
  rintro v ⟨m, rfl⟩
  refine zhk (run7_ok (by rw [List.length_reverse]; exact hv2) h7.left h7.right h7.target hR.alph h7.into h7.from_) fun v9 h9 => ?_
  have h91 := h9.2.1
  exact makes_l1 h9 80000 0 _ (Nat.zero_le _) (by omega) rfl fun w hw => by have := h9.2.2 w hw; omega
theorem Apply_ok (a : Alph) (r : Rul) (w : List UInt8) : Has (rule_Apply 80000 a r w) fun _ => True := by
 unfold rule_Apply
 refine zhk (makes_ok a r w) fun v1 hv => ?_
 refine has_ite (fun _ => zhj trivial) fun h0 => ?_
 have := hv (by simpa using h0)
 exact has_at (i := 0) (by omega) fun _ _ => zhj trivial
theorem lawCheck_U (a : Alph) (l : List Rul) : Has (law_Check 80000 a l) fun e => e = 0 -> chkA a = true /\ l.length <= 64 := by
 unfold law_Check
 rw [show zcw 80000 ((a.1, a.2.1, ()) : Alph) = some (if chkA a then 0 else 7) from featCheck_val a, Option.bind_some]
 refine has_ite (fun h => zhj fun q => by rw [q] at h; cases h) fun h => ?_
 have ha : chkA a = true := by
  cases hq : chkA a with
  | true => rfl
  | false => rw [hq] at h; cases h
 refine has_dec (fun _ => zhj fun q => nomatch q) fun hl => ?_
 have main : ∀ n (i : Nat), i <= l.length -> l.length - i < n -> Has (zd1 80000 l a n (i : Int)) fun e => e = 0 -> chkA a = true /\ l.length <= 64 := by
  intro n
  induction n with
  | zero => intro i _ h; omega
  | succ n ih =>
   intro i h1 h2
   unfold zd1 law_Check_b1
   refine has_dec (fun hlt => ?_) fun _ => zhj fun _ => ⟨ha, by omega⟩
   refine has_at (by omega) fun x hx => ?_
   refine zhk (has_tot (ruleCheck_tot ..)) fun v _ => ?_
   refine has_ite (fun hv => zhj fun q => by rw [q] at hv; cases hv) fun _ => ?_
   rw [zhf (by omega)]
   exact ih (i + 1) (by omega) (by omega)
 exact main 80000 0 (Nat.zero_le _) (by omega)
theorem asked_ok (a : Alph) (w : List UInt8) (l : List Rul) : Has (law_asked 80000 a w l) fun e => e = 0 -> l.length <= 64 := by
 unfold law_asked
 refine zhk (lawCheck_U a l) fun v1 h1 => ?_
 refine has_ite (fun h => zhj fun q => by rw [q] at h; cases h) fun h0 => ?_
 have := h1 (by simpa using h0)
 exact zhk (worded_ok a this.1 w) fun v2 _ => zhj fun _ => this.2
theorem behind_l1 (a : Alph) {l : List Rul} (hl : l.length <= 64) : ∀ n (i : Nat) (w : List UInt8) (st : List (Int × List UInt8 × List UInt8 × Unit)), i <= l.length -> l.length - i < n -> st.length <= i -> Has (law_behind_l1 80000 l a n w (i : Int) st) fun _ => True := by
 have hbl := zhl
 intro n
 induction n with
 | zero => intro i _ _ _ h; omega
 | succ n ih =>
  intro i w st h1 h2 h3
  unfold law_behind_l1 law_behind_b1
  refine has_dec (fun hlt => ?_) fun _ => zhj trivial
  refine has_at (by omega) fun x _ => ?_
  refine zhk (Apply_ok ..) fun v1 _ => ?_
  refine has_ite (fun _ => zhj trivial) fun _ => ?_
  unfold law_behind_j1
  rw [zhf (by omega)]
  refine has_ite (fun _ => ?_) fun _ => ih (i + 1) _ _ (by omega) (by omega) (by omega)
  refine has_chk (by simp only [List.length_cons, List.length_nil]; omega) ?_
  exact ih (i + 1) _ _ (by omega) (by omega) (by simp only [List.length_append, List.length_cons, List.length_nil]; omega)
theorem lawApply_ok (a : Alph) (l : List Rul) (w : List UInt8) : Has (zg4 80000 a l w) fun v => v.2 = 0 -> l = [] -> v.1 = w := by
 unfold zg4 law_behind
 refine zhk (asked_ok a w l) fun v1 h1 => ?_
 refine has_ite (fun h => zhj fun q => by rw [show v1 = 0 from q] at h; cases h) fun h0 => ?_
 have hl := h1 (by simpa using h0)
 cases l with
 | nil => exact zhj fun _ _ => rfl
 | cons x l => exact zhk (behind_l1 a hl 80000 0 w [] (Nat.zero_le _) (by omega) (Nat.zero_le _)) fun v2 _ => zhj fun _ q => nomatch q
def la (a : Alph) (l : List Rul) (w : List UInt8) : List UInt8 × Int := (zg4 80000 a l w).getD ([], 0)
theorem la_val (a : Alph) (l : List Rul) (w : List UInt8) : zg4 80000 a l w = some (la a l w) := by
 obtain ⟨v, e, _⟩ := lawApply_ok a l w
 unfold la
 rw [e]
 rfl
theorem la_nil (a : Alph) (w : List UInt8) (h : (la a [] w).2 = 0) : (la a [] w).1 = w := by
 obtain ⟨v, e, hv⟩ := lawApply_ok a [] w
 rw [la_val] at e
 cases e
 exact hv h rfl
end Go.Ev
namespace Go.Ev
set_option linter.unusedVariables false
def ch (p : Nat -> Nat) (x : Nat) : List Nat := x :: (if h : 0 < x /\ p x < x then ch p (p x) else [])
termination_by x
decreasing_by exact h.2
variable {p : Nat -> Nat}
theorem ch_zero : ch p 0 = [0] := by rw [ch, dif_neg (by omega)]
theorem ch_step {x : Nat} (h : 0 < x) (hp : p x < x) : ch p x = x :: ch p (p x) := by rw [ch, dif_pos ⟨h, hp⟩]
theorem ch_le : ∀ (x : Nat) {w : Nat}, w ∈ ch p x -> w <= x := by
 intro x
 induction x using Nat.strongRecOn with
 | _ x ih =>
  intro w h
  rw [ch] at h
  rcases List.mem_cons.1 h with rfl | h
  ·exact Nat.le_refl _
  ·split at h
   ·rename_i hc
    exact Nat.le_trans (ih _ hc.2 h) (Nat.le_of_lt hc.2)
   ·cases h
end Go.Ev
namespace Go.Ev
open Go
set_option linter.unusedVariables false
abbrev Br : Type := List UInt8 × Int × List Rul × Unit
abbrev Fam : Type := Alph × List Br × Unit
structure Shp (l : List Br) : Prop where
 pos : 1 <= l.length
 le : l.length <= 32
 root : ∀ h : 0 < l.length, (l[0]'h).2.1 = -1
 parent : ∀ i (h : i < l.length), 0 < i -> 0 <= (l[i]'h).2.1 /\ (l[i]'h).2.1 < (i : Int)
 name : ∀ i (h : i < l.length), (l[i]'h).1.length <= 32 /\ ∀ j, j < (l[i]'h).1.length -> gb (l[i]'h).1 j ≠ 10
theorem shaped_l1 (l : List Br) (hl : l.length <= 32) : ∀ n i m, i <= l.length -> l.length - i < n -> ∃ b, zc6 80000 l n (i : Int) m = some b /\
  (b = true -> ∀ j (h : j < l.length), i <= j -> ((l[j]'h).1.length <= 32 /\ ∀ q, q < (l[j]'h).1.length -> gb (l[j]'h).1 q ≠ 10) /\ (0 < j -> 0 <= (l[j]'h).2.1 /\ (l[j]'h).2.1 < (j : Int))) := by
 intro n
 induction n with
 | zero => intro i m _ h; omega
 | succ n ih =>
  intro i m h1 h2
  unfold zc6 family_shaped_b1
  by_cases hlt : i < l.length
  ·rw [if_pos (by simp only [decide_eq_true_eq]; omega), at_lt hlt]
   simp only [Option.bind_some]
   have j5f : ∀ t, t = true -> ∃ b, zc3 (zc6 80000 l n) (i : Int) m (l[i]'hlt) t = some b /\ b = false := by
    intro t ht
    subst ht
    exact ⟨false, rfl, rfl⟩
   have rej : ∀ t, t = true -> ∃ b, zc3 (zc6 80000 l n) (i : Int) m (l[i]'hlt) t = some b /\
     (b = true -> ∀ j (h : j < l.length), i <= j -> ((l[j]'h).1.length <= 32 /\ ∀ q, q < (l[j]'h).1.length -> gb (l[j]'h).1 q ≠ 10) /\ (0 < j -> 0 <= (l[j]'h).2.1 /\ (l[j]'h).2.1 < (j : Int))) := by
    intro t ht
    obtain ⟨b, e1, e2⟩ := j5f t ht
    exact ⟨b, e1, fun q => by rw [e2] at q; cases q⟩
   split
   ·exact rej true rfl
   ·obtain ⟨v, hv, hv2⟩ := named_tot (l[i]'hlt).1
    rw [hv]
    simp only [Option.bind_some]
    unfold zc5
    cases v with
    | false => exact rej true rfl
    | true =>
     rw [if_neg (by simp)]
     have good : ((0 < i -> 0 <= (l[i]'hlt).2.1 /\ (l[i]'hlt).2.1 < (i : Int))) -> ∀ t, t = false -> ∃ b, zc3 (zc6 80000 l n) (i : Int) m (l[i]'hlt) t = some b /\
       (b = true -> ∀ j (h : j < l.length), i <= j -> ((l[j]'h).1.length <= 32 /\ ∀ q, q < (l[j]'h).1.length -> gb (l[j]'h).1 q ≠ 10) /\ (0 < j -> 0 <= (l[j]'h).2.1 /\ (l[j]'h).2.1 < (j : Int))) := by
      intro hpar t ht
      subst ht
      unfold zc3
      rw [if_neg (by simp), zhf (by omega)]
      obtain ⟨b, hb, hb2⟩ := ih (i + 1) (mset (eqEl .str) m (l[i]'hlt).1 ()) (by omega) (by omega)
      refine ⟨b, hb, fun q j hj hij => ?_⟩
      by_cases hji : j = i
      ·subst hji
       exact ⟨hv2 rfl, hpar⟩
      ·exact hb2 q j hj (by omega)
     by_cases hi : 0 < i
     ·rw [if_pos (by simp only [decide_eq_true_eq]; omega)]
      unfold family_shaped_j7 zc4
      by_cases hc : (decide ((l[i]'hlt).2.1 < 0) || decide ((i : Int) <= (l[i]'hlt).2.1)) = true
      ·exact rej _ hc
      ·refine good (fun _ => ?_) _ (Bool.eq_false_iff.2 hc)
       simp only [Bool.or_eq_true, decide_eq_true_eq] at hc
       omega
     ·rw [if_neg (by simp only [decide_eq_true_eq]; omega)]
      unfold zc4
      exact good (fun h => absurd h hi) false rfl
  ·rw [if_neg (by simp only [decide_eq_true_eq]; omega)]
   exact ⟨true, rfl, fun _ j h hij => by omega⟩
theorem shaped_tot (l : List Br) : ∃ b, zda 80000 l = some b /\ (b = true -> Shp l) := by
 unfold zda
 have rej : ∃ b, zc9 80000 l true = some b /\ (b = true -> Shp l) := ⟨false, rfl, fun q => by cases q⟩
 by_cases hc : (((l.length : Int) == 0) || decide ((32 : Int) < (l.length : Int))) = true
 ·rw [hc]; exact rej
 ·rw [Bool.eq_false_iff.2 hc]
  simp only [Bool.or_eq_true, beq_iff_eq, decide_eq_true_eq] at hc
  have h1 : 1 <= l.length := by omega
  have h2 : l.length <= 32 := by omega
  unfold zc9
  rw [if_neg (by simp), show (0 : Int) = ((0 : Nat) : Int) from rfl, at_lt (by omega)]
  simp only [Option.bind_some]
  unfold zc8
  by_cases hr : ((l[0]'(by omega)).2.1 != -1) = true
  ·rw [hr]; exact ⟨false, rfl, fun q => by cases q⟩
  ·rw [Bool.eq_false_iff.2 hr, if_neg (by simp), show (0 : Int) = ((0 : Nat) : Int) from rfl, at_lt (by omega)]
   simp only [Option.bind_some]
   unfold zc7
   split
   ·exact ⟨false, rfl, fun q => by cases q⟩
   ·obtain ⟨b, hb, hb2⟩ := shaped_l1 l h2 80000 0 [] (Nat.zero_le _) (by omega)
    refine ⟨b, hb, fun q => ⟨h1, h2, fun _ => by simpa using hr, fun i h hi => (hb2 q i h (Nat.zero_le _)).2 hi, fun i h => (hb2 q i h (Nat.zero_le _)).1⟩⟩
theorem famCheck_tot (f : Fam) : ∃ e, zd3 80000 f = some e /\ (e = 0 -> Shp f.2.1) := by
 unfold zd3
 obtain ⟨e, he, _⟩ := zhi (f.1.1, f.1.2.1, ())
 rw [he]
 simp only [Option.bind_some]
 by_cases h : (e != 0) = true
 ·rw [if_pos h]
  exact ⟨e, rfl, fun q => by rw [q] at h; cases h⟩
 ·rw [if_neg h]
  obtain ⟨b, hb, hb2⟩ := shaped_tot f.2.1
  rw [hb]
  simp only [Option.bind_some]
  cases b with
  | false => exact ⟨270, rfl, fun q => by cases q⟩
  | true =>
   rw [if_neg (by simp)]
   have hs := hb2 rfl
   have hle := hs.le
   obtain ⟨e2, he2⟩ : Tot (zd2 80000 f 80000 0) := by
    refine tot_loop0 (L := zd2 80000 f) (len := f.2.1.length) (by omega) ?_ 80000 0 (Nat.zero_le _) (by omega)
    intro n i hi go
    unfold zd2 family_Check_b1
    exact tot_dec (fun hlt => zhh (tot_at (by omega)) fun x _ => zhh (lawCheck_tot _ _) fun _ _ => tot_ite (fun _ => zhg _) fun _ => go (by omega)) fun _ => zhg _
   exact ⟨e2, he2, fun _ => hs⟩
def inR (f : Fam) (x : Int) : Bool := decide (0 <= x) && decide (x < (f.2.1.length : Int))
theorem asked_l1 (f : Fam) (ts : List Int) (ht : ts.length <= 10) : ∀ n i, i <= ts.length -> ts.length - i < n -> zd4 ts f n (i : Int) = some (if (ts.drop i).all (inR f) then 0 else 8) := by
 intro n
 induction n with
 | zero => intro i _ h; omega
 | succ n ih =>
  intro i h1 h2
  unfold zd4 family_asked_b1
  by_cases hlt : i < ts.length
  ·rw [if_pos (by simp only [decide_eq_true_eq]; omega), at_lt hlt, List.drop_eq_getElem_cons hlt, List.all_cons]
   simp only [Option.bind_some]
   unfold family_asked_j1
   by_cases hc : (decide ((ts[i]'hlt) < 0) || decide ((f.2.1.length : Int) <= (ts[i]'hlt))) = true
   ·rw [if_pos hc]
    have : inR f (ts[i]'hlt) = false := by
     unfold inR
     simp only [Bool.or_eq_true, decide_eq_true_eq] at hc
     rw [Bool.eq_false_iff]
     intro q
     simp only [Bool.and_eq_true, decide_eq_true_eq] at q
     omega
    rw [this]
    rfl
   ·rw [if_neg hc, zhf (by omega), ih (i + 1) (by omega) (by omega)]
    have : inR f (ts[i]'hlt) = true := by
     unfold inR
     simp only [Bool.or_eq_true, decide_eq_true_eq] at hc
     simp only [Bool.and_eq_true, decide_eq_true_eq]
     omega
    rw [this, Bool.true_and]
  ·rw [if_neg (by simp only [decide_eq_true_eq]; omega), List.drop_eq_nil_of_le (by omega)]
   rfl
theorem asked_val {f : Fam} {e : Int} (he : zd3 80000 f = some e) (ts : List Int) (ht : ts.length <= 10) : zd5 80000 f ts = some (if e ≠ 0 then e else if ts.all (inR f) then 0 else 8) := by
 unfold zd5
 have he' : zd3 80000 ((f.1.1, f.1.2.1, ()), f.2.1, ()) = some e := he
 rw [he']
 simp only [Option.bind_some]
 by_cases h : e = 0
 ·rw [if_neg (by simp [h]), if_neg (by simp [h])]
  have := asked_l1 f ts ht 80000 0 (Nat.zero_le _) (by omega)
  rw [List.drop_zero] at this
  exact this
 ·rw [if_pos (by simpa using h), if_pos h]
def par (l : List Br) (i : Nat) : Nat := ((l[i]?).elim 0 fun b => b.2.1.toNat)
theorem par_lt {l : List Br} (h : Shp l) : ∀ i, 0 < i -> par l i < i := by
 intro i hi
 unfold par
 by_cases hl : i < l.length
 ·have := h.parent i hl hi
  rw [List.getElem?_eq_getElem hl]
  simp only [Option.elim_some]
  omega
 ·rw [List.getElem?_eq_none (by omega)]
  exact hi
theorem par_val {l : List Br} (h : Shp l) {i : Nat} (hl : i < l.length) (hi : 0 < i) : (l[i]'hl).2.1 = (par l i : Int) := by
 have := h.parent i hl hi
 unfold par
 rw [List.getElem?_eq_getElem hl]
 simp only [Option.elim_some]
 omega
def ups (p : Nat -> Nat) (x : Nat) : List Nat := (ch p x).reverse
def ints (l : List Nat) : List Int := l.map Int.ofNat
theorem ints_len (l : List Nat) : (ints l).length = l.length := List.length_map _
theorem ints_snoc (l : List Nat) (t : Nat) : ints l ++ [(t : Int)] = ints (l ++ [t]) := by simp [ints]
theorem path_l1 {f : Fam} (h : Shp f.2.1) : ∀ n t (out : List Nat), t < f.2.1.length -> t + 1 < n -> out.length + t <= 1000 -> zd9 f n (t : Int) (ints out) = some (ints ((out ++ ch (par f.2.1) t).reverse)) := by
 intro n
 induction n with
 | zero => intro t out _ h; omega
 | succ n ih =>
  intro t out h1 h2 h3
  unfold zd9 family_path_b1
  rw [if_pos (by simp), chk_of (by unfold lim; rw [ints_len]; simp; omega), at_lt h1]
  simp only [Option.bind_some]
  rw [ints_snoc]
  rcases Nat.eq_zero_or_pos t with rfl | ht
  ·rw [h.root h1, ch_zero]
   obtain ⟨n, rfl⟩ : ∃ m, n = m + 1 := ⟨n - 1, by omega⟩
   unfold zd9 family_path_b1
   rw [if_neg (by simp)]
   unfold ints
   rw [List.map_reverse]
  ·have hp := par_lt h t ht
   rw [par_val h h1 ht, ih (par f.2.1 t) (out ++ [t]) (by omega) (by omega) (by simp; omega), ch_step ht hp]
   simp
theorem path_ok {f : Fam} (h : Shp f.2.1) {t : Nat} (ht : t < f.2.1.length) : family_path 80000 f (t : Int) = some (ints (ups (par f.2.1) t)) := by
 have hl := h.le
 unfold family_path
 have := path_l1 h 80000 t [] ht (by omega) (by simp; omega)
 rw [List.nil_append] at this
 exact this
end Go.Ev
namespace Go.Ev
open Go
set_option linter.unusedVariables false
/-! A word of any length is read to its end. -/
theorem each_any {s : List UInt8} (hs : s.length <= 65536) : ∀ n p (t : List yT58), p <= s.length -> s.length - p < n -> t.length <= p -> Has (zed 80000 s n p t) fun v => v.length <= 65536 := by
 have hlb := lim_big
 intro n
 induction n with
 | zero => intro p t _ h; omega
 | succ n ih =>
  intro p t hp hn ht
  unfold zed runes_each_i1_b1
  refine has_dec (fun h => ?_) fun _ => zhj (by omega)
  have hg := g_size s p h
  have j1 : ∀ a b, Has (zec 80000 s p t (zed 80000 s n) a b) fun v => v.length <= 65536 := by
   intro a b
   unfold zec zeb
   refine zhk (Q := fun v => v.1 = true /\ v.2.length = t.length + 1) (has_chk (by simp only [List.length_cons, List.length_nil]; omega) (zhj ⟨rfl, by simp⟩)) ?_
   rintro v ⟨h1, h2⟩
   rw [h1]
   refine has_ite (fun q => nomatch q) fun _ => ?_
   exact ih (p + widthAt s p) v.2 (by rw [widthAt_g]; omega) (by rw [widthAt_g]; omega) (by rw [widthAt_g]; omega)
  refine zhk (has_tot (RuneLen_tot 80000 (runeAt s p))) fun l _ => ?_
  split
  ·rw [sub_suf (by omega), Option.bind_some]
   unfold utf8_DecodeRuneInString
   rw [Option.bind_some]
   split
   ·exact j1 _ _
   ·exact j1 _ _
  ·exact j1 _ _
theorem pieces_any {s : List UInt8} (hs : s.length <= 65536) : Has (runes_Pieces 80000 s) fun v => v.1.length <= 65536 := by
 unfold runes_Pieces runes_long
 rw [if_neg (by simp only [decide_eq_true_eq]; omega), Option.bind_some]
 refine has_ite (fun _ => zhj (Nat.zero_le _)) fun _ => ?_
 unfold runes_each_i1
 exact zhk (each_any hs 80000 0 [] (Nat.zero_le _) (by omega) (Nat.zero_le _)) fun v hv => zhj hv
theorem read_any {v : List yT58 × Int} (hv : v.1.length <= 65536) (m : Option yT72) : ∀ n (i : Nat) (out : List Int), i <= v.1.length -> v.1.length - i < n -> out.length <= i -> Has (word_read_l1 v m n (i : Int) out) fun _ => True := by
 have hlb := lim_big
 intro n
 induction n with
 | zero => intro i out _ h; omega
 | succ n ih =>
  intro i out hi hn ho
  unfold word_read_l1 word_read_b1
  refine has_dec (fun h => ?_) fun _ => zhj trivial
  refine has_at (by omega) fun x _ => ?_
  refine has_ite (fun _ => zhj trivial) fun _ => ?_
  refine has_ite (fun _ => zhj trivial) fun _ => ?_
  refine has_ite (fun _ => zhj trivial) fun _ => ?_
  refine has_chk (by simp only [List.length_cons, List.length_nil]; omega) ?_
  rw [zhf (by omega)]
  exact ih (i + 1) _ (by omega) (by omega) (by simp only [List.length_append, List.length_cons, List.length_nil]; omega)
theorem wordCheck_ok (a : Alph) (w : List UInt8) : Has (zeg 80000 a w) fun _ => True := by
 unfold zeg word_Letters word_ranks
 refine zhk (Q := fun _ => True) ?_ fun _ _ => zhj trivial
 rw [show zcw 80000 ((a.1, a.2.1, ()) : Alph) = some (if chkA a then 0 else 7) from featCheck_val a, Option.bind_some]
 have rd : ∀ m, Has (word_read 80000 m w) fun _ => True := by
  intro m
  have j1 : ∀ s : List UInt8, s.length <= 65536 -> Has (word_read_j1 80000 m s) fun _ => True := by
   intro s hs
   unfold word_read_j1
   refine zhk (pieces_any hs) fun v hv => ?_
   refine has_ite (fun _ => zhj trivial) fun _ => ?_
   exact read_any hv m 80000 0 [] (Nat.zero_le _) (by omega) (Nat.zero_le _)
  unfold word_read
  refine has_dec (fun h => ?_) fun h => j1 w (by omega)
  obtain ⟨s, e, hs⟩ := sub_mid (s := w) (a := 0) (b := 65536) (Nat.zero_le _) (by omega)
  rw [show (0 : Int) = ((0 : Nat) : Int) from rfl, show (65536 : Int) = ((65536 : Nat) : Int) from rfl, e, Option.bind_some]
  exact j1 s (by omega)
 cases hc : chkA a with
 | false =>
  refine zhk (Q := fun v => v.2 ≠ 0) (has_ite (fun _ => zhj (by decide)) fun q => nomatch q) fun v hv => ?_
  refine has_ite (fun _ => zhj trivial) fun q => ?_
  simp at q
  exact absurd q hv
 | true =>
  have hl := chkA_len hc
  refine zhk (Q := fun _ => True) (has_ite (fun _ => zhj trivial) fun _ => ?_) fun v _ => ?_
  ·obtain ⟨m, hm, hS⟩ := ranks_l1 (a.1, a.2.1, ()) hl.2.2 80000 0 [] (Nat.zero_le _) (by show a.2.1.length - 0 < 80000; omega) (fun r hr => by simp [mget] at hr)
   exact ⟨_, hm, trivial⟩
  refine has_ite (fun _ => zhj trivial) fun _ => ?_
  exact zhk (rd _) fun _ _ => zhj trivial
/-! The first of a family's languages has no laws. -/
theorem shaped_laws {l : List Br} (h : zda 80000 l = some true) (hp : 0 < l.length) : (l[0]'hp).2.2.1 = [] := by
 refine Classical.byContradiction fun hne => ?_
 have : Has (zda 80000 l) fun b => b = false := by
  unfold zda zc9
  refine has_ite (fun _ => ?_) fun _ => ?_
  ·unfold zc8 zc7
   rw [if_pos rfl, if_pos rfl]
   exact zhj rfl
  ·refine has_at (i := 0) hp fun x3 _ => ?_
   unfold zc8 zc7
   refine has_ite (fun _ => ?_) fun _ => ?_
   ·rw [if_pos rfl]
    exact zhj rfl
   ·refine has_at (i := 0) hp fun x2 hx => ?_
    refine has_dec (fun _ => zhj rfl) fun q => ?_
    rw [hx] at hne
    have := List.length_pos_iff.2 hne
    omega
 obtain ⟨b, e, hb⟩ := this
 rw [h] at e
 cases e
 cases hb
theorem famCheck_laws {f : Fam} (h : zd3 80000 f = some 0) (hp : 0 < f.2.1.length) : (f.2.1[0]'hp).2.2.1 = [] := by
 unfold zd3 at h
 obtain ⟨e, he, _⟩ := zhi (f.1.1, f.1.2.1, ())
 rw [he, Option.bind_some] at h
 split at h
 ·rename_i q
  cases h
  cases q
 obtain ⟨b, hb, _⟩ := shaped_tot f.2.1
 rw [hb, Option.bind_some] at h
 cases b with
 | true => exact shaped_laws hb hp
 | false => cases h
/-! The table. -/
def lawsOf (f : Fam) (i : Nat) : List Rul := ((f.2.1[i]?).elim [] fun b => b.2.2.1)
theorem lawsOf_eq {f : Fam} {i : Nat} (h : i < f.2.1.length) : lawsOf f i = (f.2.1[i]'h).2.2.1 := by
 unfold lawsOf
 rw [List.getElem?_eq_getElem h]
 rfl
abbrev al (f : Fam) : Alph := (f.1.1, f.1.2.1, ())
def Tb (f : Fam) (w : List UInt8) (l : List (List UInt8)) (j : Nat) : Prop := la (al f) (lawsOf f j) (if j = 0 then w else l.getD (par f.2.1 j) []) = (l.getD j [], 0)
theorem getD_setT {l : List (List UInt8)} {i j : Nat} {v : List UInt8} (hi : i < l.length) : (l.set i v).getD j [] = if i = j then v else l.getD j [] := by
 rw [List.getD_eq_getElem?_getD, List.getElem?_set, List.getD_eq_getElem?_getD]
 by_cases e : i = j
 ·rw [if_pos e, if_pos e, if_pos hi]; rfl
 ·rw [if_neg e, if_neg e]
theorem table_l1 {f : Fam} (h : Shp f.2.1) (w : List UInt8) : ∀ n (i : Nat) (t : List (List UInt8)), i <= f.2.1.length -> f.2.1.length - i < n -> t.length = f.2.1.length -> (∀ j, j < i -> Tb f w t j) ->
  Has (zg6 80000 f w n (i : Int) t) fun v => (v.2 ≠ 0 -> v.1 = []) /\ (v.2 = 0 -> v.1.length = f.2.1.length /\ ∀ j, j < f.2.1.length -> Tb f w v.1 j) := by
 have hle := h.le
 intro n
 induction n with
 | zero => intro i t _ h; omega
 | succ n ih =>
  intro i t h1 h2 h3 h4
  unfold zg6 family_Table_b1
  refine has_dec (fun hlt => ?_) fun hnl => ?_
  ·have hi : i < f.2.1.length := by omega
   refine has_at hi fun x hx => ?_
   have go : ∀ from1, (from1 = if i = 0 then w else t.getD (par f.2.1 i) []) -> Has (zg5 80000 f x t (i : Int) (zg6 80000 f w n) from1) fun v => (v.2 ≠ 0 -> v.1 = []) /\ (v.2 = 0 -> v.1.length = f.2.1.length /\ ∀ j, j < f.2.1.length -> Tb f w v.1 j) := by
    intro from1 hf
    unfold zg5
    rw [show zg4 80000 ((f.1.1, f.1.2.1, ()) : Alph) x.2.2.1 from1 = some (la (al f) x.2.2.1 from1) from la_val _ _ _, Option.bind_some]
    refine has_ite (fun he => zhj ⟨fun _ => rfl, fun q => ?_⟩) fun he => ?_
    ·rw [show (la (al f) x.2.2.1 from1).2 = 0 from q] at he
     cases he
    ·refine has_at (by omega) fun _ _ => ?_
     have he0 : (la (al f) x.2.2.1 from1).2 = 0 := by simpa using he
     rw [zhf (by omega), Int.toNat_natCast]
     refine ih (i + 1) _ hi (by omega) (by rw [List.length_set]; exact h3) fun j hj => ?_
     have hit : i < t.length := by omega
     unfold Tb
     rw [getD_setT hit, getD_setT hit]
     by_cases e : i = j
     ·subst e
      rw [if_pos rfl, lawsOf_eq hi, hx]
      by_cases h0 : i = 0
      ·rw [if_pos h0]
       rw [if_pos h0] at hf
       rw [<- hf, <- he0]
      ·have hpl := par_lt h i (by omega)
       rw [if_neg h0, if_neg (by omega)]
       rw [if_neg h0] at hf
       rw [<- hf, <- he0]
     ·rw [if_neg e]
      have hT := h4 j (by omega)
      unfold Tb at hT
      by_cases h0 : j = 0
      ·rw [if_pos h0]
       rw [if_pos h0] at hT
       exact hT
      ·have hpl := par_lt h j (by omega)
       rw [if_neg h0, if_neg (by omega)]
       rw [if_neg h0] at hT
       exact hT
   refine has_dec (fun hpos => ?_) fun hz => go w (by rw [if_pos (by omega)])
   have hpv := par_val h hi (by omega)
   have hpl := par_lt h i (by omega)
   rw [hx] at hpv
   rw [hpv]
   refine has_at (by omega) fun y hy => go y ?_
   rw [if_neg (by omega), List.getD_eq_getElem?_getD, List.getElem?_eq_getElem (by omega), hy]
   rfl
  ·refine zhj ⟨fun q => absurd rfl q, fun _ => ⟨h3, fun j hj => h4 j (by omega)⟩⟩
theorem table_ok (f : Fam) (w : List UInt8) : Has (family_Table 80000 f w) fun v => (v.2 ≠ 0 -> v.1 = []) /\ (v.2 = 0 -> zd3 80000 f = some 0 /\ zeg 80000 (al f) w = some 0 /\ Shp f.2.1 /\ v.1.length = f.2.1.length /\ ∀ j, j < f.2.1.length -> Tb f w v.1 j) := by
 have hbl := big_lim
 obtain ⟨e, he, hs⟩ := famCheck_tot f
 have ha := asked_val he [] (by simp)
 unfold family_Table
 rw [show zd5 80000 (((f.1.1, f.1.2.1, ()), f.2.1, ()) : Fam) [] = _ from ha, Option.bind_some]
 by_cases h0 : e = 0
 ·subst h0
  have hS := hs rfl
  have hle := hS.le
  rw [if_neg (by simp)]
  obtain ⟨v2, e2, _⟩ := wordCheck_ok (al f) w
  rw [show zeg 80000 ((f.1.1, f.1.2.1, ()) : Alph) w = some v2 from e2, Option.bind_some]
  refine has_ite (fun hv => zhj ⟨fun _ => rfl, fun q => by rw [show v2 = 0 from q] at hv; cases hv⟩) fun hv => ?_
  have hv0 : v2 = 0 := by simpa using hv
  refine has_chk ⟨by omega, by omega, by omega⟩ ?_
  rw [Int.toNat_natCast]
  refine has_mono (table_l1 hS w 80000 0 _ (Nat.zero_le _) (by omega) (by simp) (fun j hj => by omega)) fun v hv => ⟨hv.1, fun q => ⟨he, ?_, hS, hv.2 q⟩⟩
  rw [hv0]
 ·rw [if_pos h0]
  refine has_ite (fun _ => zhj ⟨fun _ => rfl, fun q => absurd q h0⟩) fun q => ?_
  simp at q
  exact absurd q h0
/-! Down a path. -/
def dn (f : Fam) : List Nat -> List UInt8 -> List UInt8 × Int
 | [], w => (w, 0)
 | x :: xs, w => if (la (al f) (lawsOf f x) w).2 = 0 then dn f xs (la (al f) (lawsOf f x) w).1 else ([], (la (al f) (lawsOf f x) w).2)
theorem dn_app {f : Fam} {ys : List Nat} : ∀ {xs : List Nat} {w v : List UInt8}, dn f xs w = (v, 0) -> dn f (xs ++ ys) w = dn f ys v
 | [], w, v, h => by
  have : w = v := congrArg Prod.fst h
  rw [this]; rfl
 | x :: xs, w, v, h => by
  unfold dn at h
  rw [List.cons_append, dn]
  split at h
  ·rename_i q
   rw [if_pos q]
   exact dn_app h
  ·rename_i q
   exact absurd (congrArg Prod.snd h) q
theorem down_l1 {f : Fam} {v3 : List Nat} (hv : v3.length <= 1000) (hm : ∀ x ∈ v3, x < f.2.1.length) : ∀ n (i : Nat) (w : List UInt8), i <= v3.length -> v3.length - i < n -> zg7 80000 (ints v3) f n w (i : Int) = some (dn f (v3.drop i) w) := by
 have hil := ints_len v3
 intro n
 induction n with
 | zero => intro i w _ h; omega
 | succ n ih =>
  intro i w h1 h2
  unfold zg7 family_Down_b1
  by_cases hlt : i < v3.length
  ·have hx := hm _ (List.getElem_mem hlt)
   have e1 : at? (ints v3) (i : Int) = some ((v3[i]'hlt : Nat) : Int) := by
    rw [at_lt (by omega)]
    unfold ints
    rw [List.getElem_map]
    rfl
   rw [if_pos (by simp only [decide_eq_true_eq]; omega), e1, Option.bind_some, at_lt hx, Option.bind_some, List.drop_eq_getElem_cons hlt, dn, <- lawsOf_eq hx]
   rw [show zg4 80000 ((f.1.1, f.1.2.1, ()) : Alph) (lawsOf f (v3[i]'hlt)) w = some (la (al f) (lawsOf f (v3[i]'hlt)) w) from la_val _ _ _, Option.bind_some]
   by_cases h0 : (la (al f) (lawsOf f (v3[i]'hlt)) w).2 = 0
   ·rw [if_neg (by rw [h0]; simp), if_pos h0, zhf (by omega)]
    exact ih (i + 1) _ hlt (by omega)
   ·rw [if_pos (by simpa using h0), if_neg h0]
  ·rw [if_neg (by simp only [decide_eq_true_eq]; omega), List.drop_of_length_le (by omega)]
   rfl
theorem dn_ups {f : Fam} (h : Shp f.2.1) {w : List UInt8} {l : List (List UInt8)} (hT : ∀ j, j < f.2.1.length -> Tb f w l j) : ∀ t, t < f.2.1.length -> dn f (ups (par f.2.1) t) w = (l.getD t [], 0) := by
 intro t
 induction t using Nat.strongRecOn with
 | _ t ih =>
  intro ht
  have hTt := hT t ht
  unfold Tb at hTt
  by_cases h0 : t = 0
  ·subst h0
   rw [if_pos rfl] at hTt
   have : ups (par f.2.1) 0 = [0] := by unfold ups; rw [ch_zero]; rfl
   rw [this, dn, hTt]
   rfl
  ·have hpl := par_lt h t (by omega)
   rw [if_neg h0] at hTt
   have : ups (par f.2.1) t = ups (par f.2.1) (par f.2.1 t) ++ [t] := by
    unfold ups
    rw [ch_step (by omega) hpl, List.reverse_cons]
   rw [this, dn_app (ih _ hpl (by omega)), dn, hTt]
   rfl
theorem ups_len {f : Fam} (h : Shp f.2.1) : ∀ t, (ups (par f.2.1) t).length <= t + 1 := by
 intro t
 induction t using Nat.strongRecOn with
 | _ t ih =>
  by_cases h0 : t = 0
  ·subst h0
   unfold ups
   rw [ch_zero]
   exact Nat.le_refl _
  ·have hpl := par_lt h t (by omega)
   have := ih _ hpl
   unfold ups at this ⊢
   rw [ch_step (by omega) hpl, List.reverse_cons, List.length_append]
   simp only [List.length_cons, List.length_nil]
   omega
theorem down_ok {f : Fam} (hc : zd3 80000 f = some 0) (h : Shp f.2.1) {w : List UInt8} (hw : zeg 80000 (al f) w = some 0) {l : List (List UInt8)} (hT : ∀ j, j < f.2.1.length -> Tb f w l j) {t : Nat} (ht : t < f.2.1.length) :
  family_Down 80000 f (t : Int) w = some (l.getD t [], 0) := by
 have hle := h.le
 unfold family_Down
 have ha : zd5 80000 f [(t : Int)] = some 0 := by
  rw [asked_val hc [(t : Int)] (by simp), if_neg (by simp), if_pos]
  simp only [List.all_cons, List.all_nil, Bool.and_true, inR, Bool.and_eq_true, decide_eq_true_eq]
  omega
 rw [show zd5 80000 (((f.1.1, f.1.2.1, ()), f.2.1, ()) : Fam) [(t : Int)] = some 0 from ha, Option.bind_some, if_neg (by simp)]
 rw [show zeg 80000 ((f.1.1, f.1.2.1, ()) : Alph) w = some 0 from hw, Option.bind_some, if_neg (by simp)]
 rw [show family_path 80000 (((f.1.1, f.1.2.1, ()), f.2.1, ()) : Fam) (t : Int) = some (ints (ups (par f.2.1) t)) from path_ok h ht, Option.bind_some]
 have hl := ups_len h t
 have := down_l1 (f := f) (v3 := ups (par f.2.1) t) (by omega) (fun x hx => by unfold ups at hx; have := ch_le t (List.mem_reverse.1 hx); omega) 80000 0 w (Nat.zero_le _) (by omega)
 rw [show zg7 80000 (ints (ups (par f.2.1) t)) f 80000 w (0 : Int) = _ from this, List.drop_zero, dn_ups h hT t ht]
/-! The law. -/
theorem awake_steps : l27_awake 80000 = some true := by decide +kernel
theorem large_steps (f : Fam) : Tot (l27_large 80000 f) := by
 have : ∀ (n i : Nat) (c : Int), i <= 40 -> 40 - i < n -> Tot (l27_large_l1 f n c (i : Int)) := by
  intro n
  induction n with
  | zero => intro i c _ h; omega
  | succ n ih =>
   intro i c h1 h2
   unfold l27_large_l1 l27_large_b1 l27_large_j1
   refine tot_ite (fun h => ?_) fun _ => zhg _
   simp only [Bool.and_eq_true, decide_eq_true_eq] at h
   refine zhh (tot_at (by omega)) fun x _ => ?_
   unfold l27_large_j2
   rw [zhf (by omega)]
   exact tot_ite (fun _ => ih (i + 1) _ (by omega) (by omega)) fun _ => ih (i + 1) _ (by omega) (by omega)
 exact this 80000 0 0 (by omega) (by omega)
theorem steps_l1 {f : Fam} (hc : zd3 80000 f = some 0) (h : Shp f.2.1) {w : List UInt8} (hw : zeg 80000 (al f) w = some 0) {v3 : List (List UInt8) × Int} (hl : v3.1.length = f.2.1.length) (hT : ∀ j, j < f.2.1.length -> Tb f w v3.1 j) :
  ∀ n (i : Nat), 1 <= i -> i <= f.2.1.length -> f.2.1.length - i < n -> Has (zg9 80000 v3 f w n (i : Int)) fun b => b = true := by
 have hle := h.le
 intro n
 induction n with
 | zero => intro i _ _ h; omega
 | succ n ih =>
  intro i h0 h1 h2
  unfold zg9 l27_FamilySteps_b1
  refine has_dec (fun hlt => ?_) fun _ => zhj rfl
  have hi : i < f.2.1.length := by omega
  refine has_at hi fun x1 hx1 => ?_
  have hpv := par_val h hi (by omega)
  have hpl := par_lt h i (by omega)
  rw [hx1] at hpv
  unfold l27_FamilySteps_j3
  refine has_ite (fun q => ?_) fun _ => ?_
  ·simp only [Bool.or_eq_true, decide_eq_true_eq] at q
   omega
  refine has_at hi fun x2 hx2 => ?_
  rw [hpv]
  refine has_at (by omega) fun x3 hx3 => ?_
  have hTi := hT i hi
  unfold Tb at hTi
  rw [if_neg (by omega), lawsOf_eq hi, hx2] at hTi
  have hg3 : v3.1.getD (par f.2.1 i) [] = x3 := by
   rw [List.getD_eq_getElem?_getD, List.getElem?_eq_getElem (by omega), hx3]
   rfl
  rw [hg3] at hTi
  rw [show zg4 80000 ((f.1.1, f.1.2.1, ()) : Alph) x2.2.2.1 x3 = some (la (al f) x2.2.2.1 x3) from la_val _ _ _, Option.bind_some, hTi]
  rw [show family_Down 80000 (((f.1.1, f.1.2.1, ()), f.2.1, ()) : Fam) (i : Int) w = some (v3.1.getD i [], 0) from down_ok hc h hw hT hi, Option.bind_some]
  refine has_ite (fun q => nomatch q) fun _ => ?_
  refine has_at (by omega) fun x4 hx4 => ?_
  have hg4 : v3.1.getD i [] = x4 := by
   rw [List.getD_eq_getElem?_getD, List.getElem?_eq_getElem (by omega), hx4]
   rfl
  rw [hg4]
  unfold zg8 l27_FamilySteps_j5 l27_FamilySteps_j6
  refine has_ite (fun q => ?_) fun _ => ?_
  ·simp at q
  rw [zhf (by omega)]
  exact ih (i + 1) (by omega) hi (by omega)
theorem FamilySteps_true (f : Fam) (w : List UInt8) : zhb 80000 f w = some true := by
 have : Has (zhb 80000 f w) fun b => b = true := by
  unfold zhb
  rw [awake_steps, Option.bind_some]
  refine has_ite (fun q => nomatch q) fun _ => ?_
  refine zhk (has_tot (large_steps f)) fun b _ => ?_
  refine has_ite (fun _ => zhj rfl) fun _ => ?_
  refine zhk (table_ok f w) fun v3 h3 => ?_
  refine has_ite (fun he => zhj ?_) fun he => ?_
  ·have : v3.1 = [] := h3.1 (by simpa using he)
   rw [this]
   rfl
  ·obtain ⟨hc, hw, hS, hl, hT⟩ := h3.2 (by simpa using he)
   have hpos := hS.pos
   have hle := hS.le
   unfold l27_FamilySteps_j1
   refine has_ite (fun q => ?_) fun _ => ?_
   ·simp only [Bool.or_eq_true, bne_iff_ne, ne_eq, beq_iff_eq] at q
    omega
   refine has_at (i := 0) (by omega) fun x5 hx5 => ?_
   have hT0 := hT 0 (by omega)
   unfold Tb at hT0
   rw [if_pos rfl, lawsOf_eq (by omega), famCheck_laws hc (by omega)] at hT0
   have e0 := la_nil (al f) w (by rw [hT0])
   rw [hT0] at e0
   have hx : x5 = w := by
    rw [<- e0, <- hx5, List.getD_eq_getElem?_getD, List.getElem?_eq_getElem (by omega)]
    rfl
   unfold zha
   refine has_ite (fun q => ?_) fun _ => ?_
   ·rw [hx] at q
    simp at q
   exact steps_l1 hc hS hw hl hT 80000 1 (Nat.le_refl _) (by omega) (by omega)
 obtain ⟨b, e, hb⟩ := this
 rw [e, hb]
end Go.Ev
namespace Go.Ev
open Go
def K_FamilySteps : Nat := 80000
theorem FamilySteps_true' (x0 : Fam) (x1 : List UInt8) : zhb K_FamilySteps x0 x1 = some true := FamilySteps_true x0 x1
end Go.Ev
namespace Go.Ev
open Go Go.RowKit Go.WideShapes
variable [Dr]
def wfEl : (t : Ty) -> t.el -> Prop
 | .int k, n => (Lit.int k n).wf = true
 | .str, s => List.length (α := UInt8) s <= maxLen
 | .sl t, xs => List.length (α := t.el) xs <= maxLen /\ ∀ x ∈ (show List t.el from xs), wfEl t x
 | .pair a b, x => wfEl a x.1 /\ wfEl b x.2
 | .arr n t, xs => List.length (α := t.el) xs = n /\ ∀ x ∈ (show List t.el from xs), wfEl t x
 | _, _ => True
def argOK : Ty -> Bool
 | .int _ => true
 | .bool => true
 | .str => true
 | .sl t => argOK t
 | .unit => true
 | .pair a b => argOK a && argOK b
 | .arr _ t => argOK t
 | _ => false
theorem cells?_facts {w : World} {a : Addr} {n : Nat} {c : List Value} (h : w.cells? 0 a n = some c) : c.length = n /\ ∀ j v, c[j]? = some v -> w.cell? (a.add j) = some v := by
 unfold World.cells? at h
 rw [if_pos (Nat.zero_le _)] at h
 have hl : c.length = n := by simpa using mapM_some_length h
 refine ⟨hl, fun j v hj => ?_⟩
 have hlt : j < n := by rw [<- hl]; exact (List.getElem?_eq_some_iff.1 hj).1
 have := mapM_some_get h j j (by simp [hlt])
 rw [this, hj]
theorem repL_snoc {α : Type} {f : List Value -> α -> Prop} : ∀ {xs : List α} {cs c : List Value} {x : α}, repL f cs xs -> f c x -> repL f (cs ++ c) (xs ++ [x])
 | [], cs, c, x, h, hx => by cases h; exact ⟨c, [], by simp, hx, rfl⟩
 | y :: ys, cs, c, x, ⟨c1, c2, e, h1, h2⟩, hx => ⟨c1, c2 ++ c, by simp [e], h1, repL_snoc h2 hx⟩
theorem list_snoc {α : Type} {p : α -> Prop} {xs : List α} {y : α} (h : ∀ x ∈ xs, p x) (hy : p y) : ∀ x ∈ xs ++ [y], p x := by
 intro x hx
 rcases List.mem_append.1 hx with hx | hx
 ·exact h x hx
 ·simp at hx; subst hx; exact hy
theorem fields_rep {H : Type} {enc : TypeId × Value -> H} {P : Program} {w : World} {spare : Nat -> Bool} {held : Bool} {d n : Nat}
  (ih : ∀ (t : TypeId) (u : Ty), tyOf P d t = some u -> argOK u = true -> ∀ (cs : List Value) (x : DataW H × List MemPlace), DataW.trod enc P w 0 spare held n t cs = some x -> ∃ y : u.el, rep w (fun _ => False) u cs y /\ wfEl u y) :
  ∀ (fs : List Field) (off : Nat) (u : Ty), fieldsOf (tyOf P d) off fs = some u -> argOK u = true -> ∀ (cs : List Value), cs.length = off + u.cells -> (∀ f ∈ fs, ∃ x, DataW.trod enc P w 0 spare held n f.type ((cs.drop f.offset).take (P.cellsOf f.type)) = some x) ->
   ∃ y : u.el, rep w (fun _ => False) u (cs.drop off) y /\ wfEl u y
 | [], off, u, h, _, cs, hl, _ => by
  simp only [fieldsOf, Option.some.injEq] at h
  subst h
  refine ⟨(), ?_, trivial⟩
  show cs.drop off = []
  exact List.drop_eq_nil_of_le (by rw [hl]; exact Nat.le_refl _)
 | fd :: fs, off, u, h, ha, cs, hl, hall => by
  unfold fieldsOf at h
  cases hb : Nat.beq fd.offset off with
  | false => rw [hb] at h; cases h
  | true =>
   have hoff := Nat.eq_of_beq_eq_true hb
   rw [hb, cond_true] at h
   split at h
   ·rename_i a hta
    split at h
    ·rename_i b hfs
     cases h
     simp only [argOK, Bool.and_eq_true] at ha
     obtain ⟨x, hx⟩ := hall fd List.mem_cons_self
     obtain ⟨y, h1, h2⟩ := ih fd.type a hta ha.1 _ x hx
     have hl' : cs.length = (off + a.cells) + b.cells := by rw [hl]; show off + (a.cells + b.cells) = _; omega
     obtain ⟨z, h3, h4⟩ := fields_rep ih fs (off + a.cells) b hfs ha.2 cs hl' fun f hf => hall f (List.mem_cons_of_mem _ hf)
     refine ⟨(y, z), ⟨(cs.drop off).take a.cells, cs.drop (off + a.cells), ?_, ?_, h3⟩, h2, h4⟩
     ·rw [<- List.drop_drop, List.take_append_drop]
     ·rw [hoff, cells_of hta] at h1; exact h1
    ·cases h
   ·cases h
theorem trod_rep {H : Type} {enc : TypeId × Value -> H} {P : Program} {w : World} {spare : Nat -> Bool} {held : Bool} : ∀ (d : Nat) (t : TypeId) (u : Ty), tyOf P d t = some u -> argOK u = true -> ∀ (fuel : Nat) (cs : List Value) (x : DataW H × List MemPlace),
  DataW.trod enc P w 0 spare held fuel t cs = some x -> ∃ y : u.el, rep w (fun _ => False) u cs y /\ wfEl u y
 | 0, _, _, h => by cases h
 | d + 1, t, u, h => by
  intro ha fuel cs x hx
  unfold tyOf at h
  split at h
  ·rename_i i k hi hu
   cases hb : Nat.beq i.size 1 <;> rw [hb] at h <;> cases h
   obtain ⟨n, rfl, _, hw⟩ := DataW.trod_int hu hx
   exact ⟨n, rfl, hw⟩
  ·rename_i i hi hu
   cases hb : Nat.beq i.size 1 <;> rw [hb] at h <;> cases h
   obtain ⟨b, rfl, _⟩ := DataW.trod_bool hu hx
   exact ⟨b, rfl, trivial⟩
  ·rename_i i hi hu
   cases hb : Nat.beq i.size 1 <;> rw [hb] at h <;> cases h
   obtain ⟨s, rfl, _, hw⟩ := DataW.trod_string hu hx
   have hl : List.length s.data.toList <= maxLen := by rw [Array.length_toList]; exact hw
   exact ⟨s.data.toList, ⟨rfl, hl⟩, hl⟩
  ·rename_i i e hi hu
   cases hb : Nat.beq i.size 1 <;> rw [hb] at h
   ·cases h
   rw [cond_true] at h
   split at h
   case h_2 => cases h
   rename_i v hv
   cases h
   rcases DataW.trod_slice hu hx with ⟨rfl, _⟩ | ⟨a, len, cap, elems, rest, n, _, rfl, _, _, hlc, hcap, hel, hall, _⟩
   ·exact ⟨[], ⟨none, 0, [], rfl, Nat.le_refl _, by decide, fun _ => rfl, rfl, fun j u hj => by simp at hj⟩, Nat.zero_le _, fun x hx => by cases hx⟩
   ·have key : ∀ k, k <= len -> ∃ (ys : List v.el) (cells : List Value), ys.length = k /\ repL (rep w (fun _ => False) v) cells ys /\ (∀ y ∈ ys, wfEl v y) /\ cells.length = k * v.cells /\ ∀ j u, cells[j]? = some u -> w.cell? (a.add j) = some u := by
     intro k
     induction k with
     | zero => intro _; exact ⟨[], [], rfl, rfl, (fun y hy => by cases hy), by simp, fun j u hj => by simp at hj⟩
     | succ k ihk =>
      intro hk
      obtain ⟨ys, cells, h1, h2, h3, h4, h5⟩ := ihk (by omega)
      have hk' := hall k (by omega)
      have : ∃ z, elems[k]? = some z := ⟨_, List.getElem?_eq_getElem (by omega)⟩
      obtain ⟨z, hz⟩ := this
      rw [hz, Option.bind_eq_some_iff] at hk'
      obtain ⟨c, hc, htr⟩ := hk'
      obtain ⟨c1, c2⟩ := cells?_facts hc
      obtain ⟨y, r1, r2⟩ := trod_rep d e v hv ha n c z htr
      rw [cells_of hv] at c1 c2
      refine ⟨ys ++ [y], cells ++ c, by simp [h1], repL_snoc h2 r1, list_snoc h3 r2, by rw [List.length_append, h4, c1, Nat.succ_mul], fun j u hj => ?_⟩
      by_cases hlt : j < cells.length
      ·rw [List.getElem?_append_left hlt] at hj; exact h5 j u hj
      ·rw [List.getElem?_append_right (by omega)] at hj
       have := c2 _ u hj
       rw [add_add, h4] at this
       rw [h4] at hlt
       rwa [show k * v.cells + (j - k * v.cells) = j by omega] at this
    obtain ⟨ys, cells, h1, h2, h3, h4, h5⟩ := key len (Nat.le_refl _)
    refine ⟨ys, ⟨some a, cap, cells, by rw [h1], by rw [h1]; exact hlc, hcap, (fun hn : some a = none => by cases hn), h2, fun j u hj => ⟨a, rfl, h5 j u hj, fun h => h⟩⟩, by rw [h1]; exact Nat.le_trans hlc hcap, h3⟩
  ·rename_i i fs hi hu
   split at h
   case h_2 => cases h
   rename_i v hv
   cases hb : Nat.beq i.size v.cells <;> rw [hb] at h <;> cases h
   obtain ⟨xs, n, _, _, hl, hlen, hall⟩ := DataW.trod_struct hu hx
   have hcl : cs.length = u.cells := by
    rw [hl]
    simp [Program.cellsOf, hi, Nat.eq_of_beq_eq_true hb]
   have := fields_rep (n := n) (fun t' u' ht' ha' cs' x' hx' => trod_rep d t' u' ht' ha' n cs' x' hx') fs.toList 0 u hv ha cs (by rw [hcl, Nat.zero_add]) (by
    intro f hf
    obtain ⟨j, hj, e⟩ := List.getElem_of_mem hf
    have hj' : j < fs.size := by simpa using hj
    have := hall j f (by rw [Array.getElem?_eq_getElem hj', <- e]; simp)
    rw [this]
    exact ⟨_, List.getElem?_eq_getElem (by omega)⟩)
   rw [List.drop_zero] at this
   exact this
  ·rename_i i ms hi hu
   cases hb : Nat.beq i.size 1 <;> rw [hb] at h <;> cases h
   cases ha
  ·rename_i i n e hi hu
   split at h
   case h_2 => cases h
   rename_i v hv
   cases hb : Nat.beq i.size (n * v.cells) <;> rw [hb] at h <;> cases h
   obtain ⟨xs, m, _, _, hl, hlen, hall⟩ := DataW.trod_array hu hx
   have hcl : cs.length = n * v.cells := by
    rw [hl]
    simp [Program.cellsOf, hi, Nat.eq_of_beq_eq_true hb]
   have key : ∀ k, k <= n -> ∃ ys : List v.el, ys.length = k /\ repL (rep w (fun _ => False) v) (cs.take (k * v.cells)) ys /\ ∀ y ∈ ys, wfEl v y := by
    intro k
    induction k with
    | zero => intro _; exact ⟨[], rfl, by simp [repL], fun y hy => by cases hy⟩
    | succ k ihk =>
     intro hk
     obtain ⟨ys, h1, h2, h3⟩ := ihk (by omega)
     have hk' := hall k (by omega)
     obtain ⟨z, hz⟩ : ∃ z, xs[k]? = some z := ⟨_, List.getElem?_eq_getElem (by omega)⟩
     rw [hz] at hk'
     obtain ⟨y, r1, r2⟩ := trod_rep d e v hv ha m _ z hk'
     rw [cells_of hv] at r1
     refine ⟨ys ++ [y], by simp [h1], ?_, list_snoc h3 r2⟩
     have e1 : cs.take ((k + 1) * v.cells) = cs.take (k * v.cells) ++ (cs.drop (k * v.cells)).take v.cells := by
      rw [Nat.succ_mul, List.take_add]
     rw [e1]
     exact repL_snoc h2 r1
   obtain ⟨ys, h1, h2, h3⟩ := key n (Nat.le_refl _)
   rw [List.take_of_length_le (by omega)] at h2
   exact ⟨ys, ⟨h1, h2⟩, h1, h3⟩
  ·rename_i i k e hi hu
   cases hb : Nat.beq i.size 1 <;> rw [hb] at h
   ·cases h
   rw [cond_true] at h
   split at h
   ·cases h; cases ha
   ·cases h
  ·rename_i i a b c hi hu
   cases hb : Nat.beq i.size 1 <;> rw [hb] at h <;> cases h
   cases ha
  ·rename_i i e hi hu
   cases hb : Nat.beq i.size 1 <;> rw [hb] at h <;> cases h
   cases ha
  ·cases h
theorem open_arg {H : Type} {enc : TypeId × Value -> H} {P : Program} {w : World} {spare : Nat -> Bool} {held : Bool} {r : Reach} {b0 : Nat} {t : TypeId} {u : Ty} (ht : ty P t = some u) (ha : argOK u = true) {v : Value} {d : DataW H} {ps : List MemPlace}
  (hval : Value.okWide P w r b0 t v) (hd : DataW.Trod enc P w 0 spare held t v d ps) : ∃ x : u.el, repV w (fun _ => False) v u x /\ wfEl u x := by
 obtain ⟨fuel, hf⟩ := hd
 obtain ⟨x, h1, h2⟩ := trod_rep dep t u ht ha fuel _ _ hf
 refine ⟨x, ?_, h2⟩
 obtain ⟨i, hi, hsz, hfacts⟩ := zav ht
 cases hag : u.agg with
 | true =>
  have : ∃ cs, v = .agg cs := by
   have hs : (∃ fs, P.underlying t = some (.struct fs)) \/ ∃ n e, P.underlying t = some (.array n e) := by
    cases u with
    | unit => obtain ⟨fs, _, h, _⟩ := hfacts; exact .inl ⟨fs, h⟩
    | pair a b => obtain ⟨fs, _, h, _⟩ := hfacts; exact .inl ⟨fs, h⟩
    | arr n t => obtain ⟨e, _, h, _⟩ := hfacts; exact .inr ⟨n, e, h⟩
    | _ => cases hag
   unfold Value.okWide at hval
   rcases hs with ⟨fs, h⟩ | ⟨n, e, h⟩
   ·rw [h] at hval; obtain ⟨cs, e, _⟩ := hval; exact ⟨cs, e⟩
   ·rw [h] at hval; obtain ⟨cs, e, _⟩ := hval; exact ⟨cs, e⟩
  obtain ⟨cs, rfl⟩ := this
  exact (za4 hag).2 ⟨cs.toList, by simp, h1⟩
 | false =>
  refine (za3 hag).2 ?_
  have hv : v.cells.toList = [v] := by
   cases u with
   | int k => obtain ⟨n, rfl⟩ := okWide_int hfacts hval; rfl
   | bool => obtain ⟨n, rfl⟩ := okWide_bool hfacts hval; rfl
   | str => obtain ⟨n, rfl⟩ := okWide_string hfacts hval; rfl
   | sl e => obtain ⟨e', _, hs, _⟩ := hfacts; obtain ⟨a, l, c, rfl⟩ := okWide_slice hs hval; rfl
   | unit => cases hag
   | pair a b => cases hag
   | arr n t => cases hag
   | _ => cases ha
  rw [hv] at h1
  exact h1
end Go.Ev
