/- Regions that draw the order of their first operations, calls among them, and then go on in one order. -/
import Derived.Test.YtciikbiapmbocaaDoorEvW
namespace Go.Ev
open Go Go.RowKit

section
variable {P : Program} {ops : Array Oper} {md : Region.Mode} {C : World → Prop}

/-- Of the first n operations, whichever comes up, f of them; then L. -/
def headAny (P : Program) (md : Region.Mode) (ops : Array Oper) (C : World → Prop) (n : Nat) (L : Array Bool → Act → Prop) : Nat → Array Bool → Act → Prop
  | 0, done, a => L done a
  | f + 1, done, a => Region.ready md ops done ≠ [] ∧ ∀ i, i ∈ Region.ready md ops done → i < n ∧ qOp P ops C i (headAny P md ops C n L f (done.setIfInBounds i true)) a

theorem headAny_run {n g : Nat} {L : Array Bool → Act → Prop} {Q' : Exit → Act → World → Prop} (hL : ∀ done a w, C w → L done a → wpAny P md ops Q' g done a w) :
    ∀ (f : Nat) (done : Array Bool) (a : Act) (w : World), C w → headAny P md ops C n L f done a → wpAny P md ops Q' (f + g) done a w := by
  intro f
  induction f with
  | zero => intro done a w hw h; rw [Nat.zero_add]; exact hL _ _ _ hw h
  | succ f ih =>
    intro done a w hw h
    rw [Nat.succ_add]
    exact ⟨fun h0 => absurd h0 h.1, fun i hi => wpOp_of_qOp hw (fun a' w' hw' h' => ih _ a' w' hw' h') (h.2 i hi).2⟩

/-- One that may come up and is quiet is taken first. -/
theorem headAny_take {n i : Nat} {o : Oper} {v : Value} {L : Array Bool → Act → Prop} (hi : ops[i]? = some o) (hsel : ∀ (j : Nat) (o : Oper) cs b, ops[j]? = some o → o.op ≠ .select cs b)
    (hs : Region.sinkB md ops n = true) (hc : Region.chainB md ops n = true) (hn : n < ops.size) (hin : i < n) (hL : ∀ done a, L done a → ∀ j, j ∈ Region.ready md ops done → n ≤ j) :
    ∀ (f : Nat) (done : Array Bool) (a : Act), HeadInv md ops n done →
      (∀ j oj, ops[j]? = some oj → j ≠ i → done.getD j true = false → (∀ e ∈ oj.after, Region.binds md e = true → e.on ≠ i) → o.apart ops oj = true) →
      i ∈ Region.ready md ops done → YieldsIn P ops C o v a → headAny P md ops C n L f (done.setIfInBounds i true) (a.put o.dst v) → headAny P md ops C n L (f + 1) done a := by
  intro f
  induction f with
  | zero =>
    intro done a inv _ hr hy H
    have hun := (mem_ready.1 hr).1
    refine ⟨fun h0 => (by rw [h0] at hr; cases hr), fun j hj => ?_⟩
    have hjn : j < n := Nat.lt_of_not_le fun h => tail_waits hs hc hn inv _ i rfl hin hun j h hj
    refine ⟨hjn, ?_⟩
    by_cases e : j = i
    · subst e; exact hy.qOp hi H
    · exact absurd (hL _ _ H j (ready_mono hj e)) (Nat.not_le_of_lt hjn)
  | succ f ih =>
    intro done a inv hfree hr hy H
    have hun := (mem_ready.1 hr).1
    refine ⟨fun h0 => (by rw [h0] at hr; cases hr), fun j hj => ?_⟩
    have hjn : j < n := Nat.lt_of_not_le fun h => tail_waits hs hc hn inv _ i rfl hin hun j h hj
    refine ⟨hjn, ?_⟩
    by_cases e : j = i
    · subst e; exact hy.qOp hi H
    obtain ⟨hjun, oj, hoj, hall⟩ := mem_ready.1 hj
    have hap := hfree j oj hoj e hjun fun d hd hb hq => by
      have h1 := hall d hd hb
      rw [hq, getD_both hun] at h1
      cases h1
    refine qOp_mono (fun a' h3 => ih (done.setIfInBounds j true) a' (inv.set hj hjn) (fun k ok hk hki hku hno => hfree k ok hk hki ?_ hno) (ready_mono hr (Ne.symm e)) h3.1 ?_)
      (qOp_put hoj hap (fun cs b => hsel i o cs b hi) (fun cs b => hsel j oj cs b hoj) hy (H.2 j (ready_mono hj e)).2)
    · by_cases q : j = k
      · subst q; exact hjun
      · rwa [getD_set_ne true q] at hku
    · rw [Array.setIfInBounds_comm _ _ e]; exact h3.2

theorem headAny_lex {n g : Nat} {Lq : Act → Prop} (hsel : Region.noSelect ops = true) (hs : Region.sinkB md ops n = true) (hc : Region.chainB md ops n = true) (hn : n < ops.size) :
    ∀ (l : List Oper) (k : Nat) (done : Array Bool) (a : Act), (∀ j, j < l.length → l[j]? = ops[k + j]?) → k + l.length = n → HeadInv md ops n done → Region.lexHead md ops g l.length k done = true →
      wpQuiet P ops C Lq l a → headAny P md ops C n (fun d a' => Region.seqB md ops g n d = true ∧ Lq a') l.length done a := by
  intro l
  induction l with
  | nil =>
    intro k done a _ hk _ hB h
    obtain rfl : k = n := hk
    exact ⟨hB, h⟩
  | cons o l ih =>
    intro k done a hl hk inv hB h
    have h0 : ops[k]? = some o := (hl 0 (Nat.succ_pos _)).symm
    obtain ⟨hB1, hB2⟩ := Bool.and_eq_true_iff.1 hB
    obtain ⟨hr, hf⟩ := Bool.and_eq_true_iff.1 hB1
    have hkn : k < n := by rw [← hk]; simp
    have hr' : k ∈ Region.ready md ops done := by simpa using hr
    obtain ⟨v, hy, hK⟩ := yieldsIn_of_qOp (K := wpQuiet P ops C Lq l) h0 (by unfold qOp; rw [h0]; exact h)
    refine headAny_take h0 (Region.noSelect_spec hsel) hs hc hn hkn (fun d a' hL => seqB_ready hL.1) l.length done a inv (Region.free_spec h0 hf) hr' hy ?_
    refine ih (k + 1) _ _ (fun j hj => ?_) (by rw [← hk]; simp only [List.length_cons]; omega) (inv.set hr' hkn) hB2 hK
    have := hl (j + 1) (Nat.succ_lt_succ hj)
    rw [Nat.add_assoc, Nat.add_comm 1 j]
    exact this

theorem wp_region_quiet_tail {id : Nat} {Q : Exit → Act → World → Prop} {a : Act} {w : World} {l : List Oper} (n : Nat) (hm : P.follows .mixedOrders = true) (hB : Region.lexTailB .any l.toArray n = true) (hC : C { w with drawn := w.drawn + 1 })
    (h : wpQuiet P l.toArray C (fun a' => ∀ w', C w' → wpList P l.toArray Q (l.drop n) a' w') (l.take n) a) : (Code.region id l.toArray true).wp P Q a w := by
  simp only [Region.lexTailB, Bool.and_eq_true, decide_eq_true_eq] at hB
  obtain ⟨⟨⟨⟨hsel, hn⟩, hs⟩, hc⟩, hlex⟩ := hB
  have hn' : n < l.length := by simpa using hn
  have ht : (l.take n).length = n := List.length_take_of_le (Nat.le_of_lt hn')
  have inv0 : HeadInv .any l.toArray n (Array.replicate l.toArray.size false) :=
    ⟨by simp, fun j oj _ hl => (by rw [getD_replicate_false] at hl; cases hl), fun t _ ht => getD_in (by simpa using ht) (getD_replicate_false _ _)⟩
  have H := headAny_lex (C := C) (md := .any) (g := l.toArray.size - n) hsel hs hc hn (l.take n) 0 _ a
    (fun j hj => by rw [ht] at hj; simp [hj]) (by rw [ht, Nat.zero_add]) inv0 (by rw [ht]; exact hlex) h
  have hd : (l.drop n).length = l.toArray.size - n := by simp
  have R := headAny_run (Q' := Q) (g := l.toArray.size - n) (fun done a' w' hw' hL => by
    have := wpAny_of_seq (md := .any) (Q' := Q) (l.drop n) n done a' w' (fun j => by simp [List.getElem?_drop]) (by rw [hd]; exact hL.1) (hL.2 w' hw')
    rwa [hd] at this) _ _ _ _ hC H
  rw [ht, show n + (l.toArray.size - n) = l.toArray.size by omega] at R
  exact wp_region_any hm R
end

variable {cx : Cx} {st st' : St} {Q : Post} {E : Env}
/-- A region that draws the order of its first n operations alone, calls among them. -/
theorem W_tailQ {id : Nat} {l : List Oper} (hE : EnvOK E cx) (n : Nat) (ks bs rs : List Nat) {orc : List TV} {ob : List Prop} (hm : cx.P.follows .mixedOrders = true) (hB : Region.lexTailB .any l.toArray n = true)
    (hev : evDK E l.toArray (l.take n) st orc ks bs rs = some (st', [], ob)) (hob : allP ob) (h : WL cx l.toArray Q (l.drop n) st') : W cx Q (.region id l.toArray true) st := by
  intro T w hR
  obtain ⟨s, h1, h2⟩ := evDK_some hev
  refine wp_region_quiet_tail (C := Ext w) n hm hB (Ext.refl w).drew ?_
  exact evD_sound hE hR h1 hob fun T' hT w' he => h _ _ ((hT.norm h2).ext he)

variable {ops : Array Oper} {l : List Oper}
theorem WD_nil (h : N cx Q .normal st) : WD cx ops Q [] st := fun T _ hR w' he => h T w' (hR.ext he)
theorem WDK_nil {K : World → Act → Prop} (h : ND cx K st) : WDK cx ops K [] st := fun T w hR => h T w hR
theorem WDK_join {α : Type} {K0 : World → Act → Prop} (F : α → Prop) (S : α → St) (n : Nat) (hy : ∀ a, F a → WDK cx ops K0 (l.drop n) (S a))
    (hx : ∀ K, (∀ a, F a → ND cx K (S a)) → WDK cx ops K (l.take n) st) : WDK cx ops K0 l st := by
  intro T w hR
  have := wpQuiet_append (P := cx.P) (ops := ops) (l1 := l.take n) (l2 := l.drop n)
    (hx (fun w => wpQuiet cx.P ops (Ext w) (K0 w) (l.drop n)) (fun a ha T w hR => hy a ha T w hR) T w hR)
  rwa [List.take_append_drop] at this
end Go.Ev
