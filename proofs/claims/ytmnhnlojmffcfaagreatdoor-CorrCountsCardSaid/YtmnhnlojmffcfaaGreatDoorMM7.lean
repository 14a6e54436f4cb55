/- slices.SortedFunc over maps.Keys: a contract for calls by the evaluator. -/
import Derived.Test.YtmnhnlojmffcfaaGreatDoorMM6
import Derived.Test.YtmnhnlojmffcfaaGreatDoorCtCs
import Derived.Lib.QuietBelow
import Derived.Test.YtmnhnlojmffcfaaGreatDoorMM4
import Derived.Lib.DecodeN
set_option linter.unusedSectionVars false
set_option linter.unusedVariables false
set_option linter.unusedSimpArgs false
namespace Go.Ev
open Go Go.Proofs Go.RowKit Go.Sort
set_option maxRecDepth 100000
set_option maxHeartbeats 1000000
abbrev tyP : Ty := .pair (.int .i32) (.pair (.int .i32) .unit)
theorem rep_pair {w : World} {M : Nat -> Prop} {cs : List Value} {x : Int × Int × Unit} : rep w M tyP cs x ↔ cs = [.int .i32 x.1, .int .i32 x.2.1] := by
 constructor
 ·rintro ⟨c1, c2, rfl, h1, c3, c4, rfl, h2, h3⟩
  have h1 : c1 = [.int .i32 x.1] := h1
  have h2 : c3 = [.int .i32 x.2.1] := h2
  have h3 : c4 = [] := h3
  rw [h1, h2, h3]; rfl
 ·rintro rfl
  exact ⟨[_], [_], rfl, rfl, [_], [], rfl, rfl, rfl⟩
theorem repV_pair {w : World} {M : Nat -> Prop} {v : Value} {x : Int × Int × Unit} : repV w M v tyP x ↔ v = encP x := by
 show (∃ cs : List Value, v = .agg cs.toArray /\ rep w M tyP cs x) ↔ _
 constructor
 ·rintro ⟨cs, rfl, h⟩
  rw [rep_pair.1 h]; rfl
 ·rintro rfl
  exact ⟨_, rfl, rep_pair.2 rfl⟩
theorem repM_keys {w : World} {M : Nat -> Prop} {fv : Value -> Int -> Prop} : ∀ {es : List MapEntry} {ps : List ((Int × Int × Unit) × Int)}, repM (repV' w M tyP) fv es ps -> es.map (·.key) = (ps.map (·.1)).map encP
 | [], [], _ => rfl
 | [], _ :: _, h => h.elim
 | _ :: _, [], h => h.elim
 | e :: es, p :: ps, ⟨h1, _, h3⟩ => by
  rw [List.map_cons, List.map_cons, List.map_cons, repM_keys h3, repV_pair.1 h1]
theorem two_args {n : Nat} {vs : List Value} {u v : Value} (h1 : vs.length = 2) (h : (vs.toArray ++ Array.replicate (n - vs.toArray.size) undef)[0]? = some u) (h' : (vs.toArray ++ Array.replicate (n - vs.toArray.size) undef)[1]? = some v) : vs = [u, v] := by
 match vs, h1 with
 | [a, b], _ =>
  rw [Array.getElem?_append_left (by simp)] at h h'
  simp at h h'
  rw [h, h']
theorem repL_ce {w : World} {M : Nat -> Prop} : ∀ l : List (Int × Int × Unit), repL (rep w M tyP) (l.flatMap ce) l
 | [] => rfl
 | x :: l => ⟨ce x, l.flatMap ce, rfl, rep_pair.2 rfl, repL_ce l⟩
def zfq (k : Nat) : FnB (List ((Int × Int × Unit) × Int) × List (Int × Int)) (List (Int × Int × Unit)) where
 n := 12
 S := fun z => ⟨[(0, .clos 40 [12]), (1, .clos 25 [14, 15])],
  [(12, .cells [.iter 13] 60), (13, .mp tyP (.int .i64) z.1), (14, .cells [.iter 13] 60), (15, .cells [.iter 16] 61), (16, .mp (.int .i32) (.int .i64) z.2)], []⟩
 S' := fun z y => ⟨[], [(12, .cells [.iter 13] 60), (13, .mp tyP (.int .i64) z.1), (14, .cells [.iter 13] 60), (15, .cells [.iter 16] 61), (16, .mp (.int .i32) (.int .i64) z.2)], [(17, ⟨41, tyP, y⟩)]⟩
 rs := fun _ _ => [.row 17]
 rel := fun z y => zcu k z.1 z.2 = some y
theorem box1 {cx : Cx} {m : Nat -> Value} {st : St} {T : Array Value} {w : World} (h : Rm cx m st T w) {b r e : Nat} (hb : (b, BX.cells [.iter r] e) ∈ st.bx) : ∃ g, m b = .pointer (some ⟨g, 0, none⟩) /\ w.heap[g]? = some (.cells #[m r] e (0, 0)) := by
 obtain ⟨g, e1, _, cells, e3, e4⟩ := h.box hb
 match hc : cells.toList, e4 with
 | [v], ⟨h1, _⟩ =>
  have h1 : v = m r := h1
  have : cells = #[v] := Array.ext' (by rw [hc])
  exact ⟨g, e1, by rw [e3, this, h1]⟩
theorem boxM {cx : Cx} {m : Nat -> Value} {st : St} {T : Array Value} {w : World} (h : Rm cx m st T w) {b : Nat} {k v : Ty} {ps : List (k.el × v.el)} (hb : (b, BX.mp k v ps) ∈ st.bx) :
  ∃ g es clock, m b = .map (some g) /\ w.heap[g]? = some (.map es clock) /\ (∀ e ∈ es.toList, e.born < clock) /\ (es.toList.map (·.born)).Nodup /\ repM (repV' w (Mut cx m st.ids) k) (repV' w (Mut cx m st.ids) v) es.toList ps := by
 obtain ⟨g, e1, _, es, clock, e3, e4, e5, e6⟩ := h.box hb
 exact ⟨g, es, clock, e1, e3, e4, e5, e6⟩
theorem b_sortedPairs (k : Nat) : BC Tryz.prog Gn 23 (zfq k) where
 enters := enters_of Tryz.func23 (by kernel_rfl) rfl
 calls := by
  rintro cx hP hn hG z y hr vs w hlen ⟨m, hm⟩
  obtain ⟨v0, hv0, hs0⟩ := hm.slots 0 (.clos 40 [12]) List.mem_cons_self
  obtain ⟨v1, hv1, hs1⟩ := hm.slots 1 (.clos 25 [14, 15]) (List.mem_cons_of_mem _ List.mem_cons_self)
  have hvs := two_args (n := 12) hlen hv0 hv1
  subst hvs
  have hs0 : v0 = .func (.func 40) #[] #[m 12] := hs0
  have hs1 : v1 = .func (.func 25) #[] #[m 14, m 15] := hs1
  obtain ⟨g12, e12, h12⟩ := box1 hm (b := 12) (r := 13) (e := 60) (by simp [zfq])
  obtain ⟨g14, e14, h14⟩ := box1 hm (b := 14) (r := 13) (e := 60) (by simp [zfq])
  obtain ⟨g15, e15, h15⟩ := box1 hm (b := 15) (r := 16) (e := 61) (by simp [zfq])
  obtain ⟨g13, es, clock, e13, h13, b13, n13, r13⟩ := boxM hm (b := 13) (k := tyP) (v := .int .i64) (ps := z.1) (by simp [zfq])
  obtain ⟨g16, es', clock', e16, h16, b16, n16, r16⟩ := boxM hm (b := 16) (k := .int .i32) (v := .int .i64) (ps := z.2) (by simp [zfq])
  have hrel : zcu k z.1 z.2 = some y := hr
  unfold zcu at hrel
  cases hsm : Nat.blt z.1.length 1000000 with
  | false => rw [hsm] at hrel; cases hrel
  | true =>
  rw [hsm] at hrel
  have hsm : z.1.length < 1000000 := zax hsm
  simp only [cond_true] at hrel
  unfold srt at hrel
  cases hgood : good (fun x y => zct k x y (some z.1) (some z.2)) (z.1.map (·.1)) with
  | false => rw [hgood] at hrel; cases hrel
  | true =>
  rw [hgood] at hrel
  simp only [cond_true, Option.some.injEq] at hrel
  have lt : ∀ {g : Nat} {o : Obj}, w.heap[g]? = some o -> g < w.heap.size := fun h => (Array.getElem?_eq_some_iff.1 h).1
  have hc := sortedFuncP g12 g13 es clock (z.1.map (·.1)) w (lt h12) (by simp [World.cell?, h12, e13]) h13 b13 n13 (repM_keys r13) (by rw [List.length_map]; exact Nat.le_trans (Nat.le_of_lt hsm) (by decide)) (by rw [List.length_map]; omega)
   (fun x y => zct k x y (some z.1) (some z.2)) hgood 25 #[m 14, m 15] (@Contract.enters drYes _ _ _ _ (@c_corr_counted_c1 drYes k)) ?hcmp
  case hcmp =>
   intro W w1 w2 w3 hsz hblk x y n hxy
   have hcall := @Contract.calls drYes _ _ _ _ (@c_corr_counted_c1 drYes k) W (fun _ => False) [encP x, encP y, m 14, m 15] (splitTV (zfw k).dom (x, y, some z.1, some z.2)) (splitTV (zfw k).cod n) trivial (fun _ h => h.elim) (rel_ok (F := zfw k) (castL_split _ _) n hxy) ?_
   ·refine Calls.mono (R := fun e W' => ∃ v, e = .returned v /\ repRes W' (fun _ => False) v (splitTV (zfw k).cod n) /\ @Ext drYes W W') ?_ ?_
    ·exact hcall
    ·rintro e W' ⟨v, rfl, hv, hext⟩
     have hv : [v] = [.int .i64 n] := hv
     refine ⟨by simp at hv; rw [hv], ?_⟩
     obtain ⟨p, hp⟩ := regrown_of_below (@Ext.below drYes _ _ hext)
     have hd : W.drawn <= W'.drawn := @Same.drawn drYes _ _ (@Ext.toSame drYes _ _ hext) trivial
     have hpd : W'.drawn = p.d := by rw [hp]; rfl
     refine ⟨p.d - W.drawn, p.os, ?_⟩
     rw [hp]
     have : W.drawn + (p.d - W.drawn) = p.d := by omega
     unfold redrawn World.drewN
     rw [this]
   ·have hM : ∀ {q : Ty} {v : Value} {x : q.el}, q.flat = true -> repV' w (Mut cx m ((zfq k).S z).ids) q v x -> repV' W (fun _ => False) q v x := fun hf h => repV_flat hf h
    refine ⟨repV_pair.2 rfl, repV_pair.2 rfl, ?_, ?_, trivial⟩
    ·show rep W _ (.ptr (.map tyP (.int .i64))) [m 14] (some z.1)
     refine ⟨⟨g14, 0, none⟩, [.map (some g13)], by rw [e14], ⟨g13, es, clock, rfl, (hblk _ (lt h13)).trans h13, fun h => h, b13, n13, zac (fun _ _ h => hM rfl h) (fun _ _ h => hM rfl h) r13⟩, fun j u hj => ⟨?_, fun h => h⟩⟩
     match j, hj with
     | 0, hj =>
      simp at hj
      subst hj
      have ea : (⟨g14, 0, none⟩ : Addr).add 0 = ⟨g14, 0, none⟩ := by unfold Addr.add; split <;> simp_all
      rw [ea]
      simp [World.cell?, hblk _ (lt h14), h14, e13]
     | j + 1, hj => simp at hj
    ·show rep W _ (.ptr (.map (.int .i32) (.int .i64))) [m 15] (some z.2)
     refine ⟨⟨g15, 0, none⟩, [.map (some g16)], by rw [e15], ⟨g16, es', clock', rfl, (hblk _ (lt h16)).trans h16, fun h => h, b16, n16, zac (fun _ _ h => hM rfl h) (fun _ _ h => hM rfl h) r16⟩, fun j u hj => ⟨?_, fun h => h⟩⟩
     match j, hj with
     | 0, hj =>
      simp at hj
      subst hj
      have ea : (⟨g15, 0, none⟩ : Addr).add 0 = ⟨g15, 0, none⟩ := by unfold Addr.add; split <;> simp_all
      rw [ea]
      simp [World.cell?, hblk _ (lt h15), h15, e16]
     | j + 1, hj => simp at hj
  rw [hs0, hs1, e12]
  refine Calls.mono (R := fun e w' => ∃ v, e = .returned v /\ w'.ownsRow w.heap.size 41 2 v (z.1.map (·.1)).length ((isort (ltO fun x y => zct k x y (some z.1) (some z.2)) (z.1.map (·.1))).flatMap ce) /\ RowKit.Below w.heap.size w w') hc ?_
  rintro e w' ⟨v, rfl, hrow, hb⟩
  rw [hrel] at hrow
  have hy : y.length = (z.1.map (·.1)).length := by rw [<- hrel]; exact (isort_perm _ _).length_eq
  rw [<- hy] at hrow
  have hext : Ext w w' := Ext.of_below hb (fun h => h.elim)
  have hown : ∀ g, own v g -> w.heap.size <= g /\ g < w'.heap.size := by
   intro g hg
   rcases hrow.2 with ⟨hv, _⟩ | ⟨g', cap, cur, hv, h1, h2, _⟩
   ·rw [hv] at hg; cases hg
   ·rw [hv] at hg; cases hg; exact ⟨h1, (Array.getElem?_eq_some_iff.1 h2).1⟩
  have hm1 : Rm cx m ⟨[], ((zfq k).S z).bx, []⟩ _ w := hm.weaken (fun i sv hi => by cases hi) (fun p hp => hp) (fun p hp => hp) hm.keys
  have hm2 := hm1.addRow (r := 17) (u := v) (w' := w') (c := ⟨41, tyP, y⟩) (cells := y.flatMap ce) (.inr (by decide)) (Renew.fresh hm1 17 v hext hown) (fun g hg => .inl (Nat.le_trans hm.frame.size (hown g hg).1)) ⟨hrow.1, hrow.2.imp id fun ⟨g, cap, cur, h1, _, h2⟩ => ⟨g, cap, cur, h1, Nat.zero_le _, h2⟩⟩ (repL_ce y)
  refine ⟨v, upd m 17 v, _, rfl, hm2, ?_⟩
  show v = upd m 17 v 17
  rw [zam]
noncomputable def pb_sortedPairs {G : World -> Prop} (k : Nat) : PB Tryz.prog G (List ((Int × Int × Unit) × Int) × List (Int × Int)) (List (Int × Int × Unit)) :=
 ⟨23, zfq k, fun st => getH st [.mp 13 tyP (.int .i64), .mp 16 (.int .i32) (.int .i64)], fun z => zcu k z.1 z.2, BC.weaken (fun _ _ => trivial) (b_sortedPairs k), fun _ _ h => h⟩
end Go.Ev
namespace Go.Ev
open Go
set_option linter.unusedVariables false
def gb (s : List UInt8) (i : Nat) : Nat := (s.getD i 0).toNat
def g (s : List UInt8) (i : Nat) : Nat × Nat := Lib.decodeN (s.length - i) (gb s i) (gb s (i + 1)) (gb s (i + 2)) (gb s (i + 3))
def bad (s : List UInt8) (i : Nat) : Bool := decide ((g s i).1 = 65533) && decide ((g s i).2 = 1)
theorem decode_g (s : List UInt8) (i : Nat) : Utf8.decode ⟨s.toArray⟩ i = g s i := by
 rw [Lib.decode_at]
 have e : ∀ j, (ByteArray.get! ⟨s.toArray⟩ j).toNat = gb s j := by
  intro j
  unfold gb ByteArray.get!
  show (s.toArray[j]!).toNat = _
  by_cases hj : j < s.length
  ·simp [hj]
  ·simp [hj, List.getD_eq_getElem?_getD]
   rfl
 simp only [e]
 rfl
theorem g_size (s : List UInt8) (i : Nat) (h : i < s.length) : 1 <= (g s i).2 /\ i + (g s i).2 <= s.length /\ (g s i).2 <= 4 := by
 unfold g Lib.decodeN
 repeat' split
 all_goals simp only; omega
theorem runeAt_g (s : List UInt8) (p : Nat) : runeAt s p = ((g s p).1 : Int) := by
 unfold runeAt
 show ((Utf8.decode ⟨s.toArray⟩ p).1 : Int) = _
 rw [decode_g]
theorem widthAt_g (s : List UInt8) (p : Nat) : widthAt s p = (g s p).2 := by
 unfold widthAt
 show (Utf8.decode ⟨s.toArray⟩ p).2 = _
 rw [decode_g]
theorem wi64_of {x : Int} (h : -9223372036854775808 <= x /\ x < 9223372036854775808) : wi64 x = x := by
 unfold wi64 IntKind.wrap
 simp [IntKind.bits, IntKind.signed]
 omega
theorem wu8_of {x : Int} (h : 0 <= x /\ x < 256) : wu8 x = x := by
 unfold wu8 IntKind.wrap
 simp [IntKind.bits, IntKind.signed]
 omega
theorem zfr {n : Nat} (h : n < 9223372036854775807) : wi64 ((n : Int) + 1) = ((n + 1 : Nat) : Int) := by rw [wi64_of (by omega)]; omega
theorem chk_of {p : Prop} [Decidable p] (h : p) : chk p = some () := by unfold chk; rw [if_pos h]
theorem at_of {α : Type} {l : List α} {i : Nat} : at? l (i : Int) = l[i]? := by
 unfold at?
 rw [if_pos (by omega), Int.toNat_natCast]
theorem at_lt {α : Type} {l : List α} {i : Nat} (h : i < l.length) : at? l (i : Int) = some (l[i]'h) := by rw [at_of, List.getElem?_eq_getElem h]
theorem at_int {α : Type} {l : List α} {i : Int} (h0 : 0 <= i) (h : i < l.length) : at? l i = some (l[i.toNat]'(by omega)) := by
 unfold at?
 rw [if_pos h0, List.getElem?_eq_getElem]
theorem byteAt_of {s : List UInt8} {i : Nat} (h : i < s.length) : byteAt s (i : Int) = some ((s[i]'h).toNat : Int) := by
 unfold byteAt
 rw [at_lt h]
theorem sub_pre0 {α : Type} {s : List α} {b : Nat} (h : b <= s.length) : sub? s 0 (b : Int) = some (s.take b) := by
 unfold sub?
 rw [if_pos (by omega), Int.toNat_natCast]
 rfl
theorem sub_suf {α : Type} {s : List α} {p : Nat} (h : p <= s.length) : sub? s (p : Int) (s.length : Int) = some (s.drop p) := by
 unfold sub?
 rw [if_pos (by omega), Int.toNat_natCast, Int.toNat_natCast, List.take_length]
end Go.Ev
namespace Go.Ev
open Go
set_option linter.unusedVariables false
def Tot {α : Type} (x : Option α) : Prop := ∃ v, x = some v
theorem zfs {α : Type} (v : α) : Tot (some v) := ⟨v, rfl⟩
theorem tot_bind {α β : Type} {x : Option α} {f : α -> Option β} (hx : Tot x) (hf : ∀ v, x = some v -> Tot (f v)) : Tot (Option.bind x f) := by
 obtain ⟨v, rfl⟩ := hx
 exact hf v rfl
theorem tot_ite {α : Type} {c : Bool} {a b : Option α} (h1 : c = true -> Tot a) (h2 : c = false -> Tot b) : Tot (if c then a else b) := by
 cases c with
 | true => rw [if_pos rfl]; exact h1 rfl
 | false => rw [if_neg (by simp)]; exact h2 rfl
theorem tot_dec {α : Type} {p : Prop} [Decidable p] {a b : Option α} (h1 : p -> Tot a) (h2 : ¬ p -> Tot b) : Tot (if decide p then a else b) :=
 tot_ite (fun h => h1 (of_decide_eq_true h)) (fun h => h2 (of_decide_eq_false h))
theorem tot_chk {p : Prop} [Decidable p] (h : p) : Tot (chk p) := ⟨(), chk_of h⟩
theorem tot_at {α : Type} {l : List α} {i : Nat} (h : i < l.length) : Tot (at? l (i : Int)) := ⟨_, at_lt h⟩
theorem tot_atI {α : Type} {l : List α} {i : Int} (h0 : 0 <= i) (h : i < l.length) : Tot (at? l i) := ⟨_, at_int h0 h⟩
theorem tot_loop {α β : Type} {L : Nat -> Int -> α -> Option β} {len : Nat} (hlen : len < 4611686018427387904) (I : Nat -> α -> Prop)
  (step : ∀ n i s, I i s -> i <= len -> (∀ s', i < len -> I (i + 1) s' -> Tot (L n (wi64 ((i : Int) + 1)) s')) -> Tot (L (n + 1) (i : Int) s)) : ∀ n i s, i <= len -> len - i < n -> I i s -> Tot (L n (i : Int) s) := by
 intro n
 induction n with
 | zero => intro i s _ h; omega
 | succ n ih =>
  intro i s h1 h2 h3
  refine step n i s h3 h1 fun s' hlt hI => ?_
  rw [zfr (by omega)]
  exact ih (i + 1) s' (by omega) (by omega) hI
theorem asc_at {bs : List Bool} (hl : bs.length = 256) (b : UInt8) (k : Nat) : Tot (zb2 k bs (b.toNat : Int)) := by
 unfold zb2
 exact tot_bind (tot_at (by rw [hl]; exact UInt8.toNat_lt b)) fun v _ => zfs _
theorem trimR_tot {bs : List Bool} (hl : bs.length = 256) : ∀ n (s : List UInt8), s.length < n -> s.length < 4611686018427387904 -> ∃ v, zb5 80000 bs n s = some v /\ v.length <= s.length := by
 intro n
 induction n with
 | zero => intro s h; omega
 | succ n ih =>
  intro s h hs
  unfold zb5 zb4 zb3
  by_cases h0 : 0 < s.length
  ·rw [if_pos (by simp only [decide_eq_true_eq]; omega), show wi64 ((s.length : Int) - 1) = ((s.length - 1 : Nat) : Int) by rw [wi64_of (by omega)]; omega, byteAt_of (by omega)]
   simp only [Option.bind_some]
   obtain ⟨v, hv⟩ := asc_at hl (s[s.length - 1]'(by omega)) 80000
   rw [hv]
   simp only [Option.bind_some]
   cases v with
   | false => exact ⟨s, rfl, Nat.le_refl _⟩
   | true =>
    rw [if_neg (by simp), sub_pre0 (by omega)]
    simp only [Option.bind_some]
    obtain ⟨v, h1, h2⟩ := ih (s.take (s.length - 1)) (by rw [List.length_take]; omega) (by rw [List.length_take]; omega)
    exact ⟨v, h1, Nat.le_trans h2 (by rw [List.length_take]; omega)⟩
  ·rw [if_neg (by simp only [decide_eq_true_eq]; omega)]
   exact ⟨s, rfl, Nat.le_refl _⟩
theorem trimL_tot {bs : List Bool} (hl : bs.length = 256) : ∀ n (s : List UInt8), s.length < n -> Tot (zb9 80000 bs n s) := by
 intro n
 induction n with
 | zero => intro s h; omega
 | succ n ih =>
  intro s h
  unfold zb9 zb8 zb7
  by_cases h0 : 0 < s.length
  ·rw [if_pos (by simp only [decide_eq_true_eq]; omega), show (0 : Int) = ((0 : Nat) : Int) from rfl, byteAt_of h0]
   simp only [Option.bind_some]
   obtain ⟨v, hv⟩ := asc_at hl (s[0]'h0) 80000
   rw [hv]
   simp only [Option.bind_some]
   cases v with
   | false => exact zfs _
   | true =>
    rw [if_neg (by simp), show (1 : Int) = ((1 : Nat) : Int) from rfl, sub_suf (by omega)]
    simp only [Option.bind_some]
    exact ih _ (by rw [List.length_drop]; omega)
  ·rw [if_neg (by simp only [decide_eq_true_eq]; omega)]
   exact zfs _
theorem Trim_tot {cut : List UInt8} {bs : List Bool} (hm : zb1 80000 cut = some (bs, true)) (hl : bs.length = 256) (h1 : cut.length ≠ 1) (h0 : cut ≠ []) {s : List UInt8} (hs : s.length < 80000) : Tot (strings_Trim 80000 s cut) := by
 unfold strings_Trim strings_Trim_j1
 refine tot_ite (fun _ => zfs _) fun _ => ?_
 rw [if_neg (by simp only [beq_iff_eq]; omega)]
 unfold zcc
 rw [if_neg (by simp), hm]
 simp only [Option.bind_some, if_true]
 unfold zb6 zca
 obtain ⟨v, h1, h2⟩ := trimR_tot hl 80000 s hs (by omega)
 rw [h1]
 simp only [Option.bind_some]
 exact tot_bind (trimL_tot hl 80000 v (by omega)) fun v _ => zfs _
def cutF : List UInt8 := [97, 98, 99, 100, 101, 102, 103, 104, 105, 106, 107, 108, 109, 110, 111, 112, 113, 114, 115, 116, 117, 118, 119, 120, 121, 122]
def ascOf (cut : List UInt8) : List Bool := (List.range 256).map fun i => cut.contains (UInt8.ofNat i)
theorem ascOf_len (cut : List UInt8) : (ascOf cut).length = 256 := by simp [ascOf]
set_option maxRecDepth 100000 in
theorem asc_F : zb1 80000 cutF = some (ascOf cutF, true) := by decide +kernel
theorem featNamed_tot (s : List UInt8) : ∃ b, zce 80000 s = some b /\ (b = true -> s.length <= 32) := by
 unfold zce
 by_cases h : s ≠ [] /\ s.length <= 32
 ·rw [show ((!(s == ([] : List UInt8))) && decide ((s.length : Int) <= 32)) = true by simp [h.1]; omega]
  unfold feature_named_j1
  rw [if_pos rfl]
  obtain ⟨v, hv⟩ := Trim_tot asc_F (ascOf_len _) (by simp [cutF]) (by simp [cutF]) (s := s) (by omega)
  rw [show ([97, 98, 99, 100, 101, 102, 103, 104, 105, 106, 107, 108, 109, 110, 111, 112, 113, 114, 115, 116, 117, 118, 119, 120, 121, 122] : List UInt8) = cutF from rfl, hv]
  exact ⟨_, rfl, fun _ => h.2⟩
 ·rw [show ((!(s == ([] : List UInt8))) && decide ((s.length : Int) <= 32)) = false by
   rw [Bool.eq_false_iff]
   intro q
   simp only [Bool.and_eq_true, Bool.not_eq_true', beq_eq_false_iff_ne, ne_eq, decide_eq_true_eq] at q
   exact h ⟨q.1, by omega⟩]
  exact ⟨false, rfl, fun q => by cases q⟩
theorem lettered_tot (k : Nat) (r : Int) : Tot (zcj k r) := by
 unfold zcj
 repeat' first
  | exact zfs _
  | (refine tot_ite (fun _ => ?_) fun _ => ?_)
  | (unfold zcg)
  | (unfold zcf)
  | (unfold zci)
  | (unfold zch)
  | (unfold feature_lettered_j5)
theorem within_tot (k : Nat) (a : List (List UInt8) × List (Int × Int × Int × Unit) × Unit) (p m : Int) : Tot (zck k a p m) := by
 unfold zck
 exact tot_bind (tot_chk (by omega)) fun _ _ => zfs _
abbrev Alph : Type := List (List UInt8) × List (Int × Int × Int × Unit) × Unit
theorem featCheck_l2 (a : Alph) (h : a.2.1.length <= 128) : Tot (zcm 80000 a 80000 0 []) := by
 refine tot_loop (L := zcm 80000 a) (len := a.2.1.length) (by omega) (fun _ _ => True) ?_ 80000 0 [] (Nat.zero_le _) (by omega) trivial
 intro n i m _ hi go
 unfold zcm feature_Check_b2
 refine tot_dec (fun hlt => ?_) fun _ => zfs _
 have hlt : i < a.2.1.length := by omega
 refine tot_bind (tot_at hlt) fun x _ => tot_bind (lettered_tot _ _) fun v _ => ?_
 unfold feature_Check_j4
 have j5 : ∀ t, Tot (zcl (zcm 80000 a n) (i : Int) m x t) := fun t => by
  unfold zcl
  exact tot_ite (fun _ => zfs _) fun _ => go _ hlt trivial
 exact tot_ite (fun _ => j5 _) fun _ => tot_bind (within_tot _ _ _ _) fun _ _ => j5 _
theorem featCheck_l1 (a : Alph) (h1 : a.1.length <= 24) (h2 : a.2.1.length <= 128) : ∀ n i m, i <= a.1.length -> a.1.length - i < n -> ∃ e, zcn 80000 a n (i : Int) m = some e /\ (e = 0 -> ∀ x ∈ a.1.drop i, x.length <= 32) := by
 intro n
 induction n with
 | zero => intro i m _ h; omega
 | succ n ih =>
  intro i m hi hn
  unfold zcn feature_Check_b1
  by_cases hlt : i < a.1.length
  ·rw [if_pos (by simp only [decide_eq_true_eq]; omega), at_lt hlt]
   simp only [Option.bind_some]
   obtain ⟨b, hb, hb2⟩ := featNamed_tot (a.1[i]'hlt)
   rw [hb]
   simp only [Option.bind_some]
   unfold feature_Check_j3
   by_cases hc : ((!b) || ((mget (eqEl .str) m (a.1[i]'hlt)).getD false)) = true
   ·rw [if_pos hc]
    exact ⟨7, rfl, fun q => by cases q⟩
   ·rw [if_neg hc, zfr (by omega)]
    obtain ⟨e, he, hp⟩ := ih (i + 1) (mset (eqEl .str) m (a.1[i]'hlt) true) (by omega) (by omega)
    refine ⟨e, he, fun h0 x hx => ?_⟩
    rw [List.drop_eq_getElem_cons hlt] at hx
    rcases List.mem_cons.1 hx with rfl | hx
    ·refine hb2 ?_
     cases b with
     | true => rfl
     | false => simp at hc
    ·exact hp h0 x hx
  ·rw [if_neg (by simp only [decide_eq_true_eq]; omega)]
   obtain ⟨e, he⟩ := featCheck_l2 a h2
   exact ⟨e, he, fun _ x hx => by rw [List.drop_eq_nil_of_le (by omega)] at hx; cases hx⟩
theorem featCheck_tot (a : Alph) : ∃ e, zco 80000 a = some e /\ (e = 0 -> a.1.length <= 24 /\ a.2.1.length <= 128 /\ ∀ x ∈ a.1, x.length <= 32) := by
 unfold zco feature_Check_j1 feature_Check_j2
 by_cases hc : ((decide ((24 : Int) < (a.1.length : Int)) || decide ((a.2.1.length : Int) < 1)) || decide ((128 : Int) < (a.2.1.length : Int))) = true
 ·rw [if_pos hc]
  exact ⟨7, rfl, fun q => by cases q⟩
 ·rw [if_neg hc]
  simp only [Bool.or_eq_true, decide_eq_true_eq] at hc
  obtain ⟨e, he, hp⟩ := featCheck_l1 a (by omega) (by omega) 80000 0 [] (Nat.zero_le _) (by omega)
  exact ⟨e, he, fun h0 => ⟨by omega, by omega, hp h0⟩⟩
theorem indexOf_tot (l : List (Int × Int × Int × Unit)) (hl : l.length <= 128) (r : Int) : ∃ v, zcr 80000 l (r, ()) = some v /\ v < (l.length : Int) := by
 unfold zcr
 have : ∀ n i, i <= l.length -> l.length - i < n -> ∃ v, zcq 80000 l (r, ()) n (i : Int) = some v /\ v < (l.length : Int) := by
  intro n
  induction n with
  | zero => intro i _ h; omega
  | succ n ih =>
   intro i h1 h2
   unfold zcq zcp feature_Of_c1
   by_cases hlt : i < l.length
   ·rw [if_pos (by simp only [decide_eq_true_eq]; omega), at_lt hlt]
    simp only [Option.bind_some]
    split
    ·exact ⟨_, rfl, by omega⟩
    ·rw [zfr (by omega)]
     exact ih (i + 1) (by omega) (by omega)
   ·rw [if_neg (by simp only [decide_eq_true_eq]; omega)]
    exact ⟨-1, rfl, by omega⟩
 exact this 80000 0 (Nat.zero_le _) (by omega)
theorem Of_tot (a : Alph) (r : Int) : Tot (zcs 80000 a r) := by
 unfold zcs
 obtain ⟨e, he, hp⟩ := featCheck_tot (a.1, a.2.1, ())
 rw [he]
 simp only [Option.bind_some]
 refine tot_ite (fun _ => zfs _) fun h => ?_
 have h0 : e = 0 := by simpa using h
 obtain ⟨_, h2, _⟩ := hp h0
 obtain ⟨v, hv, hlt⟩ := indexOf_tot a.2.1 h2 r
 rw [hv]
 simp only [Option.bind_some]
 exact tot_dec (fun _ => zfs _) fun hn => tot_bind (tot_atI (by omega) hlt) fun _ _ => zfs _
end Go.Ev
namespace Go.Ev
open Go
set_option linter.unusedVariables false
theorem zft {α β : Type} {eq : α -> α -> Bool} (he : ∀ x y, eq x y = true ↔ x = y) (k k' : α) (v : β) : ∀ l : List (α × β), (k' = k -> mget eq (mset eq l k v) k' = some v) /\ (k' ≠ k -> mget eq (mset eq l k v) k' = mget eq l k')
 | [] => by
  simp only [mset, mget]
  exact ⟨fun h => if_pos ((he _ _).2 h), fun h => if_neg (fun q => h ((he _ _).1 q))⟩
 | p :: l => by
  obtain ⟨i1, i2⟩ := zft he k k' v l
  simp only [mset]
  by_cases h1 : eq k p.1 = true
  ·have e1 := (he _ _).1 h1
   rw [if_pos h1]
   simp only [mget]
   exact ⟨fun h => if_pos ((he _ _).2 h), fun h => by rw [if_neg (fun q => h ((he _ _).1 q)), if_neg (fun q => h (((he _ _).1 q).trans e1.symm))]⟩
  ·rw [if_neg h1]
   simp only [mget]
   by_cases h2 : eq k' p.1 = true
   ·have e2 := (he _ _).1 h2
    simp only [if_pos h2]
    exact ⟨fun h => absurd ((he _ _).2 (h.symm.trans e2)) h1, fun _ => trivial⟩
   ·simp only [if_neg h2]
    exact ⟨i1, i2⟩
theorem eqStr_iff (x y : List UInt8) : eqEl .str x y = true ↔ x = y := by
 show (x == y) = true ↔ _
 simp
theorem zfu (x y : Int) : eqEl (.int .i32) x y = true ↔ x = y := by
 show (x == y) = true ↔ _
 simp
def az (b : UInt8) : Bool := decide (97 <= b.toNat) && decide (b.toNat <= 122)
def nmF (s : List UInt8) : Bool := (decide (1 <= s.length) && decide (s.length <= 32)) && s.all az
theorem cutF_az (b : UInt8) : cutF.contains b = az b := by
 have key : ∀ n : Fin 256, cutF.contains (UInt8.ofNat n.1) = az (UInt8.ofNat n.1) := by decide +kernel
 have := key ⟨b.toNat, UInt8.toNat_lt b⟩
 simpa using this
theorem asc_val (cut : List UInt8) (k : Nat) (b : UInt8) : zb2 k (ascOf cut) (b.toNat : Int) = some (cut.contains b) := by
 unfold zb2
 rw [at_of]
 unfold ascOf
 rw [List.getElem?_map, List.getElem?_range (UInt8.toNat_lt b)]
 simp
theorem take_snoc {s : List UInt8} (h : 0 < s.length) : s = s.take (s.length - 1) ++ [s[s.length - 1]'(by omega)] := by
 have := List.take_succ_eq_append_getElem (l := s) (i := s.length - 1) (by omega)
 rw [<- this, List.take_of_length_le (by omega)]
theorem trimR_val (cut : List UInt8) : ∀ n (s : List UInt8), s.length < n -> s.length < 4611686018427387904 -> zb5 80000 (ascOf cut) n s = some (s.reverse.dropWhile cut.contains).reverse := by
 intro n
 induction n with
 | zero => intro s h; omega
 | succ n ih =>
  intro s h hs
  unfold zb5 zb4 zb3
  by_cases h0 : 0 < s.length
  ·rw [if_pos (by simp only [decide_eq_true_eq]; omega), show wi64 ((s.length : Int) - 1) = ((s.length - 1 : Nat) : Int) by rw [wi64_of (by omega)]; omega, byteAt_of (by omega)]
   simp only [Option.bind_some]
   rw [asc_val]
   simp only [Option.bind_some]
   have hr : s.reverse = s[s.length - 1]'(by omega) :: (s.take (s.length - 1)).reverse := by
    conv => lhs; rw [take_snoc h0]
    simp
   cases hc : cut.contains (s[s.length - 1]'(by omega)) with
   | false =>
    rw [if_pos (by rfl), hr, List.dropWhile_cons, hc, if_neg (by simp), <- hr, List.reverse_reverse]
   | true =>
    rw [if_neg (by simp), sub_pre0 (by omega)]
    simp only [Option.bind_some]
    rw [ih (s.take (s.length - 1)) (by rw [List.length_take]; omega) (by rw [List.length_take]; omega), hr, List.dropWhile_cons, hc, if_pos rfl]
  ·rw [if_neg (by simp only [decide_eq_true_eq]; omega)]
   have : s = [] := List.length_eq_zero_iff.1 (by omega)
   subst this
   rfl
theorem trimL_val (cut : List UInt8) : ∀ n (s : List UInt8), s.length < n -> zb9 80000 (ascOf cut) n s = some (s.dropWhile cut.contains) := by
 intro n
 induction n with
 | zero => intro s h; omega
 | succ n ih =>
  intro s h
  unfold zb9 zb8 zb7
  cases s with
  | nil => rfl
  | cons b r =>
   rw [if_pos (by simp only [decide_eq_true_eq, List.length_cons]; omega), show (0 : Int) = ((0 : Nat) : Int) from rfl, byteAt_of (by simp)]
   simp only [Option.bind_some, List.getElem_cons_zero]
   rw [asc_val]
   simp only [Option.bind_some]
   rw [List.dropWhile_cons]
   cases hc : cut.contains b with
   | false => rw [if_pos (by rfl), if_neg (by simp)]
   | true =>
    rw [if_neg (by simp), if_pos rfl, show (1 : Int) = ((1 : Nat) : Int) from rfl, sub_suf (by simp)]
    simp only [Option.bind_some]
    exact ih r (by simpa using h)
theorem dw_nil {p : UInt8 -> Bool} {l : List UInt8} : l.dropWhile p = [] ↔ l.all p = true := by
 induction l with
 | nil => simp
 | cons a l ih =>
  rw [List.dropWhile_cons, List.all_cons]
  cases h : p a with
  | true => rw [if_pos rfl, ih, Bool.true_and]
  | false => simp
theorem dw_head {p : UInt8 -> Bool} {l : List UInt8} {a : UInt8} {r : List UInt8} (h : l.dropWhile p = a :: r) : p a = false := by
 induction l with
 | nil => cases h
 | cons b l ih =>
  rw [List.dropWhile_cons] at h
  split at h
  ·exact ih h
  ·rename_i hb
   cases h
   simpa using hb
theorem Trim_empty {cut : List UInt8} (hm : zb1 80000 cut = some (ascOf cut, true)) (h1 : cut.length ≠ 1) (h0 : cut ≠ []) {s : List UInt8} (hs : s.length < 80000) : ∃ v, strings_Trim 80000 s cut = some v /\ (v == ([] : List UInt8)) = s.all cut.contains := by
 unfold strings_Trim strings_Trim_j1
 by_cases hsn : s = []
 ·subst hsn
  rw [if_pos (by simp)]
  exact ⟨[], rfl, rfl⟩
 ·rw [if_neg (by simp [hsn, h0]), if_neg (by simp only [beq_iff_eq]; omega)]
  unfold zcc
  rw [if_neg (by simp), hm]
  simp only [Option.bind_some, if_true]
  unfold zb6 zca
  rw [trimR_val cut 80000 s hs (by omega)]
  simp only [Option.bind_some]
  have hlen : ((s.reverse.dropWhile cut.contains).reverse).length <= s.length := by
   rw [List.length_reverse]
   exact Nat.le_trans (List.Sublist.length_le (List.dropWhile_sublist _)) (by rw [List.length_reverse]; exact Nat.le_refl _)
  rw [trimL_val cut 80000 _ (by omega)]
  refine ⟨_, rfl, ?_⟩
  rw [Bool.eq_iff_iff, beq_iff_eq, dw_nil]
  constructor
  ·intro q
   cases hd : s.reverse.dropWhile cut.contains with
   | nil =>
    have := dw_nil.1 hd
    rwa [List.all_reverse] at this
   | cons a r =>
    have ha := dw_head hd
    rw [hd, List.all_reverse, List.all_cons, ha] at q
    cases q
  ·intro q
   have : s.reverse.dropWhile cut.contains = [] := dw_nil.2 (by rw [List.all_reverse]; exact q)
   rw [this]
   rfl
theorem featNamed_val (s : List UInt8) : zce 80000 s = some (nmF s) := by
 unfold zce
 by_cases h : s ≠ [] /\ s.length <= 32
 ·rw [show ((!(s == ([] : List UInt8))) && decide ((s.length : Int) <= 32)) = true by simp [h.1]; omega]
  unfold feature_named_j1
  rw [if_pos rfl]
  obtain ⟨v, hv, hv2⟩ := Trim_empty asc_F (by simp [cutF]) (by simp [cutF]) (s := s) (by omega)
  rw [show ([97, 98, 99, 100, 101, 102, 103, 104, 105, 106, 107, 108, 109, 110, 111, 112, 113, 114, 115, 116, 117, 118, 119, 120, 121, 122] : List UInt8) = cutF from rfl, hv]
  simp only [Option.bind_some]
  unfold zcd
  rw [hv2]
  have h1 : 1 <= s.length := by
   cases s with
   | nil => exact absurd rfl h.1
   | cons _ _ => simp
  unfold nmF
  rw [decide_eq_true h1, decide_eq_true h.2, Bool.and_true, Bool.true_and, show (cutF.contains : UInt8 -> Bool) = az from funext cutF_az]
 ·rw [show ((!(s == ([] : List UInt8))) && decide ((s.length : Int) <= 32)) = false by
   rw [Bool.eq_false_iff]
   intro q
   simp only [Bool.and_eq_true, Bool.not_eq_true', beq_eq_false_iff_ne, ne_eq, decide_eq_true_eq] at q
   exact h ⟨q.1, by omega⟩]
  show some false = _
  unfold nmF
  by_cases h1 : s = []
  ·subst h1; rfl
  ·rw [decide_eq_false (show ¬ s.length <= 32 from fun q => h ⟨h1, q⟩), Bool.and_false, Bool.false_and]
theorem r02name_l1 {s : List UInt8} (hs : s.length <= 32) : ∀ n i, i <= s.length -> s.length - i < n -> r02_name_l1 s n (i : Int) = some ((s.drop i).all az) := by
 intro n
 induction n with
 | zero => intro i _ h; omega
 | succ n ih =>
  intro i h1 h2
  unfold r02_name_l1 r02_name_b1
  by_cases hlt : i < s.length
  ·rw [if_pos (by simp only [decide_eq_true_eq]; omega), byteAt_of hlt, List.drop_eq_getElem_cons hlt, List.all_cons]
   simp only [Option.bind_some]
   unfold r02_name_j2
   rw [if_pos rfl, zfr (by omega), ih (i + 1) (by omega) (by omega)]
   unfold az
   by_cases c1 : (s[i]'hlt).toNat < 97
   ·rw [if_pos (by simp only [decide_eq_true_eq]; omega), decide_eq_false (by omega), Bool.false_and, Bool.false_and]
   ·rw [if_neg (by simp only [decide_eq_true_eq]; omega), decide_eq_true (p := 97 <= (s[i]'hlt).toNat) (by omega), Bool.true_and]
    by_cases c2 : (s[i]'hlt).toNat <= 122
    ·rw [if_neg (by simp only [decide_eq_true_eq]; omega), decide_eq_true c2, Bool.true_and]
    ·rw [if_pos (by simp only [decide_eq_true_eq]; omega), decide_eq_false c2, Bool.false_and]
  ·rw [if_neg (by simp only [decide_eq_true_eq]; omega), List.drop_eq_nil_of_le (by omega)]
   rfl
theorem r02name_val (s : List UInt8) : r02_name 80000 s = some (nmF s) := by
 unfold r02_name r02_name_j1 nmF
 by_cases h : (decide ((s.length : Int) < 1) || decide ((32 : Int) < (s.length : Int))) = true
 ·rw [if_pos h]
  simp only [Bool.or_eq_true, decide_eq_true_eq] at h
  rcases h with h | h
  ·rw [decide_eq_false (show ¬ 1 <= s.length by omega), Bool.false_and, Bool.false_and]
  ·rw [decide_eq_false (show ¬ s.length <= 32 by omega), Bool.and_false, Bool.false_and]
 ·rw [if_neg h]
  simp only [Bool.or_eq_true, decide_eq_true_eq] at h
  have := r02name_l1 (s := s) (by omega) 80000 0 (Nat.zero_le _) (by omega)
  rw [List.drop_zero] at this
  rw [decide_eq_true (show 1 <= s.length by omega), decide_eq_true (show s.length <= 32 by omega), Bool.true_and, Bool.true_and]
  exact this
def ltB (r : Int) : Bool := ((decide (97 <= r) && decide (r <= 122)) || (decide (65 <= r) && decide (r <= 90))) || ((decide (161 <= r) && decide (r <= 1114111)) && (decide (r ≠ 65533) && (decide (r < 55296) || decide (57343 < r))))
theorem some_eq {α : Type} {x y : α} (h : x = y) : some x = some y := by rw [h]
theorem fdiv11 (r : Int) : (Int.fdiv r (2 ^ min ((11 : Int)).toNat 32) == (27 : Int)) = (decide (55296 <= r) && decide (r <= 57343)) := by
 have e : (2 : Int) ^ min ((11 : Int)).toNat 32 = 2048 := by decide
 rw [e, Int.fdiv_eq_ediv_of_nonneg _ (by omega), Bool.eq_iff_iff]
 simp
 omega
theorem r02letter_val (k : Nat) (r : Int) : r02_letter k r = some (ltB r) := by
 unfold r02_letter r02_letter_j1 r02_letter_j7 r02_letter_j2 r02_letter_j3 r02_letter_j4 r02_letter_j6 r02_letter_j5 ltB
 cases decide (97 <= r) <;> cases decide (r <= 122) <;> cases decide (65 <= r) <;> cases decide (r <= 90) <;> cases h1 : decide (161 <= r) <;> cases h2 : decide (r <= 1114111) <;> cases h3 : decide (r < 55296) <;> cases h4 : decide (57343 < r) <;> (by_cases h5 : r = 65533 <;> simp [h5])
theorem lettered_val (k : Nat) (r : Int) : zcj k r = some (ltB r) := by
 unfold zcj zci zch zcg zcf ltB
 rw [fdiv11, chk_of (by decide)]
 simp only [Option.bind_some]
 have e1 : decide (r < 161) = !decide (161 <= r) := by rw [Bool.eq_iff_iff]; simp
 have e2 : decide (1114111 < r) = !decide (r <= 1114111) := by rw [Bool.eq_iff_iff]; simp
 have e3 : decide (55296 <= r) = !decide (r < 55296) := by rw [Bool.eq_iff_iff]; simp
 have e4 : decide (r <= 57343) = !decide (57343 < r) := by rw [Bool.eq_iff_iff]; simp
 rw [e1, e2, e3, e4]
 cases decide (97 <= r) <;> cases decide (r <= 122) <;> cases decide (65 <= r) <;> cases decide (r <= 90) <;> cases h1 : decide (161 <= r) <;> cases h2 : decide (r <= 1114111) <;> cases h3 : decide (r < 55296) <;> cases h4 : decide (57343 < r) <;> (by_cases h5 : r = 65533 <;> simp [h5])
def wtP (p m : Int) : Nat := BitVec.toNat (BitVec.ofInt 32 p ||| BitVec.ofInt 32 m)
def wtB (n : Nat) (p m : Int) : Bool := decide (wtP p m < 2 ^ n) && decide (BitVec.toNat (BitVec.ofInt 32 p &&& BitVec.ofInt 32 m) = 0)
theorem wu32_of {x : Int} (h : 0 <= x /\ x < 4294967296) : wu32 x = x := by
 unfold wu32 IntKind.wrap
 simp [IntKind.bits, IntKind.signed]
 omega
theorem bv_lt (x : BitVec 32) : x.toNat < 4294967296 := x.isLt
theorem within_val (k : Nat) (a : Alph) (p m : Int) (h : a.1.length <= 24) : zck k a p m = some (wtB a.1.length p m) := by
 unfold zck feature_within_j1
 rw [chk_of (by omega)]
 simp only [Option.bind_some]
 have b1 := bv_lt (BitVec.ofInt 32 p ||| BitVec.ofInt 32 m)
 have b2 := bv_lt (BitVec.ofInt 32 p &&& BitVec.ofInt 32 m)
 rw [wu32_of (by omega), wu32_of (by omega)]
 refine some_eq ?_
 have e : (2 : Int) ^ min ((a.1.length : Int)).toNat 32 = ((2 ^ a.1.length : Nat) : Int) := by
  rw [Int.toNat_natCast, Nat.min_eq_left (by omega)]
  simp
 have hpos : 0 < 2 ^ a.1.length := Nat.two_pow_pos _
 rw [e]
 unfold wtB wtP
 rw [Int.fdiv_eq_ediv_of_nonneg _ (by omega), Bool.eq_iff_iff]
 simp only [Bool.and_eq_true, beq_iff_eq, decide_eq_true_eq]
 have e2 : ((BitVec.toNat (BitVec.ofInt 32 p ||| BitVec.ofInt 32 m) : Int) / ((2 ^ a.1.length : Nat) : Int)) = ((BitVec.toNat (BitVec.ofInt 32 p ||| BitVec.ofInt 32 m) / 2 ^ a.1.length : Nat) : Int) := rfl
 rw [e2]
 constructor
 ·rintro ⟨q1, q2⟩
  have q1' : BitVec.toNat (BitVec.ofInt 32 p ||| BitVec.ofInt 32 m) / 2 ^ a.1.length = 0 := by omega
  exact ⟨(Nat.div_eq_zero_iff_lt hpos).1 q1', by omega⟩
 ·rintro ⟨q1, q2⟩
  exact ⟨by rw [(Nat.div_eq_zero_iff_lt hpos).2 q1]; rfl, by omega⟩
theorem r02May_val (k : Nat) (a : Alph) (p m : Int) (h : a.1.length <= 24) : r02_May k a p m = some (wtB a.1.length p m) := by
 unfold r02_May r02_May_j1 r02_all
 have w : wu64 (a.1.length : Int) = (a.1.length : Int) := by
  unfold wu64 IntKind.wrap
  simp [IntKind.bits, IntKind.signed]
  omega
 have w' : wu64 ((((a.1, a.2.1, ()) : Alph).1.length : Int)) = (a.1.length : Int) := w
 rw [w', chk_of (by omega)]
 simp only [Option.bind_some]
 have hpos : 0 < 2 ^ a.1.length := Nat.two_pow_pos _
 have hle : 2 ^ a.1.length <= 2 ^ 24 := Nat.pow_le_pow_right (by omega) h
 have e : (1 : Int) * 2 ^ min ((a.1.length : Int)).toNat 32 = ((2 ^ a.1.length : Nat) : Int) := by
  rw [Int.toNat_natCast, Nat.min_eq_left (by omega)]
  simp
 have h24 : (2 : Nat) ^ 24 = 16777216 := by decide
 have b1 := bv_lt (BitVec.ofInt 32 p ||| BitVec.ofInt 32 m)
 have b2 := bv_lt (BitVec.ofInt 32 p &&& BitVec.ofInt 32 m)
 rw [e, wu32_of (x := ((2 ^ a.1.length : Nat) : Int)) (by omega), wu32_of (x := ((2 ^ a.1.length : Nat) : Int) - 1) (by omega), wu32_of (x := ((BitVec.toNat (BitVec.ofInt 32 p ||| BitVec.ofInt 32 m) : Nat) : Int)) (by omega), wu32_of (x := ((BitVec.toNat (BitVec.ofInt 32 p &&& BitVec.ofInt 32 m) : Nat) : Int)) (by omega)]
 have e2 : ((2 ^ a.1.length : Nat) : Int) - 1 = ((2 ^ a.1.length - 1 : Nat) : Int) := by omega
 have e3 : BitVec.toNat (BitVec.ofInt 32 ((BitVec.toNat (BitVec.ofInt 32 p ||| BitVec.ofInt 32 m) : Nat) : Int) &&& BitVec.ofInt 32 (((2 ^ a.1.length : Nat) : Int) - 1)) = BitVec.toNat (BitVec.ofInt 32 p ||| BitVec.ofInt 32 m) % 2 ^ a.1.length := by
  rw [e2, BitVec.toNat_and, BitVec.ofInt_natCast, BitVec.ofInt_natCast, BitVec.toNat_ofNat, BitVec.toNat_ofNat, Nat.mod_eq_of_lt (a := 2 ^ a.1.length - 1) (by omega), Nat.mod_eq_of_lt b1, Nat.and_two_pow_sub_one_eq_mod]
 rw [e3]
 have b3 : BitVec.toNat (BitVec.ofInt 32 p ||| BitVec.ofInt 32 m) % 2 ^ a.1.length < 2 ^ a.1.length := Nat.mod_lt _ hpos
 rw [wu32_of (by omega)]
 refine some_eq ?_
 unfold wtB wtP
 rw [Bool.eq_iff_iff]
 simp only [Bool.and_eq_true, beq_iff_eq, decide_eq_true_eq]
 constructor
 ·rintro ⟨q1, q2⟩
  exact ⟨by omega, by omega⟩
 ·rintro ⟨q1, q2⟩
  exact ⟨by rw [Nat.mod_eq_of_lt q1], by omega⟩
def chkA (a : Alph) : Bool := ((decide (a.1.length <= 24) && (decide (1 <= a.2.1.length) && decide (a.2.1.length <= 128))) && (a.1.all nmF && decide a.1.Nodup)) && ((a.2.1.all fun l => ltB l.1 && wtB a.1.length l.2.1 l.2.2.1) && decide (a.2.1.map (·.1)).Nodup)
def memQ {β : Type} [DecidableEq β] (x : β) (l : List β) : Bool := decide (x ∈ l)
theorem memQ_t {β : Type} [DecidableEq β] {x : β} {l : List β} (h : x ∈ l) : memQ x l = true := decide_eq_true h
theorem memQ_f {β : Type} [DecidableEq β] {x : β} {l : List β} (h : ¬ x ∈ l) : memQ x l = false := decide_eq_false h
def zfv {α β : Type} [DecidableEq β] (key : α -> β) (fine : α -> Bool) : List α -> List α -> Bool
 | _, [] => true
 | seen, x :: xs => (fine x && !memQ (key x) (seen.map key)) && zfv key fine (seen ++ [x]) xs
theorem fineFrom_spec {α β : Type} [DecidableEq β] (key : α -> β) (fine : α -> Bool) : ∀ (xs seen : List α), (seen.map key).Nodup -> zfv key fine seen xs = (xs.all fine && decide ((seen ++ xs).map key).Nodup)
 | [], seen, h => by simp [zfv, h]
 | x :: xs, seen, h => by
  unfold zfv
  by_cases hm : key x ∈ seen.map key
  ·rw [memQ_t hm]
   have : ¬ ((seen ++ x :: xs).map key).Nodup := by
    intro q
    rw [List.map_append, List.nodup_append] at q
    exact q.2.2 _ hm _ (by simp) rfl
   rw [decide_eq_false this]
   simp
  ·rw [memQ_f hm]
   have hs : ((seen ++ [x]).map key).Nodup := by
    rw [List.map_append, List.nodup_append]
    refine ⟨h, by simp, fun a ha b hb => ?_⟩
    simp at hb
    subst hb
    exact fun e => hm (e ▸ ha)
   rw [fineFrom_spec key fine xs (seen ++ [x]) hs, List.append_assoc, List.all_cons]
   simp [Bool.and_assoc]
theorem chkA_eq {a : Alph} (h1 : a.1.length <= 24) (h2 : 1 <= a.2.1.length) (h3 : a.2.1.length <= 128) : chkA a = (zfv id nmF [] a.1 && zfv (·.1) (fun l => ltB l.1 && wtB a.1.length l.2.1 l.2.2.1) [] a.2.1) := by
 unfold chkA
 rw [fineFrom_spec id nmF a.1 [] (by simp), fineFrom_spec (·.1) _ a.2.1 [] (by simp), decide_eq_true h1, decide_eq_true h2, decide_eq_true h3]
 simp
theorem chkA_out {a : Alph} (h : ¬ (a.1.length <= 24 /\ 1 <= a.2.1.length /\ a.2.1.length <= 128)) : chkA a = false := by
 rw [Bool.eq_false_iff]
 intro q
 unfold chkA at q
 simp only [Bool.and_eq_true, decide_eq_true_eq] at q
 exact h ⟨q.1.1.1, q.1.1.2.1, q.1.1.2.2⟩
theorem fineFrom_cons {α β : Type} [DecidableEq β] (key : α -> β) (fine : α -> Bool) (seen : List α) (x : α) (xs : List α) : zfv key fine seen (x :: xs) = ((fine x && !memQ (key x) (seen.map key)) && zfv key fine (seen ++ [x]) xs) := rfl
theorem dec_same {β : Type} {r x : β} (l : List β) [Decidable (r ∈ l ++ [x])] (h : r = x) : true = decide (r ∈ l ++ [x]) := by rw [decide_eq_true (by rw [h]; simp)]
theorem dec_other {β : Type} {r x : β} (l : List β) [Decidable (r ∈ l)] [Decidable (r ∈ l ++ [x])] (h : r ≠ x) : decide (r ∈ l) = decide (r ∈ l ++ [x]) := by
 rw [Bool.eq_iff_iff, decide_eq_true_eq, decide_eq_true_eq, List.mem_append, List.mem_singleton]
 exact ⟨.inl, fun q => q.resolve_right h⟩
theorem fc_l2 (a : Alph) (h1 : a.1.length <= 24) (h : a.2.1.length <= 128) : ∀ n i (m : List (Int × Bool)), i <= a.2.1.length -> a.2.1.length - i < n -> (∀ r : Int, (mget (eqEl (.int .i32)) m r).getD false = decide (r ∈ (a.2.1.take i).map fun l => l.1)) ->
  zcm 80000 a n (i : Int) m = some (if zfv (·.1) (fun l => ltB l.1 && wtB a.1.length l.2.1 l.2.2.1) (a.2.1.take i) (a.2.1.drop i) then 0 else 7) := by
 intro n
 induction n with
 | zero => intro i m _ h; omega
 | succ n ih =>
  intro i m hi hn hm
  unfold zcm feature_Check_b2
  by_cases hlt : i < a.2.1.length
  ·rw [if_pos (by simp only [decide_eq_true_eq]; omega), at_lt hlt, List.drop_eq_getElem_cons hlt]
   simp only [Option.bind_some]
   rw [lettered_val, hm]
   simp only [Option.bind_some]
   rw [fineFrom_cons]
   unfold feature_Check_j4 zcl
   have step : zcm 80000 a n (wi64 ((i : Int) + 1)) (mset (eqEl (.int .i32)) m (a.2.1[i]'hlt).1 true) = some (if zfv (·.1) (fun l => ltB l.1 && wtB a.1.length l.2.1 l.2.2.1) (a.2.1.take i ++ [a.2.1[i]'hlt]) (a.2.1.drop (i + 1)) then 0 else 7) := by
    rw [zfr (by omega), ih (i + 1) _ (by omega) (by omega), List.take_succ_eq_append_getElem hlt]
    intro r
    obtain ⟨q1, q2⟩ := zft zfu (a.2.1[i]'hlt).1 r true m
    rw [List.take_succ_eq_append_getElem hlt, List.map_append]
    by_cases hr : r = (a.2.1[i]'hlt).1
    ·exact (congrArg (fun o : Option Bool => o.getD false) (q1 hr)).trans (dec_same _ hr)
    ·exact (congrArg (fun o : Option Bool => o.getD false) (q2 hr)).trans ((hm r).trans (dec_other _ hr))
   cases hb : ltB (a.2.1[i]'hlt).1 with
   | false => rfl
   | true =>
    by_cases hd : (a.2.1[i]'hlt).1 ∈ (a.2.1.take i).map fun l => l.1
    ·rw [decide_eq_true hd, memQ_t hd, if_pos (by simp)]
     simp
    ·rw [decide_eq_false hd, memQ_f hd, if_neg (by simp)]
     have hw : zck 80000 (a.1, a.2.1, ()) (a.2.1[i]'hlt).2.1 (a.2.1[i]'hlt).2.2.1 = _ := within_val 80000 a _ _ h1
     rw [hw]
     simp only [Option.bind_some]
     cases hv : wtB a.1.length (a.2.1[i]'hlt).2.1 (a.2.1[i]'hlt).2.2.1 with
     | false => rfl
     | true =>
      rw [if_neg (by simp), step]
      simp
  ·rw [if_neg (by simp only [decide_eq_true_eq]; omega), List.drop_eq_nil_of_le (by omega)]
   rfl
theorem fc_l1 (a : Alph) (h1 : a.1.length <= 24) (h2 : a.2.1.length <= 128) : ∀ n i (m : List (List UInt8 × Bool)), i <= a.1.length -> a.1.length - i < n -> (∀ r : List UInt8, (mget (eqEl .str) m r).getD false = decide (r ∈ (a.1.take i).map id)) ->
  zcn 80000 a n (i : Int) m = some (if zfv id nmF (a.1.take i) (a.1.drop i) && zfv (·.1) (fun l => ltB l.1 && wtB a.1.length l.2.1 l.2.2.1) [] a.2.1 then 0 else 7) := by
 intro n
 induction n with
 | zero => intro i m _ h; omega
 | succ n ih =>
  intro i m hi hn hm
  unfold zcn feature_Check_b1
  by_cases hlt : i < a.1.length
  ·rw [if_pos (by simp only [decide_eq_true_eq]; omega), at_lt hlt, List.drop_eq_getElem_cons hlt]
   simp only [Option.bind_some]
   rw [featNamed_val, hm]
   simp only [Option.bind_some]
   rw [fineFrom_cons]
   unfold feature_Check_j3
   cases hb : nmF (a.1[i]'hlt) with
   | false => rfl
   | true =>
    by_cases hd : (a.1[i]'hlt) ∈ (a.1.take i).map id
    ·rw [decide_eq_true hd, memQ_t (show id (a.1[i]'hlt) ∈ (a.1.take i).map id from hd)]
     rfl
    ·rw [decide_eq_false hd, memQ_f (show ¬ id (a.1[i]'hlt) ∈ (a.1.take i).map id from hd), if_neg (by simp), zfr (by omega), ih (i + 1) _ (by omega) (by omega), List.take_succ_eq_append_getElem hlt]
     ·simp
     ·intro r
      obtain ⟨q1, q2⟩ := zft eqStr_iff (a.1[i]'hlt) r true m
      rw [List.take_succ_eq_append_getElem hlt, List.map_append]
      by_cases hr : r = a.1[i]'hlt
      ·exact (congrArg (fun o : Option Bool => o.getD false) (q1 hr)).trans (dec_same _ hr)
      ·exact (congrArg (fun o : Option Bool => o.getD false) (q2 hr)).trans ((hm r).trans (dec_other _ hr))
  ·rw [if_neg (by simp only [decide_eq_true_eq]; omega), List.drop_eq_nil_of_le (by omega)]
   have := fc_l2 a h1 h2 80000 0 [] (Nat.zero_le _) (by omega) (fun r => by simp [mget])
   simp only [List.take_zero, List.drop_zero] at this
   refine Eq.trans this ?_
   simp [zfv]
theorem featCheck_val (a : Alph) : zco 80000 a = some (if chkA a then 0 else 7) := by
 unfold zco feature_Check_j1 feature_Check_j2
 by_cases hc : a.1.length <= 24 /\ 1 <= a.2.1.length /\ a.2.1.length <= 128
 ·rw [if_neg (by simp only [Bool.or_eq_true, decide_eq_true_eq]; omega), chkA_eq hc.1 hc.2.1 hc.2.2]
  have := fc_l1 a hc.1 hc.2.2 80000 0 [] (Nat.zero_le _) (by omega) (fun r => by simp [mget])
  simp only [List.take_zero, List.drop_zero] at this
  exact this
 ·rw [if_pos (by simp only [Bool.or_eq_true, decide_eq_true_eq]; omega), chkA_out hc]
  rfl
theorem memQ_cons {β : Type} [DecidableEq β] (x y : β) (l : List β) : memQ x (y :: l) = (decide (x = y) || memQ x l) := by
 unfold memQ
 rw [Bool.eq_iff_iff]
 simp
theorem r02c_l2 {a2 : List (List UInt8)} (h1 : a2.length <= 24) {i : Nat} (hi : i < a2.length) (go : Int -> List (List UInt8) -> List (Int × Int × Int × Unit) -> Option Int) (a3 : List (Int × Int × Int × Unit)) : ∀ n k ok, k <= i -> i - k < n ->
  r02_Check_l2 (i : Int) a2 go a3 n ok (k : Int) = if ok && !memQ (a2[i]'hi) ((a2.take i).drop k) then go (wi64 ((i : Int) + 1)) a2 a3 else some 7 := by
 intro n
 induction n with
 | zero => intro k ok _ h; omega
 | succ n ih =>
  intro k ok hk hn
  unfold r02_Check_l2 r02_Check_b2
  by_cases hlt : k < i
  ·have hk2 : k < a2.length := by omega
   have hd : (a2.take i).drop k = a2[k]'hk2 :: (a2.take i).drop (k + 1) := by
    rw [List.drop_eq_getElem_cons (by rw [List.length_take]; omega)]
    simp
   rw [if_pos (by simp only [decide_eq_true_eq]; omega), hd, memQ_cons]
   unfold r02_Check_j3
   rw [zfr (by omega)]
   cases ok with
   | false =>
    rw [if_neg (by simp), ih (k + 1) false (by omega) (by omega)]
    simp
   | true =>
    rw [if_pos rfl, at_lt hk2, at_lt hi]
    simp only [Option.bind_some]
    rw [ih (k + 1) _ (by omega) (by omega)]
    by_cases he : a2[k]'hk2 = a2[i]'hi
    ·rw [he]; simp
    ·rw [decide_eq_false (show ¬ a2[i]'hi = a2[k]'hk2 from fun q => he q.symm)]
     simp [he]
  ·have : k = i := by omega
   subst this
   rw [if_neg (by simp), List.drop_eq_nil_of_le (by rw [List.length_take]; omega)]
   cases ok <;> simp [memQ]
theorem r02c_l4 {a5 : List (Int × Int × Int × Unit)} (h1 : a5.length <= 128) {i : Nat} (hi : i < a5.length) (go : Int -> List (List UInt8) -> List (Int × Int × Int × Unit) -> Option Int) (a4 : List (List UInt8)) : ∀ n k ok, k <= i -> i - k < n ->
  r02_Check_l4 (i : Int) a5 (a5[i]'hi) go a4 n ok (k : Int) = if ok && !memQ (a5[i]'hi).1 (((a5.take i).drop k).map fun l => l.1) then go (wi64 ((i : Int) + 1)) a4 a5 else some 7 := by
 intro n
 induction n with
 | zero => intro k ok _ h; omega
 | succ n ih =>
  intro k ok hk hn
  unfold r02_Check_l4 r02_Check_b4
  by_cases hlt : k < i
  ·have hk2 : k < a5.length := by omega
   have hd : (a5.take i).drop k = a5[k]'hk2 :: (a5.take i).drop (k + 1) := by
    rw [List.drop_eq_getElem_cons (by rw [List.length_take]; omega)]
    simp
   rw [if_pos (by simp only [decide_eq_true_eq]; omega), hd, List.map_cons, memQ_cons]
   unfold r02_Check_j5
   rw [zfr (by omega)]
   cases ok with
   | false =>
    rw [if_neg (by simp), ih (k + 1) false (by omega) (by omega)]
    simp
   | true =>
    rw [if_pos rfl, at_lt hk2]
    simp only [Option.bind_some]
    rw [ih (k + 1) _ (by omega) (by omega)]
    by_cases he : (a5[k]'hk2).1 = (a5[i]'hi).1
    ·rw [he]; simp
    ·rw [decide_eq_false (show ¬ (a5[i]'hi).1 = (a5[k]'hk2).1 from fun q => he q.symm)]
     simp [he]
  ·have : k = i := by omega
   subst this
   rw [if_neg (by simp), List.drop_eq_nil_of_le (by rw [List.length_take]; omega)]
   cases ok <;> simp [memQ]
theorem r02c_l3 (a : Alph) (h1 : a.1.length <= 24) (h2 : a.2.1.length <= 128) : ∀ n i, i <= a.2.1.length -> a.2.1.length - i < n ->
  zcv 80000 n (i : Int) a.1 a.2.1 = some (if zfv (·.1) (fun l => ltB l.1 && wtB a.1.length l.2.1 l.2.2.1) (a.2.1.take i) (a.2.1.drop i) then 0 else 7) := by
 intro n
 induction n with
 | zero => intro i _ h; omega
 | succ n ih =>
  intro i hi hn
  unfold zcv r02_Check_b3
  by_cases hlt : i < a.2.1.length
  ·rw [if_pos (by simp only [decide_eq_true_eq]; omega), at_lt hlt, List.drop_eq_getElem_cons hlt, fineFrom_cons]
   simp only [Option.bind_some]
   rw [r02letter_val]
   simp only [Option.bind_some]
   unfold r02_Check_j4
   have key := fun ok => r02c_l4 h2 hlt (zcv 80000 n) a.1 80000 0 ok (Nat.zero_le _) (by omega)
   simp only [List.drop_zero] at key
   have step := ih (i + 1) (by omega) (by omega)
   rw [List.take_succ_eq_append_getElem hlt] at step
   have key' : ∀ ok, r02_Check_l4 (i : Int) a.2.1 (a.2.1[i]'hlt) (zcv 80000 n) a.1 80000 ok 0 = some (if (ok && !memQ (a.2.1[i]'hlt).1 ((a.2.1.take i).map fun l => l.1)) && zfv (·.1) (fun l => ltB l.1 && wtB a.1.length l.2.1 l.2.2.1) (a.2.1.take i ++ [a.2.1[i]'hlt]) (a.2.1.drop (i + 1)) then 0 else 7) := by
    intro ok
    refine Eq.trans (key ok) ?_
    rw [zfr (by omega), step]
    cases ok && !memQ (a.2.1[i]'hlt).1 ((a.2.1.take i).map fun l => l.1) <;> rfl
   cases hb : ltB (a.2.1[i]'hlt).1 with
   | false =>
    rw [if_neg (by simp), key' false]
    rfl
   | true =>
    have hw : r02_May 80000 (a.1, a.2.1, ()) (a.2.1[i]'hlt).2.1 (a.2.1[i]'hlt).2.2.1 = _ := r02May_val 80000 a _ _ h1
    rw [if_pos rfl, hw]
    simp only [Option.bind_some]
    rw [key']
    rfl
  ·rw [if_neg (by simp only [decide_eq_true_eq]; omega), List.drop_eq_nil_of_le (by omega)]
   rfl
theorem r02c_l1 (a : Alph) (h1 : a.1.length <= 24) (h2 : a.2.1.length <= 128) : ∀ n i, i <= a.1.length -> a.1.length - i < n ->
  r02_Check_l1 80000 n (i : Int) a.1 a.2.1 = some (if zfv id nmF (a.1.take i) (a.1.drop i) && zfv (·.1) (fun l => ltB l.1 && wtB a.1.length l.2.1 l.2.2.1) [] a.2.1 then 0 else 7) := by
 intro n
 induction n with
 | zero => intro i _ h; omega
 | succ n ih =>
  intro i hi hn
  unfold r02_Check_l1 r02_Check_b1
  by_cases hlt : i < a.1.length
  ·rw [if_pos (by simp only [decide_eq_true_eq]; omega), at_lt hlt, List.drop_eq_getElem_cons hlt, fineFrom_cons]
   simp only [Option.bind_some]
   rw [r02name_val]
   simp only [Option.bind_some]
   have key := r02c_l2 h1 hlt (r02_Check_l1 80000 n) a.2.1 80000 0 (nmF (a.1[i]'hlt)) (Nat.zero_le _) (by omega)
   rw [List.drop_zero] at key
   refine Eq.trans key ?_
   rw [zfr (by omega), ih (i + 1) (by omega) (by omega), List.take_succ_eq_append_getElem hlt, List.map_id]
   have hid : memQ (id (a.1[i]'hlt)) (a.1.take i) = memQ (a.1[i]'hlt) (a.1.take i) := rfl
   rw [hid]
   cases nmF (a.1[i]'hlt) && !memQ (a.1[i]'hlt) (a.1.take i) <;> rfl
  ·rw [if_neg (by simp only [decide_eq_true_eq]; omega), List.drop_eq_nil_of_le (by omega)]
   have := r02c_l3 a h1 h2 80000 0 (Nat.zero_le _) (by omega)
   simp only [List.take_zero, List.drop_zero] at this
   refine Eq.trans this ?_
   simp [zfv]
theorem r02Check_val (a : Alph) : r02_Check 80000 a = some (if chkA a then 0 else 7) := by
 unfold r02_Check r02_Check_j1 r02_Check_j2
 by_cases hc : a.1.length <= 24 /\ 1 <= a.2.1.length /\ a.2.1.length <= 128
 ·rw [if_neg (by simp only [Bool.or_eq_true, decide_eq_true_eq]; omega), chkA_eq hc.1 hc.2.1 hc.2.2]
  have := r02c_l1 a hc.1 hc.2.2 80000 0 (Nat.zero_le _) (by omega)
  simp only [List.take_zero, List.drop_zero] at this
  exact this
 ·rw [if_pos (by simp only [Bool.or_eq_true, decide_eq_true_eq]; omega), chkA_out hc]
  rfl
end Go.Ev
namespace Go.Ev
open Go
set_option linter.unusedVariables false
/-! What one letter over another one costs. -/
theorem byteAt_tot {t : List UInt8} {n : Int} (h0 : 0 <= n) (h : n < t.length) : Tot (byteAt t n) := by
 unfold byteAt
 rw [at_int h0 h]
 exact ⟨_, rfl⟩
theorem wu8_range (x : Int) : 0 <= wu8 x /\ wu8 x < 256 := by
 unfold wu8 IntKind.wrap
 simp [IntKind.bits, IntKind.signed]
 omega
theorem wu32_range (x : Int) : 0 <= wu32 x /\ wu32 x < 4294967296 := by
 unfold wu32 IntKind.wrap
 simp [IntKind.bits, IntKind.signed]
 omega
theorem and255 (x : BitVec 32) : 0 <= wu32 (BitVec.toNat (x &&& BitVec.ofInt 32 (255 : Int)) : Int) /\ wu32 (BitVec.toNat (x &&& BitVec.ofInt 32 (255 : Int)) : Int) < 256 := by
 have h : BitVec.toNat (x &&& BitVec.ofInt 32 (255 : Int)) <= 255 := by
  rw [BitVec.toNat_and]
  exact Nat.and_le_right
 rw [wu32_of (by omega)]
 omega
set_option maxRecDepth 100000 in
theorem ones_tot (k : Nat) (x : Int) (h0 : 0 <= x) (h : x < 4294967296) : ∃ v, zc4 k x = some v /\ 0 <= v /\ v < 256 := by
 unfold zc4
 rw [chk_of (by omega)]
 simp only [Option.bind_some]
 have e : (2 : Int) ^ min ((24 : Int)).toNat 32 = 16777216 := by decide
 obtain ⟨b1, e1⟩ := byteAt_tot (t := ([0, 1, 1, 2, 1, 2, 2, 3, 1, 2, 2, 3, 2, 3, 3, 4, 1, 2, 2, 3, 2, 3, 3, 4, 2, 3, 3, 4, 3, 4, 4, 5, 1, 2, 2, 3, 2, 3, 3, 4, 2, 3, 3, 4, 3, 4, 4, 5, 2, 3, 3, 4, 3, 4, 4, 5, 3, 4, 4, 5, 4, 5, 5, 6, 1, 2, 2, 3, 2, 3, 3, 4, 2, 3, 3, 4, 3, 4, 4, 5, 2, 3, 3, 4, 3, 4, 4, 5, 3, 4, 4, 5, 4, 5, 5, 6, 2, 3, 3, 4, 3, 4, 4, 5, 3, 4, 4, 5, 4, 5, 5, 6, 3, 4, 4, 5, 4, 5, 5, 6, 4, 5, 5, 6, 5, 6, 6, 7, 1, 2, 2, 3, 2, 3, 3, 4, 2, 3, 3, 4, 3, 4, 4, 5, 2, 3, 3, 4, 3, 4, 4, 5, 3, 4, 4, 5, 4, 5, 5, 6, 2, 3, 3, 4, 3, 4, 4, 5, 3, 4, 4, 5, 4, 5, 5, 6, 3, 4, 4, 5, 4, 5, 5, 6, 4, 5, 5, 6, 5, 6, 6, 7, 2, 3, 3, 4, 3, 4, 4, 5, 3, 4, 4, 5, 4, 5, 5, 6, 3, 4, 4, 5, 4, 5, 5, 6, 4, 5, 5, 6, 5, 6, 6, 7, 3, 4, 4, 5, 4, 5, 5, 6, 4, 5, 5, 6, 5, 6, 6, 7, 4, 5, 5, 6, 5, 6, 6, 7, 5, 6, 6, 7, 6, 7, 7, 8] : List UInt8)) (n := Int.fdiv x (2 ^ min ((24 : Int)).toNat 32)) (by rw [e, Int.fdiv_eq_ediv_of_nonneg _ (by omega)]; omega) (by rw [e, Int.fdiv_eq_ediv_of_nonneg _ (by omega)]; show _ < (256 : Int); omega)
 rw [e1]
 simp only [Option.bind_some]
 rw [chk_of (by omega)]
 simp only [Option.bind_some]
 have key := fun y : BitVec 32 => byteAt_tot (t := ([0, 1, 1, 2, 1, 2, 2, 3, 1, 2, 2, 3, 2, 3, 3, 4, 1, 2, 2, 3, 2, 3, 3, 4, 2, 3, 3, 4, 3, 4, 4, 5, 1, 2, 2, 3, 2, 3, 3, 4, 2, 3, 3, 4, 3, 4, 4, 5, 2, 3, 3, 4, 3, 4, 4, 5, 3, 4, 4, 5, 4, 5, 5, 6, 1, 2, 2, 3, 2, 3, 3, 4, 2, 3, 3, 4, 3, 4, 4, 5, 2, 3, 3, 4, 3, 4, 4, 5, 3, 4, 4, 5, 4, 5, 5, 6, 2, 3, 3, 4, 3, 4, 4, 5, 3, 4, 4, 5, 4, 5, 5, 6, 3, 4, 4, 5, 4, 5, 5, 6, 4, 5, 5, 6, 5, 6, 6, 7, 1, 2, 2, 3, 2, 3, 3, 4, 2, 3, 3, 4, 3, 4, 4, 5, 2, 3, 3, 4, 3, 4, 4, 5, 3, 4, 4, 5, 4, 5, 5, 6, 2, 3, 3, 4, 3, 4, 4, 5, 3, 4, 4, 5, 4, 5, 5, 6, 3, 4, 4, 5, 4, 5, 5, 6, 4, 5, 5, 6, 5, 6, 6, 7, 2, 3, 3, 4, 3, 4, 4, 5, 3, 4, 4, 5, 4, 5, 5, 6, 3, 4, 4, 5, 4, 5, 5, 6, 4, 5, 5, 6, 5, 6, 6, 7, 3, 4, 4, 5, 4, 5, 5, 6, 4, 5, 5, 6, 5, 6, 6, 7, 4, 5, 5, 6, 5, 6, 6, 7, 5, 6, 6, 7, 6, 7, 7, 8] : List UInt8)) (n := wu32 (BitVec.toNat (y &&& BitVec.ofInt 32 (255 : Int)) : Int)) (and255 y).1 (and255 y).2
 obtain ⟨b2, e2⟩ := key (BitVec.ofInt 32 (Int.fdiv x (2 ^ min ((16 : Int)).toNat 32)))
 rw [e2]
 simp only [Option.bind_some]
 rw [chk_of (by omega)]
 simp only [Option.bind_some]
 obtain ⟨b3, e3⟩ := key (BitVec.ofInt 32 (Int.fdiv x (2 ^ min ((8 : Int)).toNat 32)))
 rw [e3]
 simp only [Option.bind_some]
 obtain ⟨b4, e4⟩ := key (BitVec.ofInt 32 x)
 rw [e4]
 have := wu8_range ((wu8 ((wu8 (b1 + b2)) + b3)) + b4)
 exact ⟨_, rfl, by rw [wi64_of (by omega)]; omega, by rw [wi64_of (by omega)]; omega⟩
theorem far_tot (a : Alph) (x y : Int) : ∃ v, zc6 80000 a x y = some v /\ 0 <= v /\ v <= 300 := by
 unfold zc6
 by_cases h : x == y
 ·rw [if_pos h]; exact ⟨0, rfl, by omega, by omega⟩
 rw [if_neg h]
 unfold align_far_j1
 by_cases h2 : ((x == 0) || (y == 0)) = true
 ·rw [if_pos h2]; exact ⟨5, rfl, by omega, by omega⟩
 rw [if_neg h2]
 unfold feature_Far
 obtain ⟨⟨l, e⟩, he⟩ := Of_tot (a.1, a.2.1, ()) x
 rw [he]
 simp only [Option.bind_some]
 by_cases h3 : e != 0
 ·rw [if_pos h3]
  exact ⟨_, rfl, by rw [wi64_of (by omega)]; omega, by rw [wi64_of (by omega)]; omega⟩
 rw [if_neg h3]
 obtain ⟨⟨l', e'⟩, he'⟩ := Of_tot (a.1, a.2.1, ()) y
 rw [he']
 simp only [Option.bind_some]
 by_cases h4 : e' != 0
 ·rw [if_pos h4]
  exact ⟨_, rfl, by rw [wi64_of (by omega)]; omega, by rw [wi64_of (by omega)]; omega⟩
 rw [if_neg h4]
 unfold zc5
 obtain ⟨v, hv, h0, h1⟩ := ones_tot 80000 (wu32 (BitVec.toNat (BitVec.ofInt 32 (wu32 (BitVec.toNat (BitVec.ofInt 32 l.2.1 ^^^ BitVec.ofInt 32 l'.2.1))) ||| BitVec.ofInt 32 (wu32 (BitVec.toNat (BitVec.ofInt 32 l.2.2.1 ^^^ BitVec.ofInt 32 l'.2.2.1)))))) (wu32_range _).1 (wu32_range _).2
 rw [hv]
 simp only [Option.bind_some]
 exact ⟨_, rfl, by rw [wi64_of (by omega)]; omega, by rw [wi64_of (by omega)]; omega⟩
def frV (a : Alph) (x y : Int) : Int := (zc6 80000 a x y).getD 0
theorem far_val (a : Alph) (x y : Int) : zc6 80000 a x y = some (frV a x y) := by
 obtain ⟨v, hv, _⟩ := far_tot a x y
 unfold frV
 rw [hv]; rfl
theorem far_bd (a : Alph) (x y : Int) : 0 <= frV a x y /\ frV a x y <= 300 := by
 obtain ⟨v, hv, h⟩ := far_tot a x y
 unfold frV
 rw [hv]; exact h
/-! The least cost of two lists of letters; the first alignment. -/
def costL (a : Alph) : List Int -> List Int -> Int
 | [], [] => 0
 | _ :: xs, [] => 5 + costL a xs []
 | [], _ :: ys => 5 + costL a [] ys
 | x :: xs, y :: ys => mnI (mnI (frV a x y + costL a xs ys) (5 + costL a xs (y :: ys))) (5 + costL a (x :: xs) ys)
 termination_by x y => x.length + y.length
def firstL (a : Alph) : List Int -> List Int -> List (Int × Int × Unit)
 | [], [] => []
 | x :: xs, [] => (x, 0, ()) :: firstL a xs []
 | [], y :: ys => (0, y, ()) :: firstL a [] ys
 | x :: xs, y :: ys =>
  if costL a (x :: xs) (y :: ys) = frV a x y + costL a xs ys then (x, y, ()) :: firstL a xs ys
  else if costL a (x :: xs) (y :: ys) = 5 + costL a xs (y :: ys) then (x, 0, ()) :: firstL a xs (y :: ys)
  else (0, y, ()) :: firstL a (x :: xs) ys
 termination_by x y => x.length + y.length
theorem mnI_le {a b : Int} : mnI a b <= a /\ mnI a b <= b /\ (mnI a b = a \/ mnI a b = b) := by
 unfold mnI
 split <;> omega
theorem costL_bd (a : Alph) : ∀ n (x y : List Int), x.length + y.length <= n -> 0 <= costL a x y /\ costL a x y <= 5 * (x.length + y.length) := by
 intro n
 induction n with
 | zero =>
  intro x y h
  have hx : x = [] := List.length_eq_zero_iff.1 (by omega)
  have hy : y = [] := List.length_eq_zero_iff.1 (by omega)
  subst hx; subst hy
  unfold costL
  simp
 | succ n ih =>
  intro x y h
  match x, y, h with
  | [], [], _ => unfold costL; simp
  | x :: xs, [], h =>
   have := ih xs [] (by simp only [List.length_cons, List.length_nil] at h ⊢; omega)
   unfold costL
   simp only [List.length_cons, List.length_nil] at this ⊢
   omega
  | [], y :: ys, h =>
   have := ih [] ys (by simp only [List.length_cons, List.length_nil] at h ⊢; omega)
   unfold costL
   simp only [List.length_cons, List.length_nil] at this ⊢
   omega
  | x :: xs, y :: ys, h =>
   have i1 := ih xs ys (by simp only [List.length_cons] at h ⊢; omega)
   have i2 := ih xs (y :: ys) (by simp only [List.length_cons] at h ⊢; omega)
   have i3 := ih (x :: xs) ys (by simp only [List.length_cons] at h ⊢; omega)
   have f := far_bd a x y
   unfold costL
   have m1 := @mnI_le (frV a x y + costL a xs ys) (5 + costL a xs (y :: ys))
   have m2 := @mnI_le (mnI (frV a x y + costL a xs ys) (5 + costL a xs (y :: ys))) (5 + costL a (x :: xs) ys)
   simp only [List.length_cons] at i1 i2 i3 ⊢
   omega
/-! Square tables. -/
def Sq (C : List (List Int)) : Prop := C.length = 65 /\ ∀ r ∈ C, r.length = 65
def get2 (C : List (List Int)) (p q : Nat) : Int := (C.getD p []).getD q 0
def set2 (C : List (List Int)) (p q : Nat) (v : Int) : List (List Int) := C.set p ((C.getD p []).set q v)
theorem Sq.row {C : List (List Int)} (h : Sq C) {p : Nat} (hp : p < 65) : (C.getD p []).length = 65 /\ at? C (p : Int) = some (C.getD p []) := by
 have hp' : p < C.length := by rw [h.1]; exact hp
 have e : C.getD p [] = C[p]'hp' := by simp [List.getD_eq_getElem?_getD, hp']
 rw [e]
 exact ⟨h.2 _ (List.getElem_mem hp'), at_lt hp'⟩
theorem Sq.at2 {C : List (List Int)} (h : Sq C) {p q : Nat} (hp : p < 65) (hq : q < 65) : at? (C.getD p []) (q : Int) = some (get2 C p q) := by
 have h1 := (h.row hp).1
 rw [at_lt (by omega)]
 unfold get2
 rw [List.getD_eq_getElem?_getD (l := C.getD p []) , List.getElem?_eq_getElem (by omega)]
 rfl
theorem Sq.set {C : List (List Int)} (h : Sq C) {p q : Nat} (hp : p < 65) (v : Int) : Sq (set2 C p q v) := by
 unfold set2
 refine ⟨by rw [List.length_set]; exact h.1, fun r hr => ?_⟩
 rcases List.mem_or_eq_of_mem_set hr with hr | hr
 ·exact h.2 r hr
 ·rw [hr, List.length_set]; exact (h.row hp).1
theorem Sq.get_set {C : List (List Int)} (h : Sq C) {p q p' q' : Nat} (hp : p < 65) (hq : q < 65) (v : Int) : get2 (set2 C p q v) p' q' = if p' = p /\ q' = q then v else get2 C p' q' := by
 have h1 := (h.row hp).1
 unfold get2 set2
 by_cases e1 : p' = p
 ·subst e1
  have e : (C.set p' ((C.getD p' []).set q v)).getD p' [] = (C.getD p' []).set q v := by
   rw [List.getD_eq_getElem?_getD (l := C.set _ _), List.getElem?_set_self (by rw [h.1]; exact hp)]
   rfl
  rw [e]
  by_cases e2 : q' = q
  ·subst e2
   rw [if_pos ⟨rfl, rfl⟩, List.getD_eq_getElem?_getD, List.getElem?_set_self (by omega)]
   rfl
  ·rw [if_neg (fun c => e2 c.2), List.getD_eq_getElem?_getD, List.getElem?_set_ne (Ne.symm e2), <- List.getD_eq_getElem?_getD]
 ·have e : (C.set p ((C.getD p []).set q v)).getD p' [] = C.getD p' [] := by
   rw [List.getD_eq_getElem?_getD, List.getElem?_set_ne (Ne.symm e1), <- List.getD_eq_getElem?_getD]
  rw [e, if_neg (fun c => e1 c.1)]
theorem sq_zero : Sq (List.replicate 65 (List.replicate 65 (0 : Int))) := ⟨by simp, fun r hr => by rw [List.eq_of_mem_replicate hr]; simp⟩
/-! The table filled. -/
abbrev Blk : Type := List Int × List Int × List (List Int) × List (List Int) × Unit
theorem nn {n : Nat} (h : n < 4611686018427387904) : wi64 ((n : Int) + 1) = ((n + 1 : Nat) : Int) := zfr (by omega)
variable {go2 : Int -> Blk -> Option Blk} {x y : List Int} {i k : Nat} {b : Blk}
theorem filled_j8 (hc : Sq b.2.2.1) (hm : Sq b.2.2.2.1) (hi : i < 65) (hk : k < 65) (both left right n : Int) :
  zc8 (i : Int) (k : Int) b go2 both left right n = go2 (wi64 ((k : Int) - 1)) (b.1, b.2.1, set2 b.2.2.1 i k (mnI (mnI both left) right), set2 b.2.2.2.1 i k (mnI n 1048577), ()) := by
 unfold zc8 zc7
 rw [chk_of (by omega)]; simp only [Option.bind_some]
 rw [chk_of (by omega)]; simp only [Option.bind_some]
 rw [(hc.row hi).2]; simp only [Option.bind_some]
 rw [hc.at2 hi hk]; simp only [Option.bind_some]
 rw [(hm.row hi).2]; simp only [Option.bind_some]
 rw [hm.at2 hi hk]; simp only [Option.bind_some]
 simp only [Int.toNat_natCast]
 rfl
theorem filled_j5 (hc : Sq b.2.2.1) (hm : Sq b.2.2.2.1) (hi : i < 65) (hk : k < 65) {both left right : Int} (h1 : both = mnI (mnI both left) right -> i < 64 /\ k < 64) (h2 : left = mnI (mnI both left) right -> i < 64) (h3 : right = mnI (mnI both left) right -> k < 64) :
  ∃ n, zdb both left (i : Int) (k : Int) b go2 right = zc8 (i : Int) (k : Int) b go2 both left right n := by
 have j7 : ∀ n, ∃ n', zc9 right both left (i : Int) (k : Int) b go2 n = zc8 (i : Int) (k : Int) b go2 both left right n' := by
  intro n
  unfold zc9
  by_cases h : (right == mnI (mnI both left) right) = true
  ·have := h3 (beq_iff_eq.1 h)
   rw [if_pos h, nn (by omega), chk_of (by omega)]; simp only [Option.bind_some]
   rw [chk_of (by omega)]; simp only [Option.bind_some]
   rw [(hm.row hi).2]; simp only [Option.bind_some]
   rw [hm.at2 hi (by omega)]; simp only [Option.bind_some]
   exact ⟨_, rfl⟩
  ·rw [if_neg h]; exact ⟨_, rfl⟩
 have j6 : ∀ n, ∃ n', zda left both right (i : Int) (k : Int) b go2 n = zc8 (i : Int) (k : Int) b go2 both left right n' := by
  intro n
  unfold zda
  by_cases h : (left == mnI (mnI both left) right) = true
  ·have := h2 (beq_iff_eq.1 h)
   rw [if_pos h, nn (by omega), chk_of (by omega)]; simp only [Option.bind_some]
   rw [chk_of (by omega)]; simp only [Option.bind_some]
   rw [(hm.row (p := i + 1) (by omega)).2]; simp only [Option.bind_some]
   rw [hm.at2 (by omega) hk]; simp only [Option.bind_some]
   exact j7 _
  ·rw [if_neg h]; exact j7 _
 unfold zdb
 by_cases h : (both == mnI (mnI both left) right) = true
 ·have := h1 (beq_iff_eq.1 h)
  rw [if_pos h, nn (by omega), nn (by omega), chk_of (by omega)]; simp only [Option.bind_some]
  rw [chk_of (by omega)]; simp only [Option.bind_some]
  rw [(hm.row (p := i + 1) (by omega)).2]; simp only [Option.bind_some]
  rw [hm.at2 (by omega) (by omega)]; simp only [Option.bind_some]
  exact j6 _
 ·rw [if_neg h]; exact j6 _
def Fill (a : Alph) (x y : List Int) (C : List (List Int)) (i k : Nat) : Prop :=
 ∀ p q, p <= x.length -> q <= y.length -> (i < p \/ p = i /\ k <= q) -> get2 C p q = costL a (x.drop p) (y.drop q)
theorem drop_at {α : Type} {l : List α} {i : Nat} (h : i < l.length) : l.drop i = l[i]'h :: l.drop (i + 1) := List.drop_eq_getElem_cons h
theorem filled_b2 (a : Alph) {n : Nat} {go1 : Int -> List (List UInt8) -> List (Int × Int × Int × Unit) -> Blk -> Option Blk} (hc : Sq b.2.2.1) (hm : Sq b.2.2.2.1) (hx : x.length <= 64) (hy : y.length <= 64) (hi : i <= x.length) (hk : k <= y.length) (hf : Fill a x y b.2.2.1 i (k + 1)) (hb : b.1 = x /\ b.2.1 = y) (h00 : i = x.length -> k = y.length -> get2 b.2.2.1 i k = 0) :
  ∃ b', zdg 80000 x (i : Int) y a.1 a.2.1 go1 go2 (k : Int) b = go2 (wi64 ((k : Int) - 1)) b' /\ Sq b'.2.2.1 /\ Sq b'.2.2.2.1 /\ Fill a x y b'.2.2.1 i k /\ (b'.1 = x /\ b'.2.1 = y) /\ (∀ p q, ¬ (p = i /\ q = k) -> get2 b'.2.2.1 p q = get2 b.2.2.1 p q) := by
 unfold zdg zdf
 rw [if_pos (by simp only [decide_eq_true_eq]; omega)]
 by_cases h0 : i = x.length /\ k = y.length
 ·rw [if_pos (by simp [h0.1, h0.2])]
  unfold zc7
  refine ⟨b, rfl, hc, hm, fun p q hp hq hpq => ?_, hb, fun _ _ _ => rfl⟩
  by_cases e : p = i /\ q = k
  ·rw [e.1, e.2, h00 h0.1 h0.2, h0.1, h0.2, List.drop_length, List.drop_length]
   unfold costL
   rfl
  ·exact hf p q hp hq (by omega)
 rw [if_neg (by simp; omega)]
 -- what is known of the neighbours
 have bd := fun p q => costL_bd a _ (x.drop p) (y.drop q) (Nat.le_refl _)
 have bd' : ∀ p q, 0 <= costL a (x.drop p) (y.drop q) /\ costL a (x.drop p) (y.drop q) <= 640 := fun p q => by
  have := bd p q
  simp only [List.length_drop] at this
  omega
 -- both
 obtain ⟨both, eb, hbv⟩ : ∃ both, (∀ f : Int -> Option Blk, (if (decide ((i : Int) < (x.length : Int)) && decide ((k : Int) < (y.length : Int))) = true then
   Option.bind (at? x (i : Int)) fun x18 => Option.bind (at? y (k : Int)) fun x19 => Option.bind (zc6 80000 (a.1, a.2.1, ()) x18 x19) fun v1 =>
   Option.bind (chk (0 <= (wi64 ((i : Int) + (1 : Int))) /\ (wi64 ((i : Int) + (1 : Int))) < (65 : Int))) fun _ =>
   Option.bind (chk (0 <= (wi64 ((k : Int) + (1 : Int))) /\ (wi64 ((k : Int) + (1 : Int))) < (65 : Int))) fun _ =>
   Option.bind (at? b.2.2.1 (wi64 ((i : Int) + (1 : Int)))) fun x20 =>
   Option.bind (at? x20 (wi64 ((k : Int) + (1 : Int)))) fun x21 => f (wi64 (v1 + x21))
   else f 1073741824) = f both) /\ ((∃ (h1 : i < x.length) (h2 : k < y.length), both = frV a (x[i]'h1) (y[k]'h2) + costL a (x.drop (i + 1)) (y.drop (k + 1))) \/ (both = 1073741824 /\ ¬ (i < x.length /\ k < y.length))) := by
  by_cases h : i < x.length /\ k < y.length
  ·obtain ⟨h1, h2⟩ := h
   refine ⟨frV a (x[i]'h1) (y[k]'h2) + costL a (x.drop (i + 1)) (y.drop (k + 1)), fun f => ?_, .inl ⟨h1, h2, rfl⟩⟩
   have hfar : zc6 80000 (a.1, a.2.1, ()) (x[i]'h1) (y[k]'h2) = some (frV a (x[i]'h1) (y[k]'h2)) := far_val a _ _
   have fb := far_bd a (x[i]'h1) (y[k]'h2)
   have cb := bd' (i + 1) (k + 1)
   rw [if_pos (by simp only [Bool.and_eq_true, decide_eq_true_eq]; omega), at_lt h1]; simp only [Option.bind_some]
   rw [at_lt h2]; simp only [Option.bind_some]
   rw [hfar]; simp only [Option.bind_some]
   rw [nn (by omega), nn (by omega), chk_of (by omega)]; simp only [Option.bind_some]
   rw [chk_of (by omega)]; simp only [Option.bind_some]
   rw [(hc.row (p := i + 1) (by omega)).2]; simp only [Option.bind_some]
   rw [hc.at2 (by omega) (by omega)]; simp only [Option.bind_some]
   rw [hf (i + 1) (k + 1) (by omega) (by omega) (by omega), wi64_of (by omega)]
  ·exact ⟨1073741824, fun f => by rw [if_neg (by simp only [Bool.and_eq_true, decide_eq_true_eq]; omega)], .inr ⟨rfl, h⟩⟩
 -- left
 obtain ⟨left, el, hlv⟩ : ∃ left, (∀ f : Int -> Option Blk, (if decide ((i : Int) < (x.length : Int)) = true then
   Option.bind (chk (0 <= (wi64 ((i : Int) + (1 : Int))) /\ (wi64 ((i : Int) + (1 : Int))) < (65 : Int))) fun _ =>
   Option.bind (chk (0 <= (k : Int) /\ (k : Int) < (65 : Int))) fun _ =>
   Option.bind (at? b.2.2.1 (wi64 ((i : Int) + (1 : Int)))) fun x16 =>
   Option.bind (at? x16 (k : Int)) fun x17 => f (wi64 ((5 : Int) + x17))
   else f 1073741824) = f left) /\ ((i < x.length /\ left = 5 + costL a (x.drop (i + 1)) (y.drop k)) \/ (left = 1073741824 /\ ¬ i < x.length)) := by
  by_cases h : i < x.length
  ·refine ⟨5 + costL a (x.drop (i + 1)) (y.drop k), fun f => ?_, .inl ⟨h, rfl⟩⟩
   have cb := bd' (i + 1) k
   rw [if_pos (by simp only [decide_eq_true_eq]; omega), nn (by omega), chk_of (by omega)]; simp only [Option.bind_some]
   rw [chk_of (by omega)]; simp only [Option.bind_some]
   rw [(hc.row (p := i + 1) (by omega)).2]; simp only [Option.bind_some]
   rw [hc.at2 (by omega) (by omega)]; simp only [Option.bind_some]
   rw [hf (i + 1) k (by omega) (by omega) (by omega), wi64_of (by omega)]
  ·exact ⟨1073741824, fun f => by rw [if_neg (by simp only [decide_eq_true_eq]; omega)], .inr ⟨rfl, h⟩⟩
 -- right
 obtain ⟨right, er, hrv⟩ : ∃ right, (∀ f : Int -> Option Blk, (if decide ((k : Int) < (y.length : Int)) = true then
   Option.bind (chk (0 <= (i : Int) /\ (i : Int) < (65 : Int))) fun _ =>
   Option.bind (chk (0 <= (wi64 ((k : Int) + (1 : Int))) /\ (wi64 ((k : Int) + (1 : Int))) < (65 : Int))) fun _ =>
   Option.bind (at? b.2.2.1 (i : Int)) fun x14 =>
   Option.bind (at? x14 (wi64 ((k : Int) + (1 : Int)))) fun x15 => f (wi64 ((5 : Int) + x15))
   else f 1073741824) = f right) /\ ((k < y.length /\ right = 5 + costL a (x.drop i) (y.drop (k + 1))) \/ (right = 1073741824 /\ ¬ k < y.length)) := by
  by_cases h : k < y.length
  ·refine ⟨5 + costL a (x.drop i) (y.drop (k + 1)), fun f => ?_, .inl ⟨h, rfl⟩⟩
   have cb := bd' i (k + 1)
   rw [if_pos (by simp only [decide_eq_true_eq]; omega), chk_of (by omega)]; simp only [Option.bind_some]
   rw [nn (by omega), chk_of (by omega)]; simp only [Option.bind_some]
   rw [(hc.row (p := i) (by omega)).2]; simp only [Option.bind_some]
   rw [hc.at2 (by omega) (by omega)]; simp only [Option.bind_some]
   rw [hf i (k + 1) (by omega) (by omega) (by omega), wi64_of (by omega)]
  ·exact ⟨1073741824, fun f => by rw [if_neg (by simp only [decide_eq_true_eq]; omega)], .inr ⟨rfl, h⟩⟩
 have hval : mnI (mnI both left) right = costL a (x.drop i) (y.drop k) := by
  by_cases h1 : i < x.length
  ·by_cases h2 : k < y.length
   ·rcases hbv with ⟨q1, q2, rfl⟩ | ⟨_, q⟩
    ·rcases hlv with ⟨_, rfl⟩ | ⟨_, q⟩
     ·rcases hrv with ⟨_, rfl⟩ | ⟨_, q⟩
      ·rw [drop_at h1, drop_at h2]
       conv => rhs; unfold costL
      ·exact absurd h2 q
     ·exact absurd h1 q
    ·exact absurd ⟨h1, h2⟩ q
   ·rcases hbv with ⟨q1, q2, _⟩ | ⟨rfl, _⟩
    ·exact absurd q2 h2
    rcases hlv with ⟨_, rfl⟩ | ⟨_, q⟩
    ·rcases hrv with ⟨q, _⟩ | ⟨rfl, _⟩
     ·exact absurd q h2
     ·have cb := bd' (i + 1) k
      have e : y.drop k = [] := List.drop_eq_nil_of_le (by omega)
      have e2 : costL a (x.drop i) (y.drop k) = 5 + costL a (x.drop (i + 1)) (y.drop k) := by
       rw [e, drop_at h1]
       conv => lhs; unfold costL
      have m1 := @mnI_le 1073741824 (5 + costL a (x.drop (i + 1)) (y.drop k))
      have m2 := @mnI_le (mnI 1073741824 (5 + costL a (x.drop (i + 1)) (y.drop k))) 1073741824
      omega
    ·exact absurd h1 q
  ·have h2 : k < y.length := by omega
   rcases hbv with ⟨q1, q2, _⟩ | ⟨rfl, _⟩
   ·exact absurd q1 h1
   rcases hlv with ⟨q, _⟩ | ⟨rfl, _⟩
   ·exact absurd q h1
   rcases hrv with ⟨_, rfl⟩ | ⟨_, q⟩
   ·have cb := bd' i (k + 1)
    have e : x.drop i = [] := List.drop_eq_nil_of_le (by omega)
    have e2 : costL a (x.drop i) (y.drop k) = 5 + costL a (x.drop i) (y.drop (k + 1)) := by
     rw [e, drop_at h2]
     conv => lhs; unfold costL
    have m1 := @mnI_le 1073741824 1073741824
    have m2 := @mnI_le (mnI 1073741824 1073741824) (5 + costL a (x.drop i) (y.drop (k + 1)))
    omega
   ·exact absurd h2 q
 have hcb := bd' i k
 obtain ⟨n', hn'⟩ := filled_j5 (go2 := go2) hc hm (i := i) (k := k) (by omega) (by omega) (both := both) (left := left) (right := right)
  (fun h => by rw [hval] at h; rcases hbv with ⟨q1, q2, _⟩ | ⟨rfl, _⟩ <;> omega)
  (fun h => by rw [hval] at h; rcases hlv with ⟨q1, _⟩ | ⟨rfl, _⟩ <;> omega)
  (fun h => by rw [hval] at h; rcases hrv with ⟨q1, _⟩ | ⟨rfl, _⟩ <;> omega)
 have hrun : zde 80000 x (i : Int) y (k : Int) a.1 a.2.1 b go2 (decide ((i : Int) < (x.length : Int)) && decide ((k : Int) < (y.length : Int))) = zdb both left (i : Int) (k : Int) b go2 right := by
  unfold zde
  refine Eq.trans (eb fun v => zdd (i : Int) x (k : Int) b y go2 v) ?_
  unfold zdd
  refine Eq.trans (el fun v => zdc (k : Int) y (i : Int) b both go2 v) ?_
  unfold zdc
  exact er fun v => zdb both left (i : Int) (k : Int) b go2 v
 rw [hrun, hn', filled_j8 hc hm (by omega) (by omega), hval]
 refine ⟨_, rfl, hc.set (by omega) _, hm.set (by omega) _, fun p q hp hq hpq => ?_, hb, fun p q hne => ?_⟩
 ·show get2 (set2 b.2.2.1 i k _) p q = _
  rw [hc.get_set (by omega) (by omega)]
  by_cases e : p = i /\ q = k
  ·rw [if_pos e, e.1, e.2]
  ·rw [if_neg e]
   exact hf p q hp hq (by omega)
 ·show get2 (set2 b.2.2.1 i k _) p q = _
  rw [hc.get_set (by omega) (by omega), if_neg hne]
theorem filled_l2 (a : Alph) {go1 : Int -> List (List UInt8) -> List (Int × Int × Int × Unit) -> Blk -> Option Blk} (hx : x.length <= 64) (hy : y.length <= 64) (hi : i <= x.length) : ∀ (k n : Nat) (b : Blk), k + 1 < n -> k <= y.length -> Sq b.2.2.1 -> Sq b.2.2.2.1 -> Fill a x y b.2.2.1 i (k + 1) -> (b.1 = x /\ b.2.1 = y) -> (i = x.length -> k = y.length -> get2 b.2.2.1 i k = 0) ->
  ∃ b', zdh 80000 x (i : Int) y a.1 a.2.1 go1 n (k : Int) b = go1 (wi64 ((i : Int) - 1)) a.1 a.2.1 b' /\ Sq b'.2.2.1 /\ Sq b'.2.2.2.1 /\ Fill a x y b'.2.2.1 i 0 /\ (b'.1 = x /\ b'.2.1 = y) := by
 intro k
 induction k with
 | zero =>
  intro n b hn hk hc hm hf hb h00
  obtain ⟨n, rfl⟩ : ∃ n', n = n' + 2 := ⟨n - 2, by omega⟩
  unfold zdh
  obtain ⟨b', e, h1, h2, h3, h4, _⟩ := filled_b2 (go2 := zdh 80000 x (i : Int) y a.1 a.2.1 go1 (n + 1)) (go1 := go1) (n := n) a hc hm hx hy hi hk hf hb h00
  rw [e]
  refine ⟨b', ?_, h1, h2, h3, h4⟩
  rw [show wi64 (((0 : Nat) : Int) - 1) = -1 from by rw [wi64_of (by omega)]; rfl]
  unfold zdh zdg
  rw [if_neg (by simp)]
 | succ k ih =>
  intro n b hn hk hc hm hf hb h00
  obtain ⟨n, rfl⟩ : ∃ n', n = n' + 1 := ⟨n - 1, by omega⟩
  unfold zdh
  obtain ⟨b', e, h1, h2, h3, h4, _⟩ := filled_b2 (go2 := zdh 80000 x (i : Int) y a.1 a.2.1 go1 n) (go1 := go1) (n := n) a hc hm hx hy hi hk hf hb h00
  rw [e, show wi64 (((k + 1 : Nat) : Int) - 1) = (k : Int) from by rw [wi64_of (by omega)]; omega]
  exact ih n b' (by omega) (by omega) h1 h2 h3 h4 (fun _ q => by omega)
theorem filled_l1 (a : Alph) (hx : x.length <= 64) (hy : y.length <= 64) : ∀ (i n : Nat) (b : Blk), i + 1 < n -> i <= x.length -> Sq b.2.2.1 -> Sq b.2.2.2.1 -> Fill a x y b.2.2.1 i (y.length + 1) -> (b.1 = x /\ b.2.1 = y) -> (i = x.length -> get2 b.2.2.1 i y.length = 0) ->
  ∃ b', zdj 80000 x y n (i : Int) a.1 a.2.1 b = some b' /\ Sq b'.2.2.1 /\ Fill a x y b'.2.2.1 0 0 /\ (b'.1 = x /\ b'.2.1 = y) := by
 intro i
 induction i with
 | zero =>
  intro n b hn hi hc hm hf hb h00
  obtain ⟨n, rfl⟩ : ∃ n', n = n' + 2 := ⟨n - 2, by omega⟩
  unfold zdj zdi
  rw [if_pos (by simp)]
  obtain ⟨b', e, h1, h2, h3, h4⟩ := filled_l2 (i := 0) (go1 := zdj 80000 x y (n + 1)) a hx hy hi y.length 80000 b (by omega) (Nat.le_refl _) hc hm hf hb (fun q _ => h00 q)
  refine ⟨b', ?_, h1, h3, h4⟩
  refine Eq.trans e ?_
  rw [show wi64 (((0 : Nat) : Int) - 1) = -1 from by rw [wi64_of (by omega)]; rfl]
  unfold zdj zdi
  rw [if_neg (by simp)]
 | succ i ih =>
  intro n b hn hi hc hm hf hb h00
  obtain ⟨n, rfl⟩ : ∃ n', n = n' + 1 := ⟨n - 1, by omega⟩
  unfold zdj zdi
  rw [if_pos (by simp only [decide_eq_true_eq]; omega)]
  obtain ⟨b', e, h1, h2, h3, h4⟩ := filled_l2 (i := i + 1) (go1 := zdj 80000 x y n) a hx hy hi y.length 80000 b (by omega) (Nat.le_refl _) hc hm hf hb (fun q _ => h00 q)
  obtain ⟨b2, e2, r⟩ := ih n b' (by omega) (by omega) h1 h2 (fun p q hp hq hpq => h3 p q hp hq (by omega)) h4 (fun q => by omega)
  refine ⟨b2, ?_, r⟩
  refine Eq.trans e ?_
  rw [show wi64 (((i + 1 : Nat) : Int) - 1) = (i : Int) from by rw [wi64_of (by omega)]; omega]
  exact e2
theorem filled_val (a : Alph) (hx : x.length <= 64) (hy : y.length <= 64) : ∃ b, zdk 80000 a x y = some b /\ Sq b.2.2.1 /\ (∀ p q, p <= x.length -> q <= y.length -> get2 b.2.2.1 p q = costL a (x.drop p) (y.drop q)) /\ (b.1 = x /\ b.2.1 = y) := by
 unfold zdk
 have hz : ∀ p q, get2 (List.replicate 65 (List.replicate 65 (0 : Int))) p q = 0 := by
  intro p q
  unfold get2
  rw [List.getD_eq_getElem?_getD, List.getD_eq_getElem?_getD]
  by_cases hp : p < 65
  ·rw [List.getElem?_replicate, if_pos hp]
   simp only [Option.getD_some]
   by_cases hq : q < 65
   ·rw [List.getElem?_replicate, if_pos hq]; rfl
   ·rw [List.getElem?_replicate, if_neg hq]; rfl
  ·rw [List.getElem?_replicate, if_neg hp]
   simp
 rw [chk_of (by omega)]; simp only [Option.bind_some]
 rw [chk_of (by omega)]; simp only [Option.bind_some]
 rw [(sq_zero.row (p := x.length) (by omega)).2]; simp only [Option.bind_some]
 rw [sq_zero.at2 (p := x.length) (q := y.length) (by omega) (by omega)]; simp only [Option.bind_some]
 simp only [Int.toNat_natCast]
 obtain ⟨b, e, h1, h2, h3⟩ := filled_l1 (x := x) (y := y) a hx hy x.length 80000 (x, y, List.replicate 65 (List.replicate 65 (0 : Int)), set2 (List.replicate 65 (List.replicate 65 (0 : Int))) x.length y.length 1, ()) (by omega) (Nat.le_refl _) sq_zero (sq_zero.set (by omega) _) (fun p q hp hq hpq => by omega) ⟨rfl, rfl⟩ (fun _ => hz _ _)
 exact ⟨b, e, h1, fun p q hp hq => h2 p q hp hq (by omega), h3⟩
theorem first_l1 (a : Alph) (hx : x.length <= 64) (hy : y.length <= 64) {b : Blk} (hc : Sq b.2.2.1) (hf : ∀ p q, p <= x.length -> q <= y.length -> get2 b.2.2.1 p q = costL a (x.drop p) (y.drop q)) (hb : b.1 = x /\ b.2.1 = y) : ∀ (n i k : Nat) (l : List (Int × Int × Unit)), (x.length - i) + (y.length - k) < n -> i <= x.length -> k <= y.length -> l.length <= i + k ->
  zdr 80000 b a n (i : Int) (k : Int) l = some (l ++ firstL a (x.drop i) (y.drop k)) := by
 intro n
 induction n with
 | zero => intro i k l h; omega
 | succ n ih =>
  intro i k l hn hi hk hl
  have bd' : ∀ p q, 0 <= costL a (x.drop p) (y.drop q) /\ costL a (x.drop p) (y.drop q) <= 640 := fun p q => by
   have := costL_bd a _ (x.drop p) (y.drop q) (Nat.le_refl _)
   simp only [List.length_drop] at this
   omega
  have hlim : ∀ z : Int × Int × Unit, l.length + [z].length <= lim := fun z => by
   have : lim = 4611686018427387904 \/ 1000 <= lim := .inr (by decide)
   simp only [List.length_cons, List.length_nil]
   have : 1000 <= lim := by decide
   omega
  unfold zdr align_table_first_i1_b1 align_table_first_i1_j1
  rw [hb.1, hb.2]
  by_cases h0 : i = x.length /\ k = y.length
  ·rw [if_neg (by simp only [Bool.or_eq_true, decide_eq_true_eq]; omega), h0.1, h0.2, List.drop_length, List.drop_length]
   unfold firstL
   simp
  rw [if_pos (by simp only [Bool.or_eq_true, decide_eq_true_eq]; omega), chk_of (by omega)]; simp only [Option.bind_some]
  rw [chk_of (by omega)]; simp only [Option.bind_some]
  rw [(hc.row (p := i) (by omega)).2]; simp only [Option.bind_some]
  rw [hc.at2 (p := i) (q := k) (by omega) (by omega), hf i k hi hk]; simp only [Option.bind_some]
  -- a letter over none; none over a letter
  have j4 : ∀ t : Bool, (t = true -> i < x.length) -> (t = false -> k < y.length) -> zdp b (i : Int) l (zdr 80000 b a n) (k : Int) t = some (l ++ (if t then (x.getD i 0, 0, ()) :: firstL a (x.drop (i + 1)) (y.drop k) else (0, y.getD k 0, ()) :: firstL a (x.drop i) (y.drop (k + 1)))) := by
   intro t h1 h2
   unfold zdp
   rw [hb.1, hb.2]
   cases t with
   | true =>
    have h := h1 rfl
    rw [if_pos rfl, at_lt h]; simp only [Option.bind_some]
    rw [chk_of (hlim _)]; simp only [Option.bind_some]
    rw [nn (by omega), ih (i + 1) k _ (by omega) (by omega) hk (by simp; omega), List.append_assoc]
    simp [List.getD_eq_getElem?_getD, h]
   | false =>
    have h := h2 rfl
    rw [if_neg (by simp), at_lt h]; simp only [Option.bind_some]
    rw [chk_of (hlim _)]; simp only [Option.bind_some]
    rw [nn (by omega), ih i (k + 1) _ (by omega) hi (by omega) (by simp; omega), List.append_assoc]
    simp [List.getD_eq_getElem?_getD, h]
  have left : i < x.length -> ∀ v : Int, zdq b (i : Int) (k : Int) l (zdr 80000 b a n) v false = zdp b (i : Int) l (zdr 80000 b a n) (k : Int) (v == 5 + costL a (x.drop (i + 1)) (y.drop k)) := by
   intro h v
   have cb := bd' (i + 1) k
   unfold zdq
   rw [if_neg (by simp), hb.1, if_pos (by simp only [decide_eq_true_eq]; omega), nn (by omega), chk_of (by omega)]; simp only [Option.bind_some]
   rw [chk_of (by omega)]; simp only [Option.bind_some]
   rw [(hc.row (p := i + 1) (by omega)).2]; simp only [Option.bind_some]
   rw [hc.at2 (p := i + 1) (q := k) (by omega) (by omega), hf (i + 1) k (by omega) hk]; simp only [Option.bind_some]
   rw [wi64_of (by omega)]
  unfold align_table_first_i1_j2
  rw [hb.1, hb.2]
  by_cases h1 : i < x.length
  ·by_cases h2 : k < y.length
   ·rw [if_pos (by simp only [Bool.and_eq_true, decide_eq_true_eq]; omega), at_lt h1]; simp only [Option.bind_some]
    rw [at_lt h2]; simp only [Option.bind_some]
    have hfar : zc6 80000 (a.1, a.2.1, ()) (x[i]'h1) (y[k]'h2) = some (frV a (x[i]'h1) (y[k]'h2)) := far_val a _ _
    have fb := far_bd a (x[i]'h1) (y[k]'h2)
    have cb := bd' (i + 1) (k + 1)
    rw [hfar]; simp only [Option.bind_some]
    rw [nn (by omega), nn (by omega), chk_of (by omega)]; simp only [Option.bind_some]
    rw [chk_of (by omega)]; simp only [Option.bind_some]
    rw [(hc.row (p := i + 1) (by omega)).2]; simp only [Option.bind_some]
    rw [hc.at2 (p := i + 1) (q := k + 1) (by omega) (by omega), hf (i + 1) (k + 1) (by omega) (by omega)]; simp only [Option.bind_some]
    rw [wi64_of (by omega)]
    have hfl : firstL a (x.drop i) (y.drop k) = if costL a (x.drop i) (y.drop k) = frV a (x[i]'h1) (y[k]'h2) + costL a (x.drop (i + 1)) (y.drop (k + 1)) then (x[i]'h1, y[k]'h2, ()) :: firstL a (x.drop (i + 1)) (y.drop (k + 1))
      else if costL a (x.drop i) (y.drop k) = 5 + costL a (x.drop (i + 1)) (y.drop k) then (x[i]'h1, 0, ()) :: firstL a (x.drop (i + 1)) (y.drop k) else (0, y[k]'h2, ()) :: firstL a (x.drop i) (y.drop (k + 1)) := by
     rw [drop_at h1, drop_at h2]
     conv => lhs; unfold firstL
    by_cases e1 : costL a (x.drop i) (y.drop k) = frV a (x[i]'h1) (y[k]'h2) + costL a (x.drop (i + 1)) (y.drop (k + 1))
    ·rw [beq_iff_eq.2 e1]
     unfold zdq
     rw [if_pos rfl, hb.1, hb.2, at_lt h1]; simp only [Option.bind_some]
     rw [at_lt h2]; simp only [Option.bind_some]
     rw [chk_of (hlim _)]; simp only [Option.bind_some]
     rw [nn (by omega), nn (by omega), ih (i + 1) (k + 1) _ (by omega) (by omega) (by omega) (by simp; omega), hfl, if_pos e1, List.append_assoc]
     rfl
    ·rw [show (costL a (x.drop i) (y.drop k) == frV a (x[i]'h1) (y[k]'h2) + costL a (x.drop (i + 1)) (y.drop (k + 1))) = false from by simpa using e1, left h1, hfl, if_neg e1]
     by_cases e2 : costL a (x.drop i) (y.drop k) = 5 + costL a (x.drop (i + 1)) (y.drop k)
     ·rw [beq_iff_eq.2 e2, j4 true (fun _ => h1) (fun q => by cases q), if_pos rfl, if_pos e2]
      simp [List.getD_eq_getElem?_getD, h1]
     ·rw [show (costL a (x.drop i) (y.drop k) == 5 + costL a (x.drop (i + 1)) (y.drop k)) = false from by simpa using e2, j4 false (fun q => by cases q) (fun _ => h2), if_neg (by simp), if_neg e2]
      simp [List.getD_eq_getElem?_getD, h2]
   ·rw [if_neg (by simp only [Bool.and_eq_true, decide_eq_true_eq]; omega), left h1]
    have e : y.drop k = [] := List.drop_eq_nil_of_le (by omega)
    have e2 : costL a (x.drop i) (y.drop k) = 5 + costL a (x.drop (i + 1)) (y.drop k) := by
     rw [e, drop_at h1]
     conv => lhs; unfold costL
    rw [beq_iff_eq.2 e2, j4 true (fun _ => h1) (fun q => by cases q), if_pos rfl, e, drop_at h1]
    conv => rhs; unfold firstL
    simp [List.getD_eq_getElem?_getD, h1]
  ·have h2 : k < y.length := by omega
   rw [if_neg (by simp only [Bool.and_eq_true, decide_eq_true_eq]; omega)]
   unfold zdq
   rw [if_neg (by simp), hb.1, if_neg (by simp only [decide_eq_true_eq]; omega), j4 false (fun q => by cases q) (fun _ => h2), if_neg (by simp)]
   have e : x.drop i = [] := List.drop_eq_nil_of_le (by omega)
   rw [e, drop_at h2]
   conv => rhs; unfold firstL
   simp [List.getD_eq_getElem?_getD, h2]
theorem first_val (a : Alph) (hx : x.length <= 64) (hy : y.length <= 64) {b : Blk} (hc : Sq b.2.2.1) (hf : ∀ p q, p <= x.length -> q <= y.length -> get2 b.2.2.1 p q = costL a (x.drop p) (y.drop q)) (hb : b.1 = x /\ b.2.1 = y) :
  zds 80000 a b = some (firstL a x y) := by
 unfold zds
 have := first_l1 a hx hy hc hf hb 80000 0 0 [] (by omega) (Nat.zero_le _) (Nat.zero_le _) (by simp)
 simpa using this
theorem firstL_mem (a : Alph) : ∀ n (x y : List Int), x.length + y.length <= n -> ∀ p ∈ firstL a x y, (p.1 = 0 \/ p.1 ∈ x) /\ (p.2.1 = 0 \/ p.2.1 ∈ y) := by
 intro n
 induction n with
 | zero =>
  intro x y h p hp
  have hx : x = [] := List.length_eq_zero_iff.1 (by omega)
  have hy : y = [] := List.length_eq_zero_iff.1 (by omega)
  subst hx; subst hy
  unfold firstL at hp
  cases hp
 | succ n ih =>
  intro x y h p hp
  match x, y, h, hp with
  | [], [], _, hp => unfold firstL at hp; cases hp
  | x :: xs, [], h, hp =>
   unfold firstL at hp
   rcases List.mem_cons.1 hp with rfl | hp
   ·exact ⟨.inr List.mem_cons_self, .inl rfl⟩
   ·have := ih xs [] (by simp only [List.length_cons, List.length_nil] at h ⊢; omega) p hp
    exact ⟨this.1.imp id (List.mem_cons_of_mem _), this.2⟩
  | [], y :: ys, h, hp =>
   unfold firstL at hp
   rcases List.mem_cons.1 hp with rfl | hp
   ·exact ⟨.inl rfl, .inr List.mem_cons_self⟩
   ·have := ih [] ys (by simp only [List.length_cons, List.length_nil] at h ⊢; omega) p hp
    exact ⟨this.1, this.2.imp id (List.mem_cons_of_mem _)⟩
  | x :: xs, y :: ys, h, hp =>
   unfold firstL at hp
   split at hp
   ·rcases List.mem_cons.1 hp with rfl | hp
    ·exact ⟨.inr List.mem_cons_self, .inr List.mem_cons_self⟩
    ·have := ih xs ys (by simp only [List.length_cons] at h ⊢; omega) p hp
     exact ⟨this.1.imp id (List.mem_cons_of_mem _), this.2.imp id (List.mem_cons_of_mem _)⟩
   ·split at hp
    ·rcases List.mem_cons.1 hp with rfl | hp
     ·exact ⟨.inr List.mem_cons_self, .inl rfl⟩
     ·have := ih xs (y :: ys) (by simp only [List.length_cons] at h ⊢; omega) p hp
      exact ⟨this.1.imp id (List.mem_cons_of_mem _), this.2⟩
    ·rcases List.mem_cons.1 hp with rfl | hp
     ·exact ⟨.inl rfl, .inr List.mem_cons_self⟩
     ·have := ih (x :: xs) ys (by simp only [List.length_cons] at h ⊢; omega) p hp
      exact ⟨this.1, this.2.imp id (List.mem_cons_of_mem _)⟩
theorem firstL_len (a : Alph) : ∀ n (x y : List Int), x.length + y.length <= n -> (firstL a x y).length <= x.length + y.length := by
 intro n
 induction n with
 | zero =>
  intro x y h
  have hx : x = [] := List.length_eq_zero_iff.1 (by omega)
  have hy : y = [] := List.length_eq_zero_iff.1 (by omega)
  subst hx; subst hy
  unfold firstL
  simp
 | succ n ih =>
  intro x y h
  match x, y, h with
  | [], [], _ => unfold firstL; simp
  | x :: xs, [], h =>
   have := ih xs [] (by simp only [List.length_cons, List.length_nil] at h ⊢; omega)
   unfold firstL
   simp only [List.length_cons, List.length_nil] at this ⊢
   omega
  | [], y :: ys, h =>
   have := ih [] ys (by simp only [List.length_cons, List.length_nil] at h ⊢; omega)
   unfold firstL
   simp only [List.length_cons, List.length_nil] at this ⊢
   omega
  | x :: xs, y :: ys, h =>
   have i1 := ih xs ys (by simp only [List.length_cons] at h ⊢; omega)
   have i2 := ih xs (y :: ys) (by simp only [List.length_cons] at h ⊢; omega)
   have i3 := ih (x :: xs) ys (by simp only [List.length_cons] at h ⊢; omega)
   unfold firstL
   split
   ·simp only [List.length_cons] at i1 ⊢; omega
   ·split
    ·simp only [List.length_cons] at i2 ⊢; omega
    ·simp only [List.length_cons] at i3 ⊢; omega
end Go.Ev
namespace Go.Ev
open Go
set_option linter.unusedVariables false
theorem RuneLen_tot (k : Nat) (r : Int) : Tot (zcx k r) := by
 unfold zcx unicode_utf8_RuneLen_j1
 exact tot_dec (fun _ => zfs _) fun _ => tot_dec (fun _ => zfs _) fun _ => tot_dec (fun _ => zfs _) fun _ => tot_ite (fun _ => zfs _) fun _ => tot_dec (fun _ => zfs _) fun _ => tot_dec (fun _ => zfs _) fun _ => zfs _
theorem lim_big : (1000000 : Nat) <= lim := by decide
theorem each_tot {s : List UInt8} (hs : s.length <= 1000) : ∀ n p (t : List (Int × Int × Int × Bool × Unit)), p <= s.length -> s.length - p < n -> t.length + (s.length - p) <= 2000 -> ∃ v, zc0 80000 s n p t = some v /\ v.length <= t.length + (s.length - p) := by
 intro n
 induction n with
 | zero => intro p t _ h; omega
 | succ n ih =>
  intro p t hp hn ht
  have hlb := lim_big
  unfold zc0 runes_each_i1_b1
  by_cases h : p < s.length
  ·rw [if_pos (by simpa using h)]
   have j1 : ∀ a b, ∃ v, zcz 80000 s p t (zc0 80000 s n) a b = some v /\ v.length <= t.length + (s.length - p) := by
    intro a b
    unfold zcz zcy
    rw [chk_of (by simp only [List.length_cons, List.length_nil]; omega)]; simp only [Option.bind_some]
    rw [if_neg (by simp)]
    have hg := g_size s p h
    obtain ⟨v, e, hv⟩ := ih (p + widthAt s p) (t ++ [(runeAt s p, (p : Int), a, b, ())]) (by rw [widthAt_g]; omega) (by rw [widthAt_g]; omega) (by rw [widthAt_g]; simp only [List.length_append, List.length_cons, List.length_nil]; omega)
    refine ⟨v, e, ?_⟩
    rw [widthAt_g] at hv
    simp only [List.length_append, List.length_cons, List.length_nil] at hv
    omega
   obtain ⟨l, hl⟩ := RuneLen_tot 80000 (runeAt s p)
   rw [hl]; simp only [Option.bind_some]
   split
   ·rw [sub_suf (by omega)]; simp only [Option.bind_some]
    unfold utf8_DecodeRuneInString
    simp only [Option.bind_some]
    split
    ·exact j1 _ _
    ·exact j1 _ _
   ·exact j1 _ _
  ·rw [if_neg (by simpa using h)]
   exact ⟨t, rfl, by omega⟩
theorem pieces_tot {s : List UInt8} (hs : s.length <= 1000) : ∃ v, runes_Pieces 80000 s = some (v, 0) /\ v.length <= 1000 := by
 unfold runes_Pieces runes_long
 rw [if_neg (by simp only [decide_eq_true_eq]; omega)]
 simp only [Option.bind_some]
 rw [if_neg (by simp)]
 unfold zc1
 obtain ⟨v, e, hv⟩ := each_tot hs 80000 0 [] (Nat.zero_le _) (by omega) (by simp; omega)
 rw [e]
 exact ⟨v, rfl, by simp only [List.length_nil] at hv; omega⟩
theorem read_l1 {v : List (Int × Int × Int × Bool × Unit)} (hv : v.length <= 1000) (m : Option (List (Int × Int))) (S : Int -> Prop) (hS : ∀ r : Int, (mget (eqEl (.int .i32)) (m.getD []) r).isSome = true -> S r) : ∀ n i (out : List Int), i <= v.length -> v.length - i < n -> out.length <= 64 -> (∀ r ∈ out, S r) ->
  ∃ o e, zc2 (v, 0) m n (i : Int) out = some (o, e) /\ (e = 0 -> o.length <= 64 /\ ∀ r ∈ o, S r) := by
 intro n
 induction n with
 | zero => intro i out _ h; omega
 | succ n ih =>
  intro i out hi hn ho hout
  have hlb := lim_big
  unfold zc2 word_read_b1
  by_cases h : i < v.length
  ·rw [if_pos (by simp only [decide_eq_true_eq]; omega), at_lt h]; simp only [Option.bind_some]
   split
   ·exact ⟨[], 6, rfl, fun h => by omega⟩
   split
   ·exact ⟨[], 5, rfl, fun h => by omega⟩
   rename_i hm
   split
   ·exact ⟨[], 4, rfl, fun h => by omega⟩
   rename_i hl
   have hl' : out.length ≠ 64 := fun e => hl (by rw [e]; rfl)
   rw [chk_of (by simp only [List.length_cons, List.length_nil]; omega)]; simp only [Option.bind_some]
   rw [zfr (by omega)]
   refine ih (i + 1) _ (by omega) (by omega) (by simp only [List.length_append, List.length_cons, List.length_nil]; omega) fun r hr => ?_
   rcases List.mem_append.1 hr with hr | hr
   ·exact hout r hr
   ·have : r = (v[i]'h).1 := by simpa using hr
    subst this
    exact hS _ (Option.isSome_iff_ne_none.2 (by simpa using hm))
  ·rw [if_neg (by simp only [decide_eq_true_eq]; omega)]
   exact ⟨out, 0, rfl, fun _ => ⟨ho, hout⟩⟩
theorem ranks_l1 (a : Alph) (h : a.2.1.length <= 128) : ∀ n i (m : List (Int × Int)), i <= a.2.1.length -> a.2.1.length - i < n -> (∀ r : Int, (mget (eqEl (.int .i32)) m r).isSome = true -> r ∈ a.2.1.map (·.1)) ->
  ∃ m', zcw a n (i : Int) m = some (some m', 0) /\ ∀ r : Int, (mget (eqEl (.int .i32)) m' r).isSome = true -> r ∈ a.2.1.map (·.1) := by
 intro n
 induction n with
 | zero => intro i m _ h; omega
 | succ n ih =>
  intro i m hi hn hm
  unfold zcw word_ranks_b1
  by_cases h : i < a.2.1.length
  ·rw [if_pos (by simp only [decide_eq_true_eq]; omega), at_lt h]; simp only [Option.bind_some]
   rw [zfr (by omega)]
   refine ih (i + 1) _ (by omega) (by omega) fun r hr => ?_
   have := zft zfu (a.2.1[i]'h).1 r (i : Int) m
   by_cases e : r = (a.2.1[i]'h).1
   ·rw [e]; exact List.mem_map.2 ⟨_, List.getElem_mem h, rfl⟩
   ·exact hm r ((congrArg Option.isSome (this.2 e)).symm.trans hr)
  ·rw [if_neg (by simp only [decide_eq_true_eq]; omega)]
   exact ⟨m, rfl, hm⟩
theorem chkA_len {a : Alph} (h : chkA a = true) : a.1.length <= 24 /\ 1 <= a.2.1.length /\ a.2.1.length <= 128 := by
 refine Classical.byContradiction fun hn => ?_
 rw [chkA_out hn] at h
 cases h
theorem Letters_val (a : Alph) {w : List UInt8} (hw : w.length <= 1000) : ∃ ls e, zc3 80000 a w = some (ls, e) /\ (e = 0 -> chkA a = true /\ ls.length <= 64 /\ ∀ r ∈ ls, r ∈ a.2.1.map (·.1)) := by
 unfold zc3 word_ranks
 have hf : zco 80000 (a.1, a.2.1, ()) = some (if chkA a then 0 else 7) := featCheck_val a
 rw [show zco 80000 ((a.1, a.2.1, ()) : Alph) = some (if chkA a then 0 else 7) from hf]
 simp only [Option.bind_some]
 cases hc : chkA a with
 | false => exact ⟨[], 7, rfl, fun h => by omega⟩
 | true =>
  have hl := chkA_len hc
  rw [if_neg (by simp)]
  obtain ⟨m, hm, hS⟩ := ranks_l1 (a.1, a.2.1, ()) hl.2.2 80000 0 [] (Nat.zero_le _) (by show a.2.1.length - 0 < 80000; omega) (fun r hr => by simp [mget] at hr)
  rw [show zcw (a.1, a.2.1, ()) 80000 (0 : Int) [] = some (some m, 0) from hm]
  simp only [Option.bind_some]
  rw [if_neg (by simp)]
  unfold word_read
  rw [if_neg (by simp only [decide_eq_true_eq]; omega)]
  unfold word_read_j1
  obtain ⟨v, hv, hvl⟩ := pieces_tot hw
  rw [hv]; simp only [Option.bind_some]
  rw [if_neg (by simp)]
  obtain ⟨o, e, he, hp⟩ := read_l1 hvl (some m) (fun r => r ∈ a.2.1.map (fun l : Int × Int × Int × Unit => l.1)) hS 80000 0 [] (Nat.zero_le _) (by omega) (by simp) (by simp)
  rw [show zc2 (v, 0) (some m) 80000 (0 : Int) [] = some (o, e) from he]
  exact ⟨o, e, rfl, fun h => ⟨trivial, hp h⟩⟩
def PairOK (a : Alph) (p : Int × Int × Unit) : Prop := (p.1 = 0 \/ p.1 ∈ a.2.1.map (·.1)) /\ (p.2.1 = 0 \/ p.2.1 ∈ a.2.1.map (·.1))
theorem Words_val (a : Alph) {x y : List UInt8} (hx : x.length <= 1000) (hy : y.length <= 1000) : ∃ c ps e, zdt 80000 a x y = some (c, ps, e) /\ (e = 0 -> chkA a = true /\ ps.length <= 128 /\ ∀ p ∈ ps, PairOK a p) := by
 unfold zdt zdl
 obtain ⟨ls, e, h1, h2⟩ := Letters_val a hx
 rw [show zc3 80000 ((a.1, a.2.1, ()) : Alph) x = some (ls, e) from h1]
 simp only [Option.bind_some]
 by_cases he : e = 0
 ·subst he
  rw [if_neg (by simp)]
  obtain ⟨ls', e', h1', h2'⟩ := Letters_val a hy
  rw [show zc3 80000 ((a.1, a.2.1, ()) : Alph) y = some (ls', e') from h1']
  simp only [Option.bind_some]
  by_cases he' : e' = 0
  ·subst he'
   rw [if_neg (by simp)]
   obtain ⟨q1, q2, q3⟩ := h2 rfl
   obtain ⟨_, r2, r3⟩ := h2' rfl
   obtain ⟨b, hb, hc, hf, hbl⟩ := filled_val (x := ls) (y := ls') a q2 r2
   rw [show zdk 80000 ((a.1, a.2.1, ()) : Alph) ls ls' = some b from hb]
   simp only [Option.bind_some, sumCase]
   rw [if_neg (by simp), chk_of (by omega)]; simp only [Option.bind_some]
   rw [show (0 : Int) = ((0 : Nat) : Int) from rfl, (hc.row (p := 0) (by omega)).2]; simp only [Option.bind_some]
   rw [hc.at2 (p := 0) (q := 0) (by omega) (by omega)]; simp only [Option.bind_some]
   have hfv := first_val a q2 r2 hc hf hbl
   rw [show zds 80000 ((a.1, a.2.1, ()) : Alph) b = some (firstL a ls ls') from hfv]
   refine ⟨_, _, _, rfl, fun _ => ⟨q1, ?_, fun p hp => ?_⟩⟩
   ·have := firstL_len a _ ls ls' (Nat.le_refl _)
    omega
   ·obtain ⟨p1, p2⟩ := firstL_mem a _ ls ls' (Nat.le_refl _) p hp
    exact ⟨p1.imp id (q3 _), p2.imp id (r3 _)⟩
  ·rw [if_pos (by simpa using he')]
   simp only [Option.bind_some, sumCase]
   rw [if_pos (by simpa using he')]
   exact ⟨_, _, _, rfl, fun h => absurd h he'⟩
 ·rw [if_pos (by simpa using he)]
  simp only [Option.bind_some, sumCase]
  rw [if_pos (by simpa using he)]
  exact ⟨_, _, _, rfl, fun h => absurd h he⟩
def alg (a : Alph) (g : List (List UInt8)) : List (Int × Int × Unit) := (((zdt 80000 a (g.getD 0 []) (g.getD 1 [])).map (·.2.1))).getD []
theorem aligned_l1 (a : Alph) (ha : chkA a = true) {l : List (List (List UInt8))} (hl : l.length <= 5000) (h2 : ∀ g ∈ l, g.length = 2 /\ ∀ w ∈ g, w.length <= 1000) : ∀ n i (out : List (List (Int × Int × Unit))), i <= l.length -> l.length - i < n -> out.length <= i ->
  ∃ al e, zdu 80000 l a n (i : Int) out = some (al, e) /\ ((e ≠ 0 /\ al = []) \/ e = 0 /\ al = out ++ (l.drop i).map (alg a) /\ ∀ g ∈ l.drop i, (∃ c, zdt 80000 a (g.getD 0 []) (g.getD 1 []) = some (c, alg a g, 0)) /\ (alg a g).length <= 128 /\ ∀ p ∈ alg a g, PairOK a p) := by
 intro n
 induction n with
 | zero => intro i out _ h; omega
 | succ n ih =>
  intro i out hi hn ho
  have hlb := lim_big
  unfold zdu corr_aligned_b1
  by_cases h : i < l.length
  ·rw [if_pos (by simp only [decide_eq_true_eq]; omega), at_lt h]; simp only [Option.bind_some]
   obtain ⟨g2, gw⟩ := h2 _ (List.getElem_mem h)
   have hd : l.drop i = l[i]'h :: l.drop (i + 1) := List.drop_eq_getElem_cons h
   generalize hg : l[i]'h = g at g2 gw hd
   match g, g2, gw, hd, hg with
   | [x, y], _, gw, hd, hg =>
    rw [chk_of (by omega)]; simp only [Option.bind_some]
    rw [show at? [x, y] (0 : Int) = some x from rfl]; simp only [Option.bind_some]
    rw [chk_of (by omega)]; simp only [Option.bind_some]
    rw [show at? [x, y] (1 : Int) = some y from rfl]; simp only [Option.bind_some]
    obtain ⟨c, ps, e, hv, hp⟩ := Words_val a (gw x (by simp)) (gw y (by simp))
    rw [show zdt 80000 ((a.1, a.2.1, ()) : Alph) x y = some (c, ps, e) from hv]; simp only [Option.bind_some]
    by_cases he : e = 0
    ·subst he
     obtain ⟨_, p1, p2⟩ := hp rfl
     have halg : alg a [x, y] = ps := by
      unfold alg
      rw [show ([x, y] : List (List UInt8)).getD 0 [] = x from rfl, show ([x, y] : List (List UInt8)).getD 1 [] = y from rfl, hv]
      rfl
     rw [if_neg (by simp), chk_of (by simp only [List.length_cons, List.length_nil]; omega)]; simp only [Option.bind_some]
     rw [zfr (by omega)]
     obtain ⟨al, e, h1, h3⟩ := ih (i + 1) (out ++ [ps]) (by omega) (by omega) (by simp only [List.length_append, List.length_cons, List.length_nil]; omega)
     refine ⟨al, e, h1, h3.imp id fun ⟨q1, q2, q3⟩ => ⟨q1, ?_, fun g hg => ?_⟩⟩
     ·rw [q2, hd, List.map_cons, halg, List.append_assoc]
      rfl
     ·rw [hd] at hg
      rcases List.mem_cons.1 hg with rfl | hg
      ·exact ⟨⟨c, by rw [halg]; exact hv⟩, by rw [halg]; exact p1, by rw [halg]; exact p2⟩
      ·exact q3 g hg
    ·rw [if_pos (by simpa using he)]
     exact ⟨[], e, rfl, .inl ⟨he, rfl⟩⟩
   | [], g2, _, _, _ => cases g2
   | [_], g2, _, _, _ => cases g2
   | _ :: _ :: _ :: _, g2, _, _, _ => simp at g2
  ·rw [if_neg (by simp only [decide_eq_true_eq]; omega)]
   have : l.drop i = [] := List.drop_eq_nil_of_le (by omega)
   refine ⟨out, 0, rfl, .inr ⟨rfl, by rw [this]; simp, fun g hg => by rw [this] at hg; cases hg⟩⟩
theorem aligned_val (a : Alph) {l : List (List (List UInt8))} (hl : l.length <= 5000) (h2 : ∀ g ∈ l, g.length = 2 /\ ∀ w ∈ g, w.length <= 1000) :
  ∃ al e, zdv 80000 a l = some (al, e) /\ ((e ≠ 0 /\ al = []) \/ e = 0 /\ chkA a = true /\ l.length <= 4096 /\ al = l.map (alg a) /\ ∀ g ∈ l, (∃ c, zdt 80000 a (g.getD 0 []) (g.getD 1 []) = some (c, alg a g, 0)) /\ (alg a g).length <= 128 /\ ∀ p ∈ alg a g, PairOK a p) := by
 unfold zdv
 rw [show zco 80000 ((a.1, a.2.1, ()) : Alph) = some (if chkA a then 0 else 7) from featCheck_val a]
 simp only [Option.bind_some]
 cases hc : chkA a with
 | false => exact ⟨[], 7, rfl, .inl ⟨by omega, rfl⟩⟩
 | true =>
  rw [if_neg (by simp)]
  by_cases h : 4096 < l.length
  ·rw [if_pos (by simp only [decide_eq_true_eq]; omega)]
   exact ⟨[], 4, rfl, .inl ⟨by omega, rfl⟩⟩
  ·rw [if_neg (by simp only [decide_eq_true_eq]; omega)]
   obtain ⟨al, e, h1, h3⟩ := aligned_l1 a hc hl h2 80000 0 [] (Nat.zero_le _) (by omega) (by simp)
   refine ⟨al, e, h1, h3.imp id fun ⟨q1, q2, q3⟩ => ⟨q1, rfl, by omega, by simpa using q2, by simpa using q3⟩⟩
end Go.Ev
namespace Go.Ev
open Go
set_option linter.unusedVariables false
abbrev Pr : Type := Int × Int × Unit
abbrev eqP : Pr -> Pr -> Bool := eqEl (.pair (.int .i32) (.pair (.int .i32) .unit))
theorem eqP_iff (x y : Pr) : eqP x y = true ↔ x = y := by
 obtain ⟨a, b, _⟩ := x
 obtain ⟨c, d, _⟩ := y
 show ((a == c) && ((b == d) && true)) = true ↔ _
 simp
/-! Maps as0 lists. -/
section
variable {α β : Type} {eq : α -> α -> Bool}
theorem mset_keys (he : ∀ x y, eq x y = true ↔ x = y) (k : α) (v : β) : ∀ l : List (α × β), (l.map (·.1)).Nodup -> ((mset eq l k v).map (·.1)).Nodup /\ ∀ x, x ∈ (mset eq l k v).map (·.1) ↔ x = k \/ x ∈ l.map (·.1)
 | [], _ => by simp [mset]
 | p :: l, hn => by
  rw [List.map_cons, List.nodup_cons] at hn
  obtain ⟨i1, i2⟩ := mset_keys he k v l hn.2
  unfold mset
  by_cases h : eq k p.1 = true
  ·rw [if_pos h]
   have e := (he _ _).1 h
   subst e
   simp only [List.map_cons, List.nodup_cons, List.mem_cons]
   exact ⟨hn, fun x => by simp⟩
  ·rw [if_neg h]
   have hk : k ≠ p.1 := fun e => h ((he _ _).2 e)
   simp only [List.map_cons, List.nodup_cons, List.mem_cons]
   refine ⟨⟨fun hx => ?_, i1⟩, fun x => by rw [i2]; constructor <;> (intro h; rcases h with h | h | h <;> simp [h])⟩
   rcases (i2 p.1).1 hx with e | e
   ·exact hk e.symm
   ·exact hn.1 e
theorem mget_self (he : ∀ x y, eq x y = true ↔ x = y) : ∀ l : List (α × β), (l.map (·.1)).Nodup -> ∀ q ∈ l, mget eq l q.1 = some q.2
 | [], _, q, hq => by cases hq
 | p :: l, hn, q, hq => by
  rw [List.map_cons, List.nodup_cons] at hn
  unfold mget
  rcases List.mem_cons.1 hq with rfl | hq
  ·rw [if_pos ((he _ _).2 rfl)]
  ·by_cases h : eq q.1 p.1 = true
   ·exact absurd (List.mem_map.2 ⟨q, hq, (he _ _).1 h⟩) hn.1
   ·rw [if_neg h]; exact mget_self he l hn.2 q hq
end
def sumI : List Int -> Int
 | [] => 0
 | x :: l => x + sumI l
theorem sumI_perm {l m : List Int} (h : l.Perm m) : sumI l = sumI m := by
 induction h with
 | nil => rfl
 | cons x _ ih => simp only [sumI, ih]
 | swap x y l => simp only [sumI]; omega
 | trans _ _ i1 i2 => exact i1.trans i2
theorem sumI_mset {α : Type} {eq : α -> α -> Bool} (k : α) (v : Int) : ∀ l : List (α × Int), sumI ((mset eq l k v).map (·.2)) = sumI (l.map (·.2)) - (mget eq l k).getD 0 + v
 | [] => by simp [mset, mget, sumI]
 | p :: l => by
  unfold mset mget
  by_cases h : eq k p.1 = true
  ·rw [if_pos h, if_pos h]
   simp only [List.map_cons, sumI, Option.getD_some]
   omega
  ·rw [if_neg h, if_neg h]
   have := sumI_mset (eq := eq) k v l
   simp only [List.map_cons, sumI]
   omega
/-! Counting. -/
def cntOf (m : List (Pr × Int)) (p : Pr) : Int := (mget eqP m p).getD 0
def bump (m : List (Pr × Int)) (p : Pr) : List (Pr × Int) := mset eqP m p (wi64 (cntOf m p + 1))
structure Cnt (m : List (Pr × Int)) (ps : List Pr) : Prop where
 nd : (m.map (·.1)).Nodup
 keys : ∀ p, p ∈ m.map (·.1) ↔ p ∈ ps
 pos : ∀ p ∈ ps, 1 <= cntOf m p
 bd : ∀ p, 0 <= cntOf m p /\ cntOf m p <= ps.length
 sum : sumI (m.map (·.2)) = ps.length
theorem Cnt.nil : Cnt [] [] := ⟨by simp, fun p => by simp, fun p hp => (by cases hp), fun p => by simp [cntOf, mget], rfl⟩
theorem Cnt.bump {m : List (Pr × Int)} {ps : List Pr} (h : Cnt m ps) (p : Pr) (hl : ps.length < 1000000) : Cnt (bump m p) (ps ++ [p]) := by
 obtain ⟨k1, k2⟩ := mset_keys eqP_iff p (wi64 (cntOf m p + 1)) m h.nd
 have hb := h.bd p
 have hw : wi64 (cntOf m p + 1) = cntOf m p + 1 := wi64_of (by omega)
 have hc : ∀ q, cntOf (Ev.bump m p) q = if q = p then cntOf m p + 1 else cntOf m q := by
  intro q
  obtain ⟨g1, g2⟩ := zft eqP_iff p q (wi64 (cntOf m p + 1)) m
  unfold Ev.bump
  unfold cntOf at *
  by_cases e : q = p
  ·rw [if_pos e, g1 e, hw]; rfl
  ·rw [if_neg e, g2 e]
 refine ⟨k1, fun q => ?_, fun q hq => ?_, fun q => ?_, ?_⟩
 ·show q ∈ (mset eqP m p _).map (·.1) ↔ _
  rw [k2 q, h.keys q, List.mem_append, List.mem_singleton]
  exact Or.comm
 ·rw [hc]
  split
  ·omega
  ·rename_i hne
   rcases List.mem_append.1 hq with hq | hq
   ·exact h.pos q hq
   ·exact absurd (by simpa using hq) hne
 ·rw [hc]
  simp only [List.length_append, List.length_cons, List.length_nil]
  have := h.bd q
  split <;> omega
 ·show sumI ((mset eqP m p _).map (·.2)) = _
  rw [sumI_mset, h.sum, hw]
  simp only [List.length_append, List.length_cons, List.length_nil]
  unfold cntOf
  omega
theorem Cnt.fold {m : List (Pr × Int)} {ps : List Pr} (h : Cnt m ps) : ∀ (qs : List Pr), ps.length + qs.length < 1000000 -> Cnt (qs.foldl Ev.bump m) (ps ++ qs) := by
 intro qs
 induction qs generalizing m ps with
 | nil => intro _; simpa using h
 | cons q qs ih =>
  intro hl
  simp only [List.length_cons] at hl
  have := ih (h.bump q (by omega)) (by simp only [List.length_append, List.length_cons, List.length_nil]; omega)
  simpa using this
/-! Places of letters. -/
def pos (ls : List Int) (r : Int) : Int := if r ∈ ls then (ls.idxOf r : Int) + 1 else 0
theorem pos_range (ls : List Int) (r : Int) : 0 <= pos ls r /\ pos ls r <= ls.length := by
 unfold pos
 split
 ·rename_i h
  have := List.idxOf_lt_length_of_mem h
  omega
 ·omega
theorem pos_inj {ls : List Int} (h0 : (0 : Int) ∉ ls) {r s : Int} (hr : r = 0 \/ r ∈ ls) (hs : s = 0 \/ s ∈ ls) (h : pos ls r = pos ls s) : r = s := by
 unfold pos at h
 by_cases h1 : r ∈ ls
 ·rw [if_pos h1] at h
  by_cases h2 : s ∈ ls
  ·rw [if_pos h2] at h
   have e : ls.idxOf r = ls.idxOf s := by omega
   have e1 := List.getElem_idxOf (List.idxOf_lt_length_of_mem h1)
   have e2 := List.getElem_idxOf (List.idxOf_lt_length_of_mem h2)
   rw [<- e1, <- e2]
   congr 1
  ·rw [if_neg h2] at h
   omega
 ·rw [if_neg h1] at h
  by_cases h2 : s ∈ ls
  ·rw [if_pos h2] at h
   omega
  ·have e1 : r = 0 := hr.resolve_right h1
   have e2 : s = 0 := hs.resolve_right h2
   rw [e1, e2]
theorem pos_snoc {ls : List Int} {x : Int} (hx : x ∉ ls) (r : Int) : pos (ls ++ [x]) r = if r = x then (ls.length : Int) + 1 else pos ls r := by
 unfold pos
 by_cases e : r = x
 ·subst e
  rw [if_pos (by simp), if_pos rfl, List.idxOf_append, if_neg hx]
  simp
 ·rw [if_neg e]
  by_cases h : r ∈ ls
  ·rw [if_pos (by simp [h]), if_pos h, List.idxOf_append, if_pos h]
  ·rw [if_neg (by simp [h, e]), if_neg h]
/-! The comparison. -/
def L3 (f o : Pr -> Int) (o2 : Pr -> Int) (x y : Pr) : Prop := f y < f x \/ f y = f x /\ (o x < o y \/ o x = o y /\ o2 x < o2 y)
theorem or_val (a b c : Int) : cmp_Or_int_ 80000 [a, b, c] = some (if a ≠ 0 then a else if b ≠ 0 then b else c) := by
 unfold cmp_Or_int_
 by_cases h1 : a = 0
 ·by_cases h2 : b = 0
  ·by_cases h3 : c = 0
   ·subst h1; subst h2; subst h3; rfl
   ·subst h1; subst h2
    rw [if_neg (by simp), if_neg (by simp)]
    show (if c != 0 then some c else some 0) = some c
    rw [if_pos (by simpa using h3)]
  ·subst h1
   rw [if_neg (by simp), if_pos h2]
   show (if b != 0 then some b else _) = some b
   rw [if_pos (by simpa using h2)]
 ·rw [if_pos h1]
  show (if a != 0 then some a else _) = some a
  rw [if_pos (by simpa using h1)]
theorem cmp_val {m : List (Pr × Int)} {rk : List (Int × Int)} {ls : List Int} (hm : ∀ p, 0 <= cntOf m p /\ cntOf m p <= 1000000) (hl : ls.length <= 1000) (hr : ∀ r : Int, (mget (eqEl (.int .i32)) rk r).getD 0 = pos ls r) (x y : Pr) :
  ∃ v, zct 80000 x y (some m) (some rk) = some v /\ (v < 0 ↔ L3 (cntOf m) (fun p => pos ls p.1) (fun p => pos ls p.2.1) x y) := by
 have hc : zct 80000 x y (some m) (some rk) = Option.bind (cmp_Or_int_ 80000 [wi64 (cntOf m y - cntOf m x), wi64 ((mget (eqEl (.int .i32)) rk x.1).getD (0 : Int) - (mget (eqEl (.int .i32)) rk y.1).getD (0 : Int)), wi64 ((mget (eqEl (.int .i32)) rk x.2.1).getD (0 : Int) - (mget (eqEl (.int .i32)) rk y.2.1).getD (0 : Int))]) fun v => some v := rfl
 rw [hc, hr, hr, hr, hr]
 have h1 := hm x
 have h2 := hm y
 have p1 := pos_range ls x.1
 have p2 := pos_range ls y.1
 have p3 := pos_range ls x.2.1
 have p4 := pos_range ls y.2.1
 rw [show wi64 (cntOf m y - cntOf m x) = cntOf m y - cntOf m x from wi64_of (by omega), show wi64 (pos ls x.1 - pos ls y.1) = pos ls x.1 - pos ls y.1 from wi64_of (by omega), show wi64 (pos ls x.2.1 - pos ls y.2.1) = pos ls x.2.1 - pos ls y.2.1 from wi64_of (by omega), or_val]
 simp only [Option.bind_some]
 refine ⟨_, rfl, ?_⟩
 unfold L3
 split
 ·dsimp only; omega
 ·split
  ·dsimp only; omega
  ·dsimp only; omega
theorem sorted_val {m : List (Pr × Int)} {rk : List (Int × Int)} {ls : List Int} (hm : ∀ p, 0 <= cntOf m p /\ cntOf m p <= 1000000) (hl : ls.length <= 1000) (h0 : (0 : Int) ∉ ls) (hr : ∀ r : Int, (mget (eqEl (.int .i32)) rk r).getD 0 = pos ls r) (hlen : m.length < 1000000)
  (hk : ∀ p ∈ m.map (·.1), (p.1 = 0 \/ p.1 ∈ ls) /\ (p.2.1 = 0 \/ p.2.1 ∈ ls)) : ∃ v, zcu 80000 m rk = some v /\ v.Perm (m.map (·.1)) /\ v.Pairwise (fun a b => cntOf m b <= cntOf m a) /\ v.Pairwise (fun a b => ¬ L3 (cntOf m) (fun p => pos ls p.1) (fun p => pos ls p.2.1) b a) := by
 unfold zcu
 have hb : Nat.blt m.length 1000000 = true := by
  rw [Nat.blt_eq]; exact hlen
 rw [hb]
 simp only [cond_true]
 have hlt : ∀ x y, (ltO (fun x y => zct 80000 x y (some m) (some rk)) x y = true ↔ L3 (cntOf m) (fun p => pos ls p.1) (fun p => pos ls p.2.1) x y) := by
  intro x y
  obtain ⟨v, hv, hL⟩ := cmp_val hm hl hr x y
  simp only [ltO, hv, decide_eq_true_eq]
  exact hL
 have hg : good (fun x y => zct 80000 x y (some m) (some rk)) (m.map (·.1)) = true := by
  unfold good
  rw [List.all_eq_true]
  intro x hx
  rw [List.all_eq_true]
  intro y hy
  obtain ⟨v, hv, _⟩ := cmp_val hm hl hr x y
  have kx := hk x hx
  have ky := hk y hy
  simp only [hv, Option.isSome_some, Bool.true_and, Bool.and_eq_true]
  refine ⟨?_, ?_⟩
  ·by_cases e : x = y
   ·subst e
    rw [decide_eq_true rfl]
    simp only [cond_true, Bool.not_eq_true']
    rw [<- Bool.not_eq_true, hlt]
    unfold L3
    omega
   ·rw [decide_eq_false e]
    simp only [cond_false, Bool.and_eq_true, Bool.or_eq_true, Bool.not_eq_true']
    rw [<- Bool.not_eq_true, Bool.and_eq_true, hlt, hlt]
    have hne : ¬ (pos ls x.1 = pos ls y.1 /\ pos ls x.2.1 = pos ls y.2.1) := fun h => e (by
     have e1 := pos_inj h0 kx.1 ky.1 h.1
     have e2 := pos_inj h0 kx.2 ky.2 h.2
     exact Prod.ext e1 (Prod.ext e2 rfl))
    unfold L3
    dsimp only
    omega
  ·rw [List.all_eq_true]
   intro z hz
   rw [Bool.or_eq_true, Bool.not_eq_true', <- Bool.not_eq_true, Bool.and_eq_true, hlt, hlt, hlt]
   unfold L3
   dsimp only
   omega
 have hp := (good_parts hg).1
 have hs : (isort (ltO fun x y => zct 80000 x y (some m) (some rk)) (m.map (·.1))).Pairwise (fun a b => ¬ L3 (cntOf m) (fun p => pos ls p.1) (fun p => pos ls p.2.1) b a) := by
  refine List.Pairwise.imp (fun {a b} hab h => ?_) (isort_sorted hp (fun y hy => hy))
  rw [(hlt b a).2 h] at hab
  cases hab
 refine ⟨isort (ltO fun x y => zct 80000 x y (some m) (some rk)) (m.map (·.1)), by unfold srt; rw [hg]; rfl, isort_perm _ _, hs.imp (fun {a b} hn => ?_), hs⟩
 unfold L3 at hn
 omega
end Go.Ev
namespace Go.Ev
open Go
set_option linter.unusedVariables false
theorem counted_l2 {x1 : List Pr} (hx : x1.length <= 1000) (go1 : Int -> List (List UInt8) -> List (Int × Int × Int × Unit) -> List (Pr × Int) -> Option (List (Pr × Int × Unit))) (t1 : Int) (a2 : List (List UInt8)) (a3 : List (Int × Int × Int × Unit)) :
  ∀ n i (m : List (Pr × Int)), i <= x1.length -> x1.length - i < n -> zdx x1 go1 t1 a2 a3 n (i : Int) m = go1 (wi64 (t1 + 1)) a2 a3 ((x1.drop i).foldl bump m) := by
 intro n
 induction n with
 | zero => intro i m _ h; omega
 | succ n ih =>
  intro i m hi hn
  unfold zdx corr_counted_b2
  by_cases h : i < x1.length
  ·rw [if_pos (by simp only [decide_eq_true_eq]; omega), at_lt h]
   simp only [Option.bind_some]
   rw [zfr (by omega), drop_at h, List.foldl_cons]
   exact ih (i + 1) _ (by omega) (by omega)
  ·rw [if_neg (by simp only [decide_eq_true_eq]; omega), List.drop_eq_nil_of_le (by omega)]
   rfl
theorem counted_l1 {al : List (List Pr)} (ha : al.length <= 5000) (hg : ∀ x ∈ al, x.length <= 1000) (a2 : List (List UInt8)) (a3 : List (Int × Int × Int × Unit)) :
  ∀ n i (m : List (Pr × Int)), i <= al.length -> al.length - i < n -> zd0 80000 al n (i : Int) a2 a3 m = zdz 80000 a3 ((al.drop i).flatten.foldl bump m) 80000 (0 : Int) [] := by
 intro n
 induction n with
 | zero => intro i m _ h; omega
 | succ n ih =>
  intro i m hi hn
  unfold zd0 corr_counted_b1
  by_cases h : i < al.length
  ·have hx := hg _ (List.getElem_mem h)
   rw [if_pos (by simp only [decide_eq_true_eq]; omega), at_lt h]
   simp only [Option.bind_some]
   rw [show (0 : Int) = ((0 : Nat) : Int) from rfl, counted_l2 hx _ _ _ _ 80000 0 m (Nat.zero_le _) (by omega), zfr (by omega), ih (i + 1) _ (by omega) (by omega), drop_at h, List.flatten_cons, List.foldl_append, List.drop_zero]
   rfl
  ·rw [if_neg (by simp only [decide_eq_true_eq]; omega), List.drop_eq_nil_of_le (by omega)]
   rfl
theorem counted_l4 {v : List Pr} (hv : v.length <= 100000) (m : List (Pr × Int)) : ∀ n i (out : List (Pr × Int × Unit)), i <= v.length -> v.length - i < n -> out.length <= i ->
  zdy v m n (i : Int) out = some (out ++ (v.drop i).map fun p => (p, cntOf m p, ())) := by
 intro n
 induction n with
 | zero => intro i out _ h; omega
 | succ n ih =>
  intro i out hi hn ho
  have hlb := lim_big
  unfold zdy corr_counted_b4
  by_cases h : i < v.length
  ·rw [if_pos (by simp only [decide_eq_true_eq]; omega), at_lt h]
   simp only [Option.bind_some]
   rw [chk_of (by simp only [List.length_cons, List.length_nil]; omega)]
   simp only [Option.bind_some]
   rw [zfr (by omega), ih (i + 1) _ (by omega) (by omega) (by simp only [List.length_append, List.length_cons, List.length_nil]; omega), drop_at h, List.map_cons, List.append_assoc]
   rfl
  ·rw [if_neg (by simp only [decide_eq_true_eq]; omega), List.drop_eq_nil_of_le (by omega)]
   simp
structure Cnts (a : Alph) (ps : List Pr) (v : List Pr) : Prop where
 nd : v.Nodup
 mem : ∀ p, p ∈ v ↔ p ∈ ps
 srt : v.Pairwise (fun x y => cntOf (ps.foldl bump []) y <= cntOf (ps.foldl bump []) x)
 sum : sumI (v.map (cntOf (ps.foldl bump []))) = ps.length
 len : v.length <= ps.length
 perm : v.Perm ((ps.foldl bump []).map (·.1))
 ord : v.Pairwise (fun x y => ¬ L3 (cntOf (ps.foldl bump [])) (fun p => pos (a.2.1.map (·.1)) p.1) (fun p => pos (a.2.1.map (·.1)) p.2.1) y x)
theorem map_getD (m : List (Pr × Int)) (h : (m.map (·.1)).Nodup) : (m.map (·.1)).map (cntOf m) = m.map (·.2) := by
 rw [List.map_map]
 refine List.map_congr_left fun q hq => ?_
 show (mget eqP m q.1).getD 0 = q.2
 rw [mget_self eqP_iff m h q hq]
 rfl
theorem counted_val (a : Alph) (hc : chkA a = true) {al : List (List Pr)} (ha : al.length <= 5000) (hg : ∀ x ∈ al, x.length <= 1000 /\ ∀ p ∈ x, PairOK a p) (hN : al.flatten.length <= 70000) :
  ∃ v, zd1 80000 a al = some (v.map fun p => (p, cntOf (al.flatten.foldl bump []) p, ())) /\ Cnts a al.flatten v := by
 unfold zd1
 rw [show (0 : Int) = ((0 : Nat) : Int) from rfl, counted_l1 ha (fun x hx => (hg x hx).1) a.1 a.2.1 80000 0 [] (Nat.zero_le _) (by omega), List.drop_zero]
 have C := Cnt.nil.fold al.flatten (by rw [List.length_nil]; omega)
 rw [List.nil_append] at C
 generalize hm : al.flatten.foldl bump [] = m at C
 have hl := chkA_len hc
 have hnd : (a.2.1.map (·.1)).Nodup := by
  unfold chkA at hc
  simp only [Bool.and_eq_true, decide_eq_true_eq] at hc
  exact hc.2.2
 have h0 : (0 : Int) ∉ a.2.1.map (·.1) := by
  intro h
  obtain ⟨x, hx, he⟩ := List.mem_map.1 h
  unfold chkA at hc
  simp only [Bool.and_eq_true, List.all_eq_true] at hc
  have := (hc.2.1 x hx).1
  rw [he] at this
  exact absurd this (by decide)
 -- the letters' places
 have orders : ∀ n i (rk : List (Int × Int)), i <= a.2.1.length -> a.2.1.length - i < n -> (∀ r : Int, (mget (eqEl (.int .i32)) rk r).getD 0 = pos ((a.2.1.map (·.1)).take i) r) ->
   ∃ rk', zdz 80000 a.2.1 m n (i : Int) rk = Option.bind (zcu 80000 m rk') (fun v2 => zdy v2 m 80000 (0 : Int) []) /\ ∀ r : Int, (mget (eqEl (.int .i32)) rk' r).getD 0 = pos (a.2.1.map (·.1)) r := by
  intro n
  induction n with
  | zero => intro i rk _ h; omega
  | succ n ih =>
   intro i rk hi hn hr
   unfold zdz corr_counted_b3
   by_cases h : i < a.2.1.length
   ·rw [if_pos (by simp only [decide_eq_true_eq]; omega), at_lt h]
    simp only [Option.bind_some]
    rw [zfr (by omega)]
    refine ih (i + 1) _ (by omega) (by omega) fun r => ?_
    have hlt : i < (a.2.1.map (·.1)).length := by simpa using h
    have hx : (a.2.1[i]'h).1 ∉ (a.2.1.map (·.1)).take i := by
     intro hmem
     obtain ⟨j, hj, e⟩ := List.getElem_of_mem hmem
     have hj' : j < i := by rw [List.length_take] at hj; omega
     rw [List.getElem_take] at e
     have e2 : (a.2.1.map (·.1))[j]'(by omega) = (a.2.1.map (·.1))[i]'hlt := by rw [e]; simp
     exact absurd ((List.getElem_inj hnd).1 e2) (by omega)
    have htk : (a.2.1.map (·.1)).take (i + 1) = (a.2.1.map (·.1)).take i ++ [(a.2.1[i]'h).1] := by
     rw [List.take_succ_eq_append_getElem hlt]
     simp
    rw [htk, pos_snoc hx, List.length_take, Nat.min_eq_left (by omega)]
    have g := zft (α := Int) (β := Int) zfu (a.2.1[i]'h).1 r ((i + 1 : Nat) : Int) rk
    by_cases e : r = (a.2.1[i]'h).1
    ·rw [if_pos e]
     refine (congrArg (fun o => Option.getD o 0) (g.1 e)).trans ?_
     simp
    ·rw [if_neg e]
     exact (congrArg (fun o => Option.getD o 0) (g.2 e)).trans (hr r)
   ·rw [if_neg (by simp only [decide_eq_true_eq]; omega)]
    refine ⟨rk, rfl, fun r => ?_⟩
    rw [hr r, List.take_of_length_le (by simp; omega)]
 obtain ⟨rk, e1, hrk⟩ := orders 80000 0 [] (Nat.zero_le _) (by omega) (fun r => by simp [mget, pos])
 rw [show zdz 80000 a.2.1 m 80000 (0 : Int) [] = _ from e1]
 have hkeys : ∀ p ∈ m.map (·.1), PairOK a p := fun p hp => by
  obtain ⟨x, hx, hpx⟩ := List.mem_flatten.1 ((C.keys p).1 hp)
  exact (hg x hx).2 p hpx
 have hml : m.length <= al.flatten.length := by
  have : sumI (m.map (·.2)) = al.flatten.length := C.sum
  have hge : ∀ (l : List Int), (∀ x ∈ l, 1 <= x) -> (l.length : Int) <= sumI l := by
   intro l
   induction l with
   | nil => intro _; simp [sumI]
   | cons x l ih =>
    intro h
    have i1 := ih fun y hy => h y (List.mem_cons_of_mem _ hy)
    have i2 := h x List.mem_cons_self
    simp only [List.length_cons, sumI]
    omega
  have h1 := hge (m.map (·.2)) fun x hx => by
   rw [<- map_getD m C.nd] at hx
   obtain ⟨p, hp, rfl⟩ := List.mem_map.1 hx
   exact C.pos p ((C.keys p).1 hp)
  rw [List.length_map] at h1
  omega
 obtain ⟨v, hv, hperm, hsrt, hord⟩ := sorted_val (m := m) (rk := rk) (ls := a.2.1.map (fun l : Int × Int × Int × Unit => l.1)) (fun p => by have := C.bd p; omega) (by simp; omega) h0 hrk (by omega) hkeys
 rw [hv]
 simp only [Option.bind_some]
 have hvl : v.length = m.length := by rw [hperm.length_eq, List.length_map]
 rw [show (0 : Int) = ((0 : Nat) : Int) from rfl, counted_l4 (by omega) m 80000 0 [] (Nat.zero_le _) (by omega) (by simp), List.drop_zero, List.nil_append]
 refine ⟨v, rfl, hperm.nodup_iff.2 C.nd, fun p => ?_, by rw [hm]; exact hsrt, ?_, by omega, by rw [hm]; exact hperm, by rw [hm]; exact hord⟩
 ·rw [hperm.mem_iff, C.keys]
 ·rw [hm, sumI_perm (hperm.map _), map_getD m C.nd]
  exact C.sum
end Go.Ev
namespace Go.Ev
open Go
set_option linter.unusedVariables false
def Func (ps : List Pr) : Prop := ∀ p ∈ ps, ∀ q ∈ ps, p.1 ≠ 0 -> p.1 = q.1 -> p.2.1 = q.2.1
structure Reg (m : List (Int × Int)) (seen : List Pr) : Prop where
 has : ∀ p ∈ seen, p.1 ≠ 0 -> mget (eqEl (.int .i32)) m p.1 = some p.2.1
 from_ : ∀ (r v : Int), mget (eqEl (.int .i32)) m r = some v -> ∃ p ∈ seen, p.1 = r /\ p.2.1 = v /\ r ≠ 0
theorem Reg.func {m : List (Int × Int)} {ps : List Pr} (h : Reg m ps) : Func ps := fun p hp q hq h0 e => by
 have h1 := h.has p hp h0
 have h2 := h.has q hq (e ▸ h0)
 rw [e] at h1
 exact Option.some.inj (h1.symm.trans h2)
def Clash (ps : List Pr) : Prop := ∃ p ∈ ps, ∃ q ∈ ps, p.1 ≠ 0 /\ p.1 = q.1 /\ p.2.1 ≠ q.2.1
theorem Clash.not {ps : List Pr} (h : Clash ps) : ¬ Func ps := fun f => by
 obtain ⟨p, hp, q, hq, h0, e, hne⟩ := h
 exact hne (f p hp q hq h0 e)
theorem Clash.mono {ps qs : List Pr} (h : Clash ps) (hs : ∀ p ∈ ps, p ∈ qs) : Clash qs := by
 obtain ⟨p, hp, q, hq, r⟩ := h
 exact ⟨p, hs p hp, q, hs q hq, r⟩
theorem regular_l2 {x : List Pr} (hx : x.length <= 1000) (t1 : Int) (go1 : Int -> List (Int × Int) -> Option (Bool × Int × Int)) : ∀ n i (m : List (Int × Int)) (seen : List Pr), i <= x.length -> x.length - i < n -> Reg m seen ->
  (∃ m', zd3 x t1 go1 n (i : Int) m = go1 (wi64 (t1 + 1)) m' /\ Reg m' (seen ++ x.drop i)) \/ (zd3 x t1 go1 n (i : Int) m = some (false, t1, 0) /\ Clash (seen ++ x.drop i)) := by
 intro n
 induction n with
 | zero => intro i m seen _ h; omega
 | succ n ih =>
  intro i m seen hi hn hr
  unfold zd3 corr_Regular_b2
  by_cases h : i < x.length
  ·rw [if_pos (by simp only [decide_eq_true_eq]; omega), at_lt h]
   simp only [Option.bind_some]
   rw [drop_at h]
   generalize hp : x[i]'h = p
   have next : ∀ m', Reg m' (seen ++ [p]) -> (∃ m'', zd2 (zd3 x t1 go1 n) (i : Int) m' = go1 (wi64 (t1 + 1)) m'' /\ Reg m'' (seen ++ p :: x.drop (i + 1))) \/ (zd2 (zd3 x t1 go1 n) (i : Int) m' = some (false, t1, 0) /\ Clash (seen ++ p :: x.drop (i + 1))) := by
    intro m' hm'
    unfold zd2
    rw [zfr (by omega)]
    have := ih (i + 1) m' (seen ++ [p]) (by omega) (by omega) hm'
    rwa [List.append_assoc] at this
   by_cases h0 : p.1 = 0
   ·rw [if_pos (by simpa using h0)]
    refine next m ⟨fun q hq hq0 => ?_, fun r v hv => ?_⟩
    ·rcases List.mem_append.1 hq with hq | hq
     ·exact hr.has q hq hq0
     ·have : q = p := by simpa using hq
      rw [this] at hq0
      exact absurd h0 hq0
    ·obtain ⟨q, hq, e⟩ := hr.from_ r v hv
     exact ⟨q, List.mem_append_left _ hq, e⟩
   ·rw [if_neg (by simpa using h0)]
    unfold corr_Regular_j2
    cases hg : mget (eqEl (.int .i32)) m p.1 with
    | none =>
     simp only [Option.isSome_none, Bool.false_and, Bool.false_eq_true, if_false]
     refine next _ ⟨fun q hq hq0 => ?_, fun r v hv => ?_⟩
     ·have g := zft (α := Int) (β := Int) zfu p.1 q.1 p.2.1 m
      rcases List.mem_append.1 hq with hq | hq
      ·have h1 := hr.has q hq hq0
       have hne : q.1 ≠ p.1 := fun e => by rw [e, hg] at h1; cases h1
       exact (g.2 hne).trans h1
      ·have : q = p := by simpa using hq
       rw [this]
       exact (zft (α := Int) (β := Int) zfu p.1 p.1 p.2.1 m).1 rfl
     ·have g := zft (α := Int) (β := Int) zfu p.1 r p.2.1 m
      by_cases e : r = p.1
      ·have h1 := (g.1 e).symm.trans hv
       exact ⟨p, List.mem_append_right _ (by simp), e.symm, Option.some.inj h1, fun q => h0 (e ▸ q)⟩
      ·obtain ⟨q, hq, e'⟩ := hr.from_ r v ((g.2 e).symm.trans hv)
       exact ⟨q, List.mem_append_left _ hq, e'⟩
    | some v =>
     simp only [Option.isSome_some, Bool.true_and, Option.getD_some]
     by_cases hv : v = p.2.1
     ·rw [if_neg (by simpa using hv)]
      refine next _ ⟨fun q hq hq0 => ?_, fun r u hu => ?_⟩
      ·have g := zft (α := Int) (β := Int) zfu p.1 q.1 p.2.1 m
       rcases List.mem_append.1 hq with hq | hq
       ·have h1 := hr.has q hq hq0
        by_cases e : q.1 = p.1
        ·refine (g.1 e).trans ?_
         rw [e, hg] at h1
         rw [<- h1, hv]
        ·exact (g.2 e).trans h1
       ·have : q = p := by simpa using hq
        rw [this]
        exact (zft (α := Int) (β := Int) zfu p.1 p.1 p.2.1 m).1 rfl
      ·have g := zft (α := Int) (β := Int) zfu p.1 r p.2.1 m
       by_cases e : r = p.1
       ·have h1 := (g.1 e).symm.trans hu
        exact ⟨p, List.mem_append_right _ (by simp), e.symm, Option.some.inj h1, fun q => h0 (e ▸ q)⟩
       ·obtain ⟨q, hq, e'⟩ := hr.from_ r u ((g.2 e).symm.trans hu)
        exact ⟨q, List.mem_append_left _ hq, e'⟩
     ·rw [if_pos (by simpa using hv)]
      obtain ⟨q, hq, e1, e2, _⟩ := hr.from_ p.1 v hg
      exact .inr ⟨rfl, q, List.mem_append_left _ hq, p, List.mem_append_right _ List.mem_cons_self, by rw [e1]; exact h0, e1, by rw [e2]; exact hv⟩
  ·rw [if_neg (by simp only [decide_eq_true_eq]; omega), List.drop_eq_nil_of_le (by omega), List.append_nil]
   exact .inl ⟨m, rfl, hr⟩
theorem regular_l1 {al : List (List Pr)} (ha : al.length <= 5000) (hg : ∀ x ∈ al, x.length <= 1000) : ∀ n i (m : List (Int × Int)) (seen : List Pr), i <= al.length -> al.length - i < n -> Reg m seen ->
  (zd4 80000 (al, 0) n (i : Int) m = some (true, -1, 0) /\ Func (seen ++ (al.drop i).flatten)) \/ ∃ t : Int, zd4 80000 (al, 0) n (i : Int) m = some (false, t, 0) /\ 0 <= t /\ t < al.length /\ ¬ Func (seen ++ (al.drop i).flatten) := by
 intro n
 induction n with
 | zero => intro i m seen _ h; omega
 | succ n ih =>
  intro i m seen hi hn hr
  unfold zd4 corr_Regular_b1
  by_cases h : i < al.length
  ·have hx := hg _ (List.getElem_mem h)
   rw [if_pos (by simp only [decide_eq_true_eq]; omega), at_lt h]
   simp only [Option.bind_some]
   rw [drop_at h, List.flatten_cons, <- List.append_assoc]
   rcases regular_l2 hx (i : Int) (zd4 80000 (al, 0) n) 80000 0 m seen (Nat.zero_le _) (by omega) hr with ⟨m', e, hr'⟩ | ⟨e, hc⟩
   ·rw [List.drop_zero] at hr'
    rw [show zd3 (al[i]'h) (i : Int) (zd4 80000 (al, 0) n) 80000 (0 : Int) m = _ from e, zfr (by omega)]
    exact ih (i + 1) m' _ (by omega) (by omega) hr'
   ·rw [List.drop_zero] at hc
    refine .inr ⟨i, e, by omega, by omega, (hc.mono fun p hp => List.mem_append_left _ hp).not⟩
  ·rw [if_neg (by simp only [decide_eq_true_eq]; omega), List.drop_eq_nil_of_le (by omega), List.flatten_nil, List.append_nil]
   exact .inl ⟨rfl, hr.func⟩
/-! The odd ones. -/
structure Od (m : List (Int × Int)) (seen : List Pr) : Prop where
 has : ∀ p ∈ seen, (mget (eqEl (.int .i32)) m p.1).isSome = true
 from_ : ∀ (r v : Int), mget (eqEl (.int .i32)) m r = some v -> ∃ p ∈ seen, p.1 = r /\ p.2.1 = v
def od (m : List (Int × Int)) (p : Pr) : Bool := (p.1 != (0 : Int)) && (((mget (eqEl (.int .i32)) m p.1).getD (0 : Int)) != p.2.1)
theorem idx_l1 {s : List Pr} (hs : s.length <= 1000) (m : List (Int × Int)) : ∀ n i, i <= s.length -> s.length - i < n ->
  ∃ j, zd6 80000 s (some m, ()) n (i : Int) = some j /\ (0 <= j ↔ ∃ p ∈ s.drop i, od m p = true) := by
 intro n
 induction n with
 | zero => intro i _ h; omega
 | succ n ih =>
  intro i hi hn
  unfold zd6 zd5
  by_cases h : i < s.length
  ·rw [if_pos (by simp only [decide_eq_true_eq]; omega), at_lt h]
   simp only [Option.bind_some]
   have hc : corr_Odd_c1 80000 (s[i]'h) (some m) = some (od m (s[i]'h)) := rfl
   rw [hc]
   simp only [Option.bind_some]
   rw [drop_at h]
   cases ho : od m (s[i]'h) with
   | true =>
    rw [if_pos rfl]
    exact ⟨i, rfl, fun _ => ⟨_, List.mem_cons_self, ho⟩, fun _ => by omega⟩
   | false =>
    rw [if_neg (by simp), zfr (by omega)]
    obtain ⟨j, e, hj⟩ := ih (i + 1) (by omega) (by omega)
    refine ⟨j, e, hj.trans ⟨fun ⟨p, hp, hpo⟩ => ⟨p, List.mem_cons_of_mem _ hp, hpo⟩, fun ⟨p, hp, hpo⟩ => ?_⟩⟩
    rcases List.mem_cons.1 hp with rfl | hp
    ·rw [ho] at hpo; cases hpo
    ·exact ⟨p, hp, hpo⟩
  ·rw [if_neg (by simp only [decide_eq_true_eq]; omega), List.drop_eq_nil_of_le (by omega)]
   exact ⟨-1, rfl, by simp⟩
end Go.Ev
namespace Go.Ev
open Go
set_option linter.unusedVariables false
theorem long_l1 {l : List (List (List UInt8))} (h2 : ∀ g ∈ l, g.length = 2) (hl : l.length <= 5000) : ∀ n i, i <= l.length -> l.length - i < n ->
  ∃ b, l28_long_l1 l n (i : Int) = some b /\ (b = false -> ∀ g ∈ l.drop i, ∀ w ∈ g, w.length <= 1000) := by
 intro n
 induction n with
 | zero => intro i _ h; omega
 | succ n ih =>
  intro i hi hn
  unfold l28_long_l1 l28_long_b1
  by_cases h : i < l.length
  ·rw [if_pos (by simp only [decide_eq_true_eq]; omega), at_lt h]
   simp only [Option.bind_some]
   have g2 := h2 _ (List.getElem_mem h)
   rw [drop_at h]
   generalize hg : l[i]'h = g at g2
   match g, g2 with
   | [x, y], _ =>
    rw [show at? [x, y] (0 : Int) = some x from rfl]
    simp only [Option.bind_some]
    by_cases hx : 1000 < x.length
    ·rw [if_pos (by simp only [decide_eq_true_eq]; omega)]
     exact ⟨true, rfl, fun h => by cases h⟩
    ·rw [if_neg (by simp only [decide_eq_true_eq]; omega), show at? [x, y] (1 : Int) = some y from rfl]
     simp only [Option.bind_some]
     unfold l28_long_j4
     by_cases hy : 1000 < y.length
     ·rw [if_pos (by simp only [decide_eq_true_eq]; omega)]
      exact ⟨true, rfl, fun h => by cases h⟩
     ·rw [if_neg (by simp only [decide_eq_true_eq]; omega), zfr (by omega)]
      obtain ⟨b, e, hb⟩ := ih (i + 1) (by omega) (by omega)
      refine ⟨b, e, fun hf g hg w hw => ?_⟩
      rcases List.mem_cons.1 hg with rfl | hg
      ·rcases List.mem_cons.1 hw with rfl | hw
       ·omega
       ·have : w = y := by simpa using hw
        subst this
        omega
      ·exact hb hf g hg w hw
   | [], g2 => cases g2
   | [_], g2 => cases g2
   | _ :: _ :: _ :: _, g2 => simp at g2
  ·rw [if_neg (by simp only [decide_eq_true_eq]; omega), List.drop_eq_nil_of_le (by omega)]
   exact ⟨false, rfl, fun _ g hg => by cases hg⟩
theorem long_val (a : Alph) {l : List (List (List UInt8))} (h2 : ∀ g ∈ l, g.length = 2) : ∃ b, l28_long 80000 a l = some b /\ (b = false -> (l.length <= 40 \/ 4096 < l.length) /\ l.length <= 5000 /\ ∀ g ∈ l, ∀ w ∈ g, w.length <= 1000) := by
 unfold l28_long l28_long_j1 l28_long_j5 l28_long_j2 l28_long_j3
 by_cases h1 : (decide ((300 : Int) < (a.2.1.length : Int)) || decide ((60 : Int) < (a.1.length : Int))) = true
 ·rw [if_pos h1, if_pos (by rfl)]
  exact ⟨true, rfl, fun h => by cases h⟩
 ·rw [if_neg h1]
  by_cases h3 : (decide ((40 : Int) < (l.length : Int)) && decide ((l.length : Int) <= (4096 : Int)) || decide ((5000 : Int) < (l.length : Int))) = true
  ·rw [if_pos h3]
   exact ⟨true, rfl, fun h => by cases h⟩
  ·rw [if_neg h3]
   simp only [Bool.or_eq_true, Bool.and_eq_true, decide_eq_true_eq] at h3
   obtain ⟨b, e, hb⟩ := long_l1 h2 (by omega) 80000 0 (Nat.zero_le _) (by omega)
   exact ⟨b, e, fun hf => ⟨by omega, by omega, fun g hg => hb hf g (by rw [List.drop_zero]; exact hg)⟩⟩
theorem at2_0 {α : Type} (x y : α) : at? [x, y] (0 : Int) = some x := rfl
theorem at2_1 {α : Type} (x y : α) : at? [x, y] (1 : Int) = some y := rfl
end Go.Ev
namespace Go.Ev
open Go
set_option linter.unusedVariables false
/-! Runes read. -/
theorem gb_drop' (s : List UInt8) (p i : Nat) : gb (s.drop p) i = gb s (p + i) := by
 unfold gb
 simp [List.getD_eq_getElem?_getD]
theorem g_drop' (s : List UInt8) (p i : Nat) : g (s.drop p) i = g s (p + i) := by
 unfold g
 simp only [gb_drop', List.length_drop, <- Nat.add_assoc, Nat.sub_sub]
theorem decodeGo_drop' {s : List UInt8} {p : Nat} (h : p < s.length) : Lib.decodeGo ⟨(s.drop p).toArray⟩ = g s p := by
 unfold Lib.decodeGo
 rw [if_neg (by simp [ByteArray.size]; omega), decode_g, g_drop']
 rfl
theorem bad_iff' {s : List UInt8} {p : Nat} : bad s p = true ↔ (g s p).1 = 65533 /\ (g s p).2 = 1 := by
 unfold bad
 simp
def PcL (s : List UInt8) (n p : Nat) (v : List (Int × Int × Int × Bool × Unit)) : Prop :=
 match n, v with
 | _, [] => s.length <= p
 | 0, _ :: _ => False
 | n + 1, x :: v => p < s.length /\ x.1 = ((g s p).1 : Int) /\ x.2.2.2.1 = bad s p /\ PcL s n (p + (g s p).2) v
theorem each_PcL {s : List UInt8} (hs : s.length <= 1000) : ∀ n p (t : List (Int × Int × Int × Bool × Unit)), p <= s.length -> s.length - p < n -> t.length + (s.length - p) <= 2000 -> ∃ v, zc0 80000 s n p t = some (t ++ v) /\ PcL s n p v /\ v.length <= s.length - p := by
 intro n
 induction n with
 | zero => intro p t _ h; omega
 | succ n ih =>
  intro p t hp hn ht
  have hlb := lim_big
  unfold zc0 runes_each_i1_b1
  by_cases h : p < s.length
  ·rw [if_pos (by simpa using h)]
   have j1 : ∀ a b, b = bad s p -> ∃ v, zcz 80000 s p t (zc0 80000 s n) a b = some (t ++ v) /\ PcL s (n + 1) p v /\ v.length <= s.length - p := by
    intro a b hb
    unfold zcz zcy
    rw [chk_of (by simp only [List.length_cons, List.length_nil]; omega)]; simp only [Option.bind_some]
    rw [if_neg (by simp)]
    have hg := g_size s p h
    obtain ⟨v, e, hv, hl⟩ := ih (p + widthAt s p) (t ++ [(runeAt s p, (p : Int), a, b, ())]) (by rw [widthAt_g]; omega) (by rw [widthAt_g]; omega) (by rw [widthAt_g]; simp only [List.length_append, List.length_cons, List.length_nil]; omega)
    refine ⟨(runeAt s p, (p : Int), a, b, ()) :: v, ?_, ⟨h, runeAt_g s p, hb, ?_⟩, ?_⟩
    ·rw [e, List.append_assoc]; rfl
    ·rw [widthAt_g] at hv; exact hv
    ·rw [widthAt_g] at hl
     simp only [List.length_cons]
     omega
   obtain ⟨l, hl⟩ := RuneLen_tot 80000 (runeAt s p)
   rw [hl]; simp only [Option.bind_some]
   rw [runeAt_g]
   by_cases h3 : (g s p).1 = 65533
   ·rw [if_pos (by rw [h3]; rfl), sub_suf (by omega)]; simp only [Option.bind_some]
    unfold utf8_DecodeRuneInString
    simp only [Option.bind_some]
    rw [decodeGo_drop' h]
    by_cases h4 : (g s p).2 = 1
    ·rw [if_pos (by rw [h4]; rfl)]
     exact j1 _ _ (bad_iff'.2 ⟨h3, h4⟩).symm
    ·rw [if_neg (by simp only [beq_iff_eq]; omega)]
     refine j1 _ _ (Eq.symm ?_)
     rw [<- Bool.not_eq_true, bad_iff']
     exact fun hh => h4 hh.2
   ·rw [if_neg (by simp only [beq_iff_eq]; omega)]
    refine j1 _ _ (Eq.symm ?_)
    rw [<- Bool.not_eq_true, bad_iff']
    exact fun hh => h3 hh.1
  ·rw [if_neg (by simpa using h)]
   exact ⟨[], by simp, (by show s.length <= p; omega), by simp⟩
def rdL (M : Int -> Bool) (s : List UInt8) : Nat -> Nat -> List Int -> List Int × Int
 | 0, _, out => (out, 0)
 | n + 1, p, out =>
  if p < s.length then
   if bad s p then ([], 6) else if !M ((g s p).1 : Int) then ([], 5) else if (out.length : Int) == (64 : Int) then ([], 4)
   else rdL M s n (p + (g s p).2) (out ++ [((g s p).1 : Int)])
  else (out, 0)
theorem read_rdL {V : List (Int × Int × Int × Bool × Unit)} (m : Option (List (Int × Int))) (M : Int -> Bool) (hM : ∀ r : Int, (mget (eqEl (.int .i32)) (m.getD []) r).isSome = M r) (s : List UInt8) (hV : V.length <= 1000) :
  ∀ n i p q (out : List Int), i <= V.length -> V.length - i < n -> s.length - p < q -> out.length <= 64 -> p <= s.length -> PcL s q p (V.drop i) -> zc2 (V, 0) m n (i : Int) out = some (rdL M s q p out) := by
 intro n
 induction n with
 | zero => intro i p q out _ h; omega
 | succ n ih =>
  intro i p q out hi hn hq ho hps hp
  have hlb := lim_big
  obtain ⟨q, rfl⟩ : ∃ q', q = q' + 1 := ⟨q - 1, by omega⟩
  unfold zc2 word_read_b1 rdL
  by_cases h : i < V.length
  ·rw [drop_at h] at hp
   obtain ⟨h1, h2, h3, h4⟩ := hp
   rw [if_pos (by simp only [decide_eq_true_eq]; omega), if_pos h1, at_lt h]
   simp only [Option.bind_some]
   rw [h3, h2, hM]
   cases hb : bad s p with
   | true => rfl
   | false =>
    simp only [Bool.false_eq_true, if_false]
    cases hm : M ((g s p).1 : Int) with
    | false => rfl
    | true =>
     simp only [Bool.not_true, Bool.false_eq_true, if_false]
     by_cases hl : out.length = 64
     ·rw [if_pos (by rw [hl]; rfl), if_pos (by rw [hl]; rfl)]
     ·rw [if_neg (by simp only [beq_iff_eq]; omega), if_neg (by simp only [beq_iff_eq]; omega)]
      rw [chk_of (by simp only [List.length_cons, List.length_nil]; omega)]
      simp only [Option.bind_some]
      have hg := g_size s p h1
      rw [zfr (by omega)]
      exact ih (i + 1) _ q _ (by omega) (by omega) (by omega) (by simp only [List.length_append, List.length_cons, List.length_nil]; omega) (by omega) h4
  ·rw [List.drop_eq_nil_of_le (by omega)] at hp
   have hp' : s.length <= p := hp
   rw [if_neg (by simp only [decide_eq_true_eq]; omega), if_neg (by omega)]
theorem refRead_rdL (a : Alph) (M : Int -> Bool) (hM : ∀ r : Int, ∃ v, r03_Number 80000 a r = some v /\ (decide (v < 0)) = !M r) {s : List UInt8} (hs : s.length <= 1000) :
  ∀ q n p (out : List Int), p <= s.length -> s.length - p < n -> s.length - p < q -> out.length <= 64 -> r03_Read_l1 80000 s a 64 n (p : Int) out = some (rdL M s q p out) := by
 intro q
 induction q with
 | zero => intro n p out _ _ h; omega
 | succ q ih =>
  intro n p out hp hn hq ho
  have hlb := lim_big
  obtain ⟨n, rfl⟩ : ∃ n', n = n' + 1 := ⟨n - 1, by omega⟩
  unfold r03_Read_l1 r03_Read_b1 rdL
  by_cases h : p < s.length
  ·have hg := g_size s p h
   rw [if_pos (by simp only [decide_eq_true_eq]; omega), if_pos h, sub_suf (by omega)]
   simp only [Option.bind_some]
   unfold utf8_DecodeRuneInString
   simp only [Option.bind_some]
   rw [decodeGo_drop' h]
   unfold r03_Read_j1
   have hbb : ((((g s p).1 : Int) == (65533 : Int)) && (((g s p).2 : Int) == (1 : Int))) = bad s p := by
    unfold bad
    rw [Bool.eq_iff_iff]
    simp only [Bool.and_eq_true, beq_iff_eq, decide_eq_true_eq]
    omega
   rw [hbb]
   cases hb : bad s p with
   | true => rfl
   | false =>
    simp only [Bool.false_eq_true, if_false]
    obtain ⟨v, hv, hd⟩ := hM ((g s p).1 : Int)
    rw [show r03_Number 80000 ((a.1, a.2.1, ()) : Alph) ((g s p).1 : Int) = some v from hv]
    simp only [Option.bind_some]
    rw [hd]
    cases hm : M ((g s p).1 : Int) with
    | false => rfl
    | true =>
     simp only [Bool.not_true, Bool.false_eq_true, if_false]
     by_cases hl : out.length = 64
     ·rw [if_pos (by rw [hl]; rfl), if_pos (by rw [hl]; rfl)]
     ·rw [if_neg (by simp only [beq_iff_eq]; omega), if_neg (by simp only [beq_iff_eq]; omega)]
      rw [chk_of (by simp only [List.length_cons, List.length_nil]; omega)]
      simp only [Option.bind_some]
      rw [show wi64 ((p : Int) + ((g s p).2 : Int)) = ((p + (g s p).2 : Nat) : Int) from by rw [wi64_of (by omega)]; omega]
      exact ih n (p + (g s p).2) (out ++ [((g s p).1 : Int)]) (by omega) (by omega) (by omega) (by simp only [List.length_append, List.length_cons, List.length_nil]; omega)
  ·rw [if_neg (by simp only [decide_eq_true_eq]; omega), if_neg h]
/-! Places of letters. -/
theorem idxOf_at : ∀ (ls : List Int) (i : Nat) (x : Int), ls[i]? = some x -> x ∉ ls.take i -> ls.idxOf x = i
 | [], i, x, h, _ => by simp at h
 | y :: ls, 0, x, h, _ => by simp at h; subst h; simp
 | y :: ls, i + 1, x, h, hn => by
  simp only [List.getElem?_cons_succ] at h
  simp only [List.take_succ_cons, List.mem_cons, not_or] at hn
  have := idxOf_at ls i x h hn.2
  rw [List.idxOf_cons, show (y == x) = false from by simp [Ne.symm hn.1]]
  simp [this]
abbrev lsOf (a : Alph) : List Int := a.2.1.map fun l : Int × Int × Int × Unit => l.1
theorem pos_at {ls : List Int} {i : Nat} {x : Int} (h : ls[i]? = some x) (hn : x ∉ ls.take i) : pos ls x = (i : Int) + 1 := by
 unfold pos
 rw [if_pos (List.mem_of_getElem? h), idxOf_at ls i x h hn]
theorem pos_none {ls : List Int} {x : Int} (hn : x ∉ ls) : pos ls x = 0 := by
 unfold pos
 rw [if_neg hn]
section
variable (a : Alph) (r : Int)
theorem take_more {ls : List (Int × Int × Int × Unit)} {i : Nat} (h : i < ls.length) (hn : r ∉ (ls.map fun l => l.1).take i) (hne : (ls[i]'h).1 ≠ r) : r ∉ (ls.map fun l => l.1).take (i + 1) := by
 rw [List.take_succ_eq_append_getElem (by simpa using h)]
 simp only [List.getElem_map, List.mem_append, List.mem_singleton, not_or]
 exact ⟨hn, Ne.symm hne⟩
theorem Number_l1 (hl : a.2.1.length <= 5000) : ∀ n i, i <= a.2.1.length -> a.2.1.length - i < n -> r ∉ (lsOf a).take i -> r03_Number_l1 a r n (i : Int) = some (pos (lsOf a) r - 1) := by
 intro n
 induction n with
 | zero => intro i _ h; omega
 | succ n ih =>
  intro i hi hn ht
  unfold r03_Number_l1 r03_Number_b1
  by_cases h : i < a.2.1.length
  ·rw [if_pos (by simp only [decide_eq_true_eq]; omega), at_lt h]
   simp only [Option.bind_some]
   by_cases he : (a.2.1[i]'h).1 = r
   ·rw [if_pos (by simpa using he), pos_at (i := i) (x := r) (by rw [List.getElem?_map, List.getElem?_eq_getElem h]; simp [he]) ht]
    congr 1; omega
   ·rw [if_neg (by simpa using he), zfr (by omega)]
    exact ih (i + 1) (by omega) (by omega) (take_more r h ht he)
  ·rw [if_neg (by simp only [decide_eq_true_eq]; omega)]
   rw [List.take_of_length_le (by simp; omega)] at ht
   rw [pos_none ht]; rfl
theorem Find_l1 (hl : a.2.1.length <= 5000) : ∀ n i, i <= a.2.1.length -> a.2.1.length - i < n -> r ∉ (lsOf a).take i -> r02_Find_l1 a r n (i : Int) = some (pos (lsOf a) r - 1) := by
 intro n
 induction n with
 | zero => intro i _ h; omega
 | succ n ih =>
  intro i hi hn ht
  unfold r02_Find_l1 r02_Find_b1
  by_cases h : i < a.2.1.length
  ·rw [if_pos (by simp only [decide_eq_true_eq]; omega), at_lt h]
   simp only [Option.bind_some]
   by_cases he : (a.2.1[i]'h).1 = r
   ·rw [if_pos (by simpa using he), pos_at (i := i) (x := r) (by rw [List.getElem?_map, List.getElem?_eq_getElem h]; simp [he]) ht]
    congr 1; omega
   ·rw [if_neg (by simpa using he), zfr (by omega)]
    exact ih (i + 1) (by omega) (by omega) (take_more r h ht he)
  ·rw [if_neg (by simp only [decide_eq_true_eq]; omega)]
   rw [List.take_of_length_le (by simp; omega)] at ht
   rw [pos_none ht]; rfl
theorem Index_l1 (hl : a.2.1.length <= 5000) : ∀ n i, i <= a.2.1.length -> a.2.1.length - i < n -> r ∉ (lsOf a).take i -> zcq 80000 a.2.1 (r, ()) n (i : Int) = some (pos (lsOf a) r - 1) := by
 intro n
 induction n with
 | zero => intro i _ h; omega
 | succ n ih =>
  intro i hi hn ht
  unfold zcq zcp feature_Of_c1
  by_cases h : i < a.2.1.length
  ·rw [if_pos (by simp only [decide_eq_true_eq]; omega), at_lt h]
   simp only [Option.bind_some]
   by_cases he : (a.2.1[i]'h).1 = r
   ·rw [if_pos (by simpa using he), pos_at (i := i) (x := r) (by rw [List.getElem?_map, List.getElem?_eq_getElem h]; simp [he]) ht]
    congr 1; omega
   ·rw [if_neg (by simpa using he), zfr (by omega)]
    exact ih (i + 1) (by omega) (by omega) (take_more r h ht he)
  ·rw [if_neg (by simp only [decide_eq_true_eq]; omega)]
   rw [List.take_of_length_le (by simp; omega)] at ht
   rw [pos_none ht]; rfl
theorem Number_val (hl : a.2.1.length <= 5000) : r03_Number 80000 a r = some (pos (lsOf a) r - 1) := by
 unfold r03_Number
 exact Number_l1 a r hl 80000 0 (Nat.zero_le _) (by omega) (by simp)
theorem Find_val (hl : a.2.1.length <= 5000) : r02_Find 80000 a r = some (pos (lsOf a) r - 1) := by
 unfold r02_Find
 exact Find_l1 a r hl 80000 0 (Nat.zero_le _) (by omega) (by simp)
theorem Index_val (hl : a.2.1.length <= 5000) : zcr 80000 a.2.1 (r, ()) = some (pos (lsOf a) r - 1) := by
 unfold zcr
 exact Index_l1 a r hl 80000 0 (Nat.zero_le _) (by omega) (by simp)
end
def isL (a : Alph) (r : Int) : Bool := decide (r ∈ lsOf a)
theorem pos_isL (a : Alph) (r : Int) : decide (pos (lsOf a) r - 1 < 0) = !isL a r := by
 unfold isL
 by_cases h : r ∈ lsOf a
 ·rw [decide_eq_true h]
  unfold pos
  rw [if_pos h]
  have : (0 : Int) <= ((lsOf a).idxOf r : Nat) := by omega
  rw [decide_eq_false (by omega)]; rfl
 ·rw [decide_eq_false h, pos_none h]
  rfl
theorem ranks_isL (a : Alph) (h : a.2.1.length <= 128) : ∀ n i (m : List (Int × Int)), i <= a.2.1.length -> a.2.1.length - i < n -> (∀ r : Int, (mget (eqEl (.int .i32)) m r).isSome = decide (r ∈ (lsOf a).take i)) ->
  ∃ m', zcw a n (i : Int) m = some (some m', 0) /\ ∀ r : Int, (mget (eqEl (.int .i32)) m' r).isSome = isL a r := by
 intro n
 induction n with
 | zero => intro i m _ h; omega
 | succ n ih =>
  intro i m hi hn hm
  unfold zcw word_ranks_b1
  by_cases h : i < a.2.1.length
  ·rw [if_pos (by simp only [decide_eq_true_eq]; omega), at_lt h]; simp only [Option.bind_some]
   rw [zfr (by omega)]
   refine ih (i + 1) _ (by omega) (by omega) fun r => ?_
   have ht : (lsOf a).take (i + 1) = (lsOf a).take i ++ [(a.2.1[i]'h).1] := by
    rw [List.take_succ_eq_append_getElem (by simpa using h)]
    simp
   have := zft (α := Int) (β := Int) zfu (a.2.1[i]'h).1 r (i : Int) m
   rw [ht]
   by_cases e : r = (a.2.1[i]'h).1
   ·refine (congrArg Option.isSome (this.1 e)).trans ?_
    rw [decide_eq_true (by rw [e]; simp)]
    rfl
   ·refine (congrArg Option.isSome (this.2 e)).trans ((hm r).trans ?_)
    rw [Bool.eq_iff_iff]
    simp only [decide_eq_true_eq, List.mem_append, List.mem_singleton]
    exact ⟨.inl, fun hh => hh.resolve_right e⟩
  ·rw [if_neg (by simp only [decide_eq_true_eq]; omega)]
   refine ⟨m, rfl, fun r => ?_⟩
   rw [hm r, List.take_of_length_le (by simp; omega)]
   rfl
def wl (a : Alph) (w : List UInt8) : List Int × Int := if chkA a then rdL (isL a) w 1001 0 [] else ([], 7)
theorem Letters_wl (a : Alph) {w : List UInt8} (hw : w.length <= 1000) : zc3 80000 a w = some (wl a w) := by
 unfold zc3 word_ranks wl
 rw [show zco 80000 ((a.1, a.2.1, ()) : Alph) = some (if chkA a then 0 else 7) from featCheck_val a]
 simp only [Option.bind_some]
 cases hc : chkA a with
 | false => rfl
 | true =>
  have hl := chkA_len hc
  rw [if_neg (by simp), if_pos rfl]
  obtain ⟨m, hm, hS⟩ := ranks_isL (a.1, a.2.1, ()) hl.2.2 80000 0 [] (Nat.zero_le _) (by show a.2.1.length - 0 < 80000; omega) (fun r => by simp [mget])
  rw [show zcw (a.1, a.2.1, ()) 80000 (0 : Int) [] = some (some m, 0) from hm]
  simp only [Option.bind_some]
  rw [if_neg (by simp)]
  unfold word_read
  rw [if_neg (by simp only [decide_eq_true_eq]; omega)]
  unfold word_read_j1 runes_Pieces runes_long
  rw [if_neg (by simp only [decide_eq_true_eq]; omega)]
  simp only [Option.bind_some]
  rw [if_neg (by simp)]
  unfold zc1
  obtain ⟨v, e, hv, hvl⟩ := each_PcL hw 80000 0 [] (Nat.zero_le _) (by omega) (by simp; omega)
  rw [e, List.nil_append]
  simp only [Option.bind_some]
  rw [if_neg (by simp)]
  have big : ∀ q n p (v : List (Int × Int × Int × Bool × Unit)), PcL w n p v -> w.length - p < q -> PcL w q p v := by
   intro q
   induction q with
   | zero => intro n p v _ h; omega
   | succ q ih =>
    intro n p v hp hq
    match n, v, hp with
    | 0, [], hp => exact hp
    | n + 1, [], hp => exact hp
    | 0, _ :: _, hp => exact hp.elim
    | n + 1, x :: v, ⟨h1, h2, h3, h4⟩ =>
     have := g_size w p h1
     exact ⟨h1, h2, h3, ih n _ v h4 (by omega)⟩
  have := read_rdL (V := v) (some m) (isL a) hS w (by omega) 80000 0 0 1001 [] (Nat.zero_le _) (by omega) (by omega) (by simp) (Nat.zero_le _) (big 1001 80000 0 v hv (by omega))
  rw [show zc2 (v, 0) (some m) 80000 (0 : Int) [] = _ from this]
  rfl
theorem refLetters_wl (a : Alph) {w : List UInt8} (hw : w.length <= 1000) : zef 80000 a w = some (wl a w) := by
 unfold zef wl
 rw [show r02_Check 80000 ((a.1, a.2.1, ()) : Alph) = some (if chkA a then 0 else 7) from r02Check_val a]
 simp only [Option.bind_some]
 cases hc : chkA a with
 | false => rfl
 | true =>
  have hl := chkA_len hc
  rw [if_neg (by simp), if_pos rfl]
  unfold r03_Read
  have := refRead_rdL (a.1, a.2.1, ()) (isL a) (fun r => ⟨_, Number_val (a.1, a.2.1, ()) r (by show a.2.1.length <= 5000; omega), pos_isL (a.1, a.2.1, ()) r⟩) hw 1001 80000 0 [] (Nat.zero_le _) (by omega) (by omega) (by simp)
  rw [show r03_Read_l1 80000 w ((a.1, a.2.1, ()) : Alph) (64 : Int) 80000 (0 : Int) [] = _ from this]
  rfl
theorem refCheck_wl (a : Alph) {w : List UInt8} (hw : w.length <= 1000) : r03_Check 80000 a w = some (wl a w).2 := by
 unfold r03_Check
 rw [show zef 80000 ((a.1, a.2.1, ()) : Alph) w = _ from refLetters_wl a hw]
 rfl
theorem rdL_ok (M : Int -> Bool) (s : List UInt8) : ∀ n p out, out.length <= 64 -> (∀ r ∈ out, M r = true) -> (rdL M s n p out).2 = 0 -> (rdL M s n p out).1.length <= 64 /\ ∀ r ∈ (rdL M s n p out).1, M r = true := by
 intro n
 induction n with
 | zero => intro p out h1 h2 _; exact ⟨h1, h2⟩
 | succ n ih =>
  intro p out h1 h2 h3
  unfold rdL at h3 ⊢
  split at h3
  ·rename_i hp
   rw [if_pos hp]
   split at h3
   ·cases h3
   rename_i hb
   rw [if_neg hb]
   split at h3
   ·cases h3
   rename_i hm
   rw [if_neg hm]
   split at h3
   ·cases h3
   rename_i hl
   rw [if_neg hl]
   have hl' : out.length ≠ 64 := fun e => hl (by rw [e]; rfl)
   refine ih _ _ (by simp only [List.length_append, List.length_cons, List.length_nil]; omega) (fun r hr => ?_) h3
   rcases List.mem_append.1 hr with hr | hr
   ·exact h2 r hr
   ·have : r = ((g s p).1 : Int) := by simpa using hr
    rw [this]
    simpa using hm
  ·rename_i hp
   rw [if_neg hp]
   exact ⟨h1, h2⟩
theorem wl_ok (a : Alph) (w : List UInt8) (h : (wl a w).2 = 0) : chkA a = true /\ (wl a w).1.length <= 64 /\ ∀ r ∈ (wl a w).1, r ∈ lsOf a := by
 unfold wl at h ⊢
 cases hc : chkA a with
 | false => rw [hc] at h; cases h
 | true =>
  rw [hc, if_pos rfl] at h
  rw [if_pos rfl]
  have := rdL_ok (isL a) w 1001 0 [] (by simp) (by simp) h
  exact ⟨rfl, this.1, fun r hr => of_decide_eq_true (this.2 r hr)⟩
end Go.Ev
namespace Go.Ev
open Go
set_option linter.unusedVariables false
/-! Bits counted. -/
def bitsN (z : Nat) : Nat -> Nat
 | 0 => 0
 | n + 1 => bitsN z n + (z.testBit n).toNat
def popT : List UInt8 := [0, 1, 1, 2, 1, 2, 2, 3, 1, 2, 2, 3, 2, 3, 3, 4, 1, 2, 2, 3, 2, 3, 3, 4, 2, 3, 3, 4, 3, 4, 4, 5, 1, 2, 2, 3, 2, 3, 3, 4, 2, 3, 3, 4, 3, 4, 4, 5, 2, 3, 3, 4, 3, 4, 4, 5, 3, 4, 4, 5, 4, 5, 5, 6, 1, 2, 2, 3, 2, 3, 3, 4, 2, 3, 3, 4, 3, 4, 4, 5, 2, 3, 3, 4, 3, 4, 4, 5, 3, 4, 4, 5, 4, 5, 5, 6, 2, 3, 3, 4, 3, 4, 4, 5, 3, 4, 4, 5, 4, 5, 5, 6, 3, 4, 4, 5, 4, 5, 5, 6, 4, 5, 5, 6, 5, 6, 6, 7, 1, 2, 2, 3, 2, 3, 3, 4, 2, 3, 3, 4, 3, 4, 4, 5, 2, 3, 3, 4, 3, 4, 4, 5, 3, 4, 4, 5, 4, 5, 5, 6, 2, 3, 3, 4, 3, 4, 4, 5, 3, 4, 4, 5, 4, 5, 5, 6, 3, 4, 4, 5, 4, 5, 5, 6, 4, 5, 5, 6, 5, 6, 6, 7, 2, 3, 3, 4, 3, 4, 4, 5, 3, 4, 4, 5, 4, 5, 5, 6, 3, 4, 4, 5, 4, 5, 5, 6, 4, 5, 5, 6, 5, 6, 6, 7, 3, 4, 4, 5, 4, 5, 5, 6, 4, 5, 5, 6, 5, 6, 6, 7, 4, 5, 5, 6, 5, 6, 6, 7, 5, 6, 6, 7, 6, 7, 7, 8]
set_option maxRecDepth 100000 in
theorem popT_len : popT.length = 256 := by decide +kernel
set_option maxRecDepth 100000 in
theorem popT_all : ∀ i : Fin 256, (popT.getD i.val 0).toNat = bitsN i.val 8 := by decide +kernel
theorem popT_at {n : Nat} (h : n < 256) : byteAt popT (n : Int) = some ((bitsN n 8 : Nat) : Int) := by
 rw [byteAt_of (by rw [popT_len]; exact h)]
 have := popT_all ⟨n, h⟩
 simp only [List.getD_eq_getElem?_getD, List.getElem?_eq_getElem (show n < popT.length by rw [popT_len]; exact h), Option.getD_some] at this
 rw [this]
theorem ones_eta (k : Nat) (x : Int) : zc4 k x = Option.bind (chk (0 <= (24 : Int))) fun _ =>
 Option.bind (byteAt popT (Int.fdiv x (2 ^ min ((24 : Int)).toNat 32))) fun b1 =>
 Option.bind (chk (0 <= (16 : Int))) fun _ =>
 Option.bind (byteAt popT (wu32 (BitVec.toNat (BitVec.ofInt 32 (Int.fdiv x (2 ^ min ((16 : Int)).toNat 32)) &&& BitVec.ofInt 32 (255 : Int))))) fun b2 =>
 Option.bind (chk (0 <= (8 : Int))) fun _ =>
 Option.bind (byteAt popT (wu32 (BitVec.toNat (BitVec.ofInt 32 (Int.fdiv x (2 ^ min ((8 : Int)).toNat 32)) &&& BitVec.ofInt 32 (255 : Int))))) fun b3 =>
 Option.bind (byteAt popT (wu32 (BitVec.toNat (BitVec.ofInt 32 x &&& BitVec.ofInt 32 (255 : Int))))) fun b4 =>
 some (wi64 (wu8 ((wu8 ((wu8 (b1 + b2)) + b3)) + b4))) := rfl
theorem bitsN_le (z n : Nat) : bitsN z n <= n := by
 induction n with
 | zero => exact Nat.le_refl _
 | succ n ih =>
  unfold bitsN
  have : (z.testBit n).toNat <= 1 := Bool.toNat_le _
  omega
theorem low8 {y : Nat} (h : y < 4294967296) : wu32 (BitVec.toNat (BitVec.ofInt 32 (y : Int) &&& BitVec.ofInt 32 (255 : Int)) : Int) = ((y % 256 : Nat) : Int) := by
 have e : BitVec.toNat (BitVec.ofInt 32 (y : Int) &&& BitVec.ofInt 32 (255 : Int)) = y % 256 := by
  rw [BitVec.toNat_and, BitVec.toNat_ofInt, BitVec.toNat_ofInt]
  have e1 : ((y : Int) % ((2 ^ 32 : Nat) : Int)).toNat = y := by
   rw [Int.emod_eq_of_lt (by omega) (by show (y : Int) < 4294967296; omega)]
   omega
  rw [e1, show ((255 : Int) % ((2 ^ 32 : Nat) : Int)).toNat = 2 ^ 8 - 1 from by decide, Nat.and_two_pow_sub_one_eq_mod]
 rw [e, wu32_of (by omega)]
theorem bitsN_succ (z n : Nat) : bitsN z (n + 1) = bitsN z n + (z.testBit n).toNat := rfl
theorem bitsN_mono (z s : Nat) : ∀ m, bitsN z s <= bitsN z (s + m)
 | 0 => Nat.le_refl _
 | m + 1 => Nat.le_trans (bitsN_mono z s m) (by rw [<- Nat.add_assoc, bitsN_succ]; omega)
theorem bits_shift (z s : Nat) : ∀ n, n <= 8 -> bitsN (z / 2 ^ s % 256) n = bitsN z (s + n) - bitsN z s := by
 intro n
 induction n with
 | zero => intro _; simp [bitsN]
 | succ n ih =>
  intro h
  have mono := bitsN_mono z s
  rw [<- Nat.add_assoc, bitsN_succ, bitsN_succ, ih (by omega)]
  have e : (z / 2 ^ s % 256).testBit n = z.testBit (s + n) := by
   rw [show (256 : Nat) = 2 ^ 8 from rfl, Nat.testBit_mod_two_pow, Nat.testBit_div_two_pow, decide_eq_true (by omega), Bool.true_and, Nat.add_comm]
  have := mono n
  rw [e]
  omega
theorem ones_val (k : Nat) {z : Nat} (h : z < 4294967296) : zc4 k (z : Int) = some ((bitsN z 32 : Nat) : Int) := by
 rw [ones_eta, chk_of (by omega), chk_of (by omega), chk_of (by omega)]
 have d : ∀ s : Nat, (2 : Int) ^ s = ((2 ^ s : Nat) : Int) := fun s => by simp
 have d24 : Int.fdiv (z : Int) (2 ^ min ((24 : Int)).toNat 32) = ((z / 2 ^ 24 : Nat) : Int) := by
  rw [show min ((24 : Int)).toNat 32 = 24 from by decide, Int.fdiv_eq_ediv_of_nonneg _ (by decide)]
  simp
 have d16 : Int.fdiv (z : Int) (2 ^ min ((16 : Int)).toNat 32) = ((z / 2 ^ 16 : Nat) : Int) := by
  rw [show min ((16 : Int)).toNat 32 = 16 from by decide, Int.fdiv_eq_ediv_of_nonneg _ (by decide)]
  simp
 have d8 : Int.fdiv (z : Int) (2 ^ min ((8 : Int)).toNat 32) = ((z / 2 ^ 8 : Nat) : Int) := by
  rw [show min ((8 : Int)).toNat 32 = 8 from by decide, Int.fdiv_eq_ediv_of_nonneg _ (by decide)]
  simp
 have b24 : z / 2 ^ 24 < 256 := by omega
 rw [d24, d16, d8, low8 (by omega), low8 (by omega), low8 h, popT_at b24, popT_at (by omega), popT_at (by omega), popT_at (by omega)]
 simp only [Option.bind_some]
 have e0 := bits_shift z 0 8 (by omega)
 have e1 := bits_shift z 8 8 (by omega)
 have e2 := bits_shift z 16 8 (by omega)
 have e3 := bits_shift z 24 8 (by omega)
 rw [Nat.mod_eq_of_lt b24] at e3
 rw [show z / 2 ^ 0 = z from by simp] at e0
 have l : ∀ m, bitsN m 8 <= 8 := fun m => bitsN_le m 8
 have l1 := l (z / 2 ^ 24)
 have l2 := l (z / 2 ^ 16 % 256)
 have l3 := l (z / 2 ^ 8 % 256)
 have l4 := l (z % 256)
 have m1 : bitsN z 0 = 0 := rfl
 have mono := fun s => bitsN_mono z s 8
 have q0 := mono 0
 have q1 := mono 8
 have q2 := mono 16
 have q3 := mono 24
 simp only [Nat.zero_add, show 8 + 8 = 16 from rfl, show 16 + 8 = 24 from rfl, show 24 + 8 = 32 from rfl] at e0 e1 e2 e3 q0 q1 q2 q3
 rw [wu8_of (x := ((bitsN (z / 2 ^ 24) 8 : Nat) : Int) + ((bitsN (z / 2 ^ 16 % 256) 8 : Nat) : Int)) (by omega),
  wu8_of (x := ((bitsN (z / 2 ^ 24) 8 : Nat) : Int) + ((bitsN (z / 2 ^ 16 % 256) 8 : Nat) : Int) + ((bitsN (z / 2 ^ 8 % 256) 8 : Nat) : Int)) (by omega),
  wu8_of (x := ((bitsN (z / 2 ^ 24) 8 : Nat) : Int) + ((bitsN (z / 2 ^ 16 % 256) 8 : Nat) : Int) + ((bitsN (z / 2 ^ 8 % 256) 8 : Nat) : Int) + ((bitsN (z % 256) 8 : Nat) : Int)) (by omega), wi64_of (by omega)]
 congr 1
 omega
/-! One letter and another one. -/
def zOf (x y : Int × Int × Int × Unit) : BitVec 32 := (BitVec.ofInt 32 x.2.1 ^^^ BitVec.ofInt 32 y.2.1) ||| (BitVec.ofInt 32 x.2.2.1 ^^^ BitVec.ofInt 32 y.2.2.1)
theorem ofInt_wu32 (v : BitVec 32) : BitVec.ofInt 32 (wu32 (BitVec.toNat v : Int)) = v := by
 have := v.isLt
 rw [wu32_of (by omega)]
 apply BitVec.eq_of_toNat_eq
 rw [BitVec.toNat_ofInt, Int.emod_eq_of_lt (by omega) (by show (v.toNat : Int) < 4294967296; omega)]
 omega
theorem unlike_val (k : Nat) (x y : Int × Int × Int × Unit) : zc5 k x y = some ((bitsN (zOf x y).toNat 32 : Nat) : Int) := by
 unfold zc5
 rw [ofInt_wu32, ofInt_wu32]
 have := (zOf x y).isLt
 have e : wu32 (BitVec.toNat (BitVec.ofInt 32 x.2.1 ^^^ BitVec.ofInt 32 y.2.1 ||| BitVec.ofInt 32 x.2.2.1 ^^^ BitVec.ofInt 32 y.2.2.1) : Int) = (((zOf x y).toNat : Nat) : Int) := wu32_of (by show 0 <= ((zOf x y).toNat : Int) /\ ((zOf x y).toNat : Int) < 4294967296; omega)
 rw [e, ones_val k this]
 rfl
theorem and_pow (v : BitVec 32) {j : Nat} (hj : j < 32) : v &&& BitVec.ofInt 32 ((2 ^ j : Nat) : Int) = if v.getLsbD j then BitVec.twoPow 32 j else 0#32 := by
 have e : BitVec.ofInt 32 ((2 ^ j : Nat) : Int) = BitVec.twoPow 32 j := by
  apply BitVec.eq_of_toNat_eq
  have hlt : 2 ^ j < 2 ^ 32 := Nat.pow_lt_pow_right (by omega) hj
  rw [BitVec.toNat_ofInt, BitVec.toNat_twoPow, Nat.mod_eq_of_lt hlt]
  generalize 2 ^ j = P at hlt ⊢
  rw [Int.emod_eq_of_lt (by omega) (by omega)]
  omega
 rw [e, BitVec.and_twoPow]
theorem bit_ne (u v : BitVec 32) {j : Nat} (hj : j < 32) : ((wu32 (BitVec.toNat (u &&& BitVec.ofInt 32 ((2 ^ j : Nat) : Int)) : Int)) != (wu32 (BitVec.toNat (v &&& BitVec.ofInt 32 ((2 ^ j : Nat) : Int)) : Int))) = (u.getLsbD j ^^ v.getLsbD j) := by
 rw [and_pow u hj, and_pow v hj]
 have hp : (BitVec.twoPow 32 j).toNat = 2 ^ j := by
  rw [BitVec.toNat_twoPow, Nat.mod_eq_of_lt (Nat.pow_lt_pow_right (by omega) hj)]
 have hlt : 2 ^ j < 2 ^ 32 := Nat.pow_lt_pow_right (by omega) hj
 have hpos : 0 < 2 ^ j := Nat.pow_pos (by omega)
 have hw : wu32 ((2 ^ j : Nat) : Int) = ((2 ^ j : Nat) : Int) := wu32_of (by generalize 2 ^ j = P at hlt ⊢; omega)
 have h0 : wu32 ((0 : Nat) : Int) = 0 := wu32_of (by omega)
 cases u.getLsbD j <;> cases v.getLsbD j
 ·simp
 ·simp only [Bool.false_eq_true, if_false, if_true, hp, hw, BitVec.toNat_zero, h0, Bool.false_xor]
  rw [bne_iff_ne]; generalize 2 ^ j = P at hpos ⊢; omega
 ·simp only [Bool.false_eq_true, if_false, if_true, hp, hw, BitVec.toNat_zero, h0, Bool.xor_false]
  rw [bne_iff_ne]; generalize 2 ^ j = P at hpos ⊢; omega
 ·simp
theorem refUnlike_l1 (x y : Int × Int × Int × Unit) : ∀ (m n j c : Nat), 24 - j < m -> m <= n -> j <= 24 -> c <= j -> r02_unlike_l1 x y n (c : Int) ((2 ^ j : Nat) : Int) = some ((c + (bitsN (zOf x y).toNat 24 - bitsN (zOf x y).toNat j) : Nat) : Int) := by
 intro m
 induction m with
 | zero => intro n j c h; omega
 | succ m ih =>
  intro n j c hm hn hj hc
  obtain ⟨n, rfl⟩ : ∃ n', n = n' + 1 := ⟨n - 1, by omega⟩
  unfold r02_unlike_l1 r02_unlike_b1
  by_cases h : j < 24
  ·have hlt : 2 ^ j < 2 ^ 24 := Nat.pow_lt_pow_right (by omega) h
   rw [if_pos (by simp only [decide_eq_true_eq]; omega), bit_ne _ _ (by omega), bit_ne _ _ (by omega)]
   have hz : (((BitVec.ofInt 32 x.2.1).getLsbD j ^^ (BitVec.ofInt 32 y.2.1).getLsbD j) || ((BitVec.ofInt 32 x.2.2.1).getLsbD j ^^ (BitVec.ofInt 32 y.2.2.1).getLsbD j)) = (zOf x y).toNat.testBit j := by
    show _ = (zOf x y).getLsbD j
    unfold zOf
    rw [BitVec.getLsbD_or, BitVec.getLsbD_xor, BitVec.getLsbD_xor]
   rw [hz]
   have hw : wu32 (((2 ^ j : Nat) : Int) * (2 : Int)) = ((2 ^ (j + 1) : Nat) : Int) := by
    rw [Nat.pow_succ]
    generalize 2 ^ j = P at hlt ⊢
    rw [wu32_of (by omega)]
    omega
   have hmono := bitsN_mono (zOf x y).toNat (j + 1) (24 - (j + 1))
   rw [show j + 1 + (24 - (j + 1)) = 24 from by omega] at hmono
   have hb : bitsN (zOf x y).toNat (j + 1) = bitsN (zOf x y).toNat j + ((zOf x y).toNat.testBit j).toNat := rfl
   unfold r02_unlike_j2 r02_unlike_j1
   cases ht : (zOf x y).toNat.testBit j with
   | true =>
    rw [ht] at hb
    rw [if_pos rfl, hw, zfr (by omega), ih n (j + 1) (c + 1) (by omega) (by omega) (by omega) (by omega)]
    simp only [Bool.toNat_true] at hb
    congr 2
    omega
   | false =>
    rw [ht] at hb
    rw [if_neg (by simp), hw, ih n (j + 1) c (by omega) (by omega) (by omega) (by omega)]
    simp only [Bool.toNat_false] at hb
    congr 2
    omega
  ·have : j = 24 := by omega
   subst this
   rw [if_neg (by simp only [decide_eq_true_eq]; decide)]
   simp
theorem refUnlike_val (x y : Int × Int × Int × Unit) : r02_unlike 80000 x y = some ((bitsN (zOf x y).toNat 24 : Nat) : Int) := by
 unfold r02_unlike
 have := refUnlike_l1 x y 25 80000 0 0 (by omega) (by omega) (by omega) (by omega)
 rw [show ((2 ^ 0 : Nat) : Int) = 1 from rfl] at this
 rw [show ((0 : Nat) : Int) = 0 from rfl] at this
 rw [this]
 simp [bitsN]
theorem bitsN_small {z : Nat} (h : z < 2 ^ 24) : bitsN z 32 = bitsN z 24 := by
 have : ∀ i, 24 <= i -> z.testBit i = false := fun i hi => Nat.testBit_lt_two_pow (Nat.lt_of_lt_of_le h (Nat.pow_le_pow_right (by omega) hi))
 simp [bitsN, this]
theorem letter_small {a : Alph} (hc : chkA a = true) {x : Int × Int × Int × Unit} (hx : x ∈ a.2.1) : (BitVec.ofInt 32 x.2.1).toNat < 2 ^ 24 /\ (BitVec.ofInt 32 x.2.2.1).toNat < 2 ^ 24 := by
 have hl := chkA_len hc
 unfold chkA at hc
 simp only [Bool.and_eq_true, List.all_eq_true] at hc
 have := (hc.2.1 x hx).2
 unfold wtB at this
 simp only [Bool.and_eq_true, decide_eq_true_eq] at this
 have h1 := this.1
 unfold wtP at h1
 rw [BitVec.toNat_or] at h1
 have h2 : 2 ^ a.1.length <= 2 ^ 24 := Nat.pow_le_pow_right (by omega) hl.1
 have h3 := Nat.left_le_or (n := (BitVec.ofInt 32 x.2.1).toNat) (m := (BitVec.ofInt 32 x.2.2.1).toNat)
 have h4 := Nat.right_le_or (n := (BitVec.ofInt 32 x.2.1).toNat) (m := (BitVec.ofInt 32 x.2.2.1).toNat)
 omega
theorem zOf_small {a : Alph} (hc : chkA a = true) {x y : Int × Int × Int × Unit} (hx : x ∈ a.2.1) (hy : y ∈ a.2.1) : (zOf x y).toNat < 2 ^ 24 := by
 unfold zOf
 rw [BitVec.toNat_or, BitVec.toNat_xor, BitVec.toNat_xor]
 have h1 := letter_small hc hx
 have h2 := letter_small hc hy
 exact Nat.or_lt_two_pow (Nat.xor_lt_two_pow h1.1 h2.1) (Nat.xor_lt_two_pow h1.2 h2.2)
theorem pos_lt {ls : List Int} {r : Int} (h : r ∈ ls) : 0 <= pos ls r - 1 /\ pos ls r - 1 < ls.length := by
 have := List.idxOf_lt_length_of_mem h
 unfold pos
 rw [if_pos h]
 omega
theorem Far_same {a : Alph} (hc : chkA a = true) {x y : Int} (hx : x ∈ lsOf a) (hy : y ∈ lsOf a) : ∃ v, feature_Far 80000 a x y = some (v, 0) /\ r02_Far 80000 a x y = some (v, 0) := by
 have hl := chkA_len hc
 have px := pos_lt hx
 have py := pos_lt hy
 rw [List.length_map] at px py
 have hof : ∀ r ∈ lsOf a, ∀ (h : 0 <= pos (lsOf a) r - 1 /\ pos (lsOf a) r - 1 < a.2.1.length), zcs 80000 a r = some (a.2.1[(pos (lsOf a) r - 1).toNat]'(by omega), 0) := by
  intro r hr h
  unfold zcs
  rw [show zco 80000 ((a.1, a.2.1, ()) : Alph) = some (if chkA a then 0 else 7) from featCheck_val a, hc]
  simp only [Option.bind_some]
  rw [if_neg (by simp), Index_val a r (by omega)]
  simp only [Option.bind_some]
  rw [if_neg (by simp only [decide_eq_true_eq]; omega), at_int h.1 h.2]
  rfl
 refine ⟨((bitsN (zOf (a.2.1[(pos (lsOf a) x - 1).toNat]'(by omega)) (a.2.1[(pos (lsOf a) y - 1).toNat]'(by omega))).toNat 24 : Nat) : Int), ?_, ?_⟩
 ·unfold feature_Far
  rw [show zcs 80000 ((a.1, a.2.1, ()) : Alph) x = _ from hof x hx px]
  simp only [Option.bind_some]
  rw [if_neg (by simp), show zcs 80000 ((a.1, a.2.1, ()) : Alph) y = _ from hof y hy py]
  simp only [Option.bind_some]
  rw [if_neg (by simp)]
  have := unlike_val 80000 (a.2.1[(pos (lsOf a) x - 1).toNat]'(by omega)) (a.2.1[(pos (lsOf a) y - 1).toNat]'(by omega))
  rw [bitsN_small (zOf_small hc (List.getElem_mem _) (List.getElem_mem _))] at this
  rw [show zc5 80000 _ _ = _ from this]
  rfl
 ·unfold r02_Far r02_asked
  rw [show r02_Check 80000 ((a.1, a.2.1, ()) : Alph) = some (if chkA a then 0 else 7) from r02Check_val a, hc]
  simp only [Option.bind_some]
  rw [if_neg (by simp)]
  have ask : zeg 80000 [x, y] a 80000 (0 : Int) = some 0 := by
   have f := fun r => Find_val (a.1, a.2.1, ()) r (by show a.2.1.length <= 5000; omega)
   unfold zeg r02_asked_b1
   rw [if_pos (by simp), at2_0]
   simp only [Option.bind_some]
   rw [show r02_Find 80000 ((a.1, a.2.1, ()) : Alph) x = some (pos (lsOf a) x - 1) from f x]
   simp only [Option.bind_some]
   rw [if_neg (by simp only [decide_eq_true_eq]; omega), show wi64 ((0 : Int) + 1) = 1 from by decide]
   unfold zeg r02_asked_b1
   rw [if_pos (by simp), at2_1]
   simp only [Option.bind_some]
   rw [show r02_Find 80000 ((a.1, a.2.1, ()) : Alph) y = some (pos (lsOf a) y - 1) from f y]
   simp only [Option.bind_some]
   rw [if_neg (by simp only [decide_eq_true_eq]; omega), show wi64 ((1 : Int) + 1) = 2 from by decide]
   unfold zeg r02_asked_b1
   rw [if_neg (by simp)]
  rw [show zeg 80000 [x, y] ((a.1, a.2.1, ()) : Alph) 80000 (0 : Int) = some 0 from ask]
  simp only [Option.bind_some]
  rw [if_neg (by simp), show r02_Find 80000 ((a.1, a.2.1, ()) : Alph) x = some (pos (lsOf a) x - 1) from Find_val (a.1, a.2.1, ()) x (by show a.2.1.length <= 5000; omega)]
  simp only [Option.bind_some]
  rw [at_int px.1 px.2]
  simp only [Option.bind_some]
  rw [show r02_Find 80000 ((a.1, a.2.1, ()) : Alph) y = some (pos (lsOf a) y - 1) from Find_val (a.1, a.2.1, ()) y (by show a.2.1.length <= 5000; omega)]
  simp only [Option.bind_some]
  rw [at_int py.1 py.2]
  simp only [Option.bind_some]
  rw [refUnlike_val]
  rfl
theorem zero_not {a : Alph} (hc : chkA a = true) : (0 : Int) ∉ lsOf a := by
 intro h
 obtain ⟨x, hx, he⟩ := List.mem_map.1 h
 unfold chkA at hc
 simp only [Bool.and_eq_true, List.all_eq_true] at hc
 have := (hc.2.1 x hx).1
 rw [he] at this
 exact absurd this (by decide)
theorem refOf_val {a : Alph} (hc : chkA a = true) {x y : Int} (hx : x = 0 \/ x ∈ lsOf a) (hy : y = 0 \/ y ∈ lsOf a) : r21_Of 80000 a x y = some (frV a x y) := by
 rw [<- far_val a x y]
 unfold r21_Of zc6
 by_cases h : x = y
 ·rw [if_pos (by simpa using h), if_pos (by simpa using h)]
 rw [if_neg (by simpa using h), if_neg (by simpa using h)]
 unfold r21_Of_j1 align_far_j1
 by_cases h2 : ((x == 0) || (y == 0)) = true
 ·rw [if_pos h2, if_pos h2]
 rw [if_neg h2, if_neg h2]
 simp only [Bool.or_eq_true, beq_iff_eq, not_or] at h2
 obtain ⟨v, e1, e2⟩ := Far_same hc (hx.resolve_left h2.1) (hy.resolve_left h2.2)
 rw [show feature_Far 80000 ((a.1, a.2.1, ()) : Alph) x y = _ from e1, show r02_Far 80000 ((a.1, a.2.1, ()) : Alph) x y = _ from e2]
theorem frV_left (a : Alph) {x : Int} (hx : x ≠ 0) : frV a x 0 = 5 := by
 have := far_val a x 0
 unfold zc6 at this
 rw [if_neg (by simpa using hx)] at this
 unfold align_far_j1 at this
 rw [if_pos (by simp)] at this
 exact (Option.some.inj this).symm
theorem frV_right (a : Alph) {y : Int} (hy : y ≠ 0) : frV a 0 y = 5 := by
 have := far_val a 0 y
 unfold zc6 at this
 rw [if_neg (by simpa using fun e : (0 : Int) = y => hy e.symm)] at this
 unfold align_far_j1 at this
 rw [if_pos (by simp)] at this
 exact (Option.some.inj this).symm
end Go.Ev
