/- slices.SortedFunc over maps.Keys: a contract for calls by the evaluator. -/
import Derived.Test.YtgkgdfmldioddaaGreatDoorMM8
import Derived.Test.YtgkgdfmldioddaaGreatDoorMM6
import Derived.Test.YtgkgdfmldioddaaGreatDoorCtCs
import Derived.Lib.QuietBelow
import Derived.Test.YtgkgdfmldioddaaGreatDoorMM4
import Derived.Test.YtgkgdfmldioddaaGreatDoorMM7
import Derived.OpenShut
import Derived.WideShapes
set_option linter.unusedSectionVars false
set_option linter.unusedVariables false
set_option linter.unusedSimpArgs false
namespace Go.Ev
open Go Go.Proofs Go.RowKit Go.Sort
set_option maxRecDepth 100000
set_option maxHeartbeats 1000000
abbrev tyP : Ty := .pair (.int .i32) (.pair (.int .i32) .unit)
theorem rep_pair {w : World} {M : Nat -> Prop} {cs : List Value} {x : Int × Int × Unit} : rep w M tyP cs x ↔ cs = [.int .i32 x.1, .int .i32 x.2.1] := by
 constructor
 ·rintro ⟨c1, c2, rfl, h1, c3, c4, rfl, h2, h3⟩
  have h1 : c1 = [.int .i32 x.1] := h1
  have h2 : c3 = [.int .i32 x.2.1] := h2
  have h3 : c4 = [] := h3
  rw [h1, h2, h3]; rfl
 ·rintro rfl
  exact ⟨[_], [_], rfl, rfl, [_], [], rfl, rfl, rfl⟩
theorem repV_pair {w : World} {M : Nat -> Prop} {v : Value} {x : Int × Int × Unit} : repV w M v tyP x ↔ v = encP x := by
 show (∃ cs : List Value, v = .agg cs.toArray /\ rep w M tyP cs x) ↔ _
 constructor
 ·rintro ⟨cs, rfl, h⟩
  rw [rep_pair.1 h]; rfl
 ·rintro rfl
  exact ⟨_, rfl, rep_pair.2 rfl⟩
theorem repM_keys {w : World} {M : Nat -> Prop} {fv : Value -> Int -> Prop} : ∀ {es : List MapEntry} {ps : List ((Int × Int × Unit) × Int)}, repM (repV' w M tyP) fv es ps -> es.map (·.key) = (ps.map (·.1)).map encP
 | [], [], _ => rfl
 | [], _ :: _, h => h.elim
 | _ :: _, [], h => h.elim
 | e :: es, p :: ps, ⟨h1, _, h3⟩ => by
  rw [List.map_cons, List.map_cons, List.map_cons, repM_keys h3, repV_pair.1 h1]
theorem two_args {n : Nat} {vs : List Value} {u v : Value} (h1 : vs.length = 2) (h : (vs.toArray ++ Array.replicate (n - vs.toArray.size) undef)[0]? = some u) (h' : (vs.toArray ++ Array.replicate (n - vs.toArray.size) undef)[1]? = some v) : vs = [u, v] := by
 match vs, h1 with
 | [a, b], _ =>
  rw [Array.getElem?_append_left (by simp)] at h h'
  simp at h h'
  rw [h, h']
theorem repL_ce {w : World} {M : Nat -> Prop} : ∀ l : List (Int × Int × Unit), repL (rep w M tyP) (l.flatMap ce) l
 | [] => rfl
 | x :: l => ⟨ce x, l.flatMap ce, rfl, rep_pair.2 rfl, repL_ce l⟩
def B_sortedPairs (k : Nat) : FnB (List ((Int × Int × Unit) × Int) × List (Int × Int)) (List (Int × Int × Unit)) where
 n := 12
 S := fun z => ⟨[(0, .clos 107 [12]), (1, .clos 77 [14, 15])],
  [(12, .cells [.iter 13] 145), (13, .mp tyP (.int .i64) z.1), (14, .cells [.iter 13] 145), (15, .cells [.iter 16] 93), (16, .mp (.int .i32) (.int .i64) z.2)], []⟩
 S' := fun z y => ⟨[], [(12, .cells [.iter 13] 145), (13, .mp tyP (.int .i64) z.1), (14, .cells [.iter 13] 145), (15, .cells [.iter 16] 93), (16, .mp (.int .i32) (.int .i64) z.2)], [(17, ⟨54, tyP, y⟩)]⟩
 rs := fun _ _ => [.row 17]
 rel := fun z y => sortedPairs k z.1 z.2 = some y
theorem box1 {cx : Cx} {m : Nat -> Value} {st : St} {T : Array Value} {w : World} (h : Rm cx m st T w) {b r e : Nat} (hb : (b, BX.cells [.iter r] e) ∈ st.bx) : ∃ g, m b = .pointer (some ⟨g, 0, none⟩) /\ w.heap[g]? = some (.cells #[m r] e (0, 0)) := by
 obtain ⟨g, e1, _, cells, e3, e4⟩ := h.box hb
 match hc : cells.toList, e4 with
 | [v], ⟨h1, _⟩ =>
  have h1 : v = m r := h1
  have : cells = #[v] := Array.ext' (by rw [hc])
  exact ⟨g, e1, by rw [e3, this, h1]⟩
theorem boxM {cx : Cx} {m : Nat -> Value} {st : St} {T : Array Value} {w : World} (h : Rm cx m st T w) {b : Nat} {k v : Ty} {ps : List (k.el × v.el)} (hb : (b, BX.mp k v ps) ∈ st.bx) :
  ∃ g es clock, m b = .map (some g) /\ w.heap[g]? = some (.map es clock) /\ (∀ e ∈ es.toList, e.born < clock) /\ (es.toList.map (·.born)).Nodup /\ repM (repV' w (Mut cx m st.ids) k) (repV' w (Mut cx m st.ids) v) es.toList ps := by
 obtain ⟨g, e1, _, es, clock, e3, e4, e5, e6⟩ := h.box hb
 exact ⟨g, es, clock, e1, e3, e4, e5, e6⟩
theorem b_sortedPairs (k : Nat) : BC Tryz.prog Gn 75 (B_sortedPairs k) where
 enters := enters_of Tryz.func75 (by kernel_rfl) rfl
 calls := by
  rintro cx hP hn hG z y hr vs w hlen ⟨m, hm⟩
  obtain ⟨v0, hv0, hs0⟩ := hm.slots 0 (.clos 107 [12]) List.mem_cons_self
  obtain ⟨v1, hv1, hs1⟩ := hm.slots 1 (.clos 77 [14, 15]) (List.mem_cons_of_mem _ List.mem_cons_self)
  have hvs := two_args (n := 12) hlen hv0 hv1
  subst hvs
  have hs0 : v0 = .func (.func 107) #[] #[m 12] := hs0
  have hs1 : v1 = .func (.func 77) #[] #[m 14, m 15] := hs1
  obtain ⟨g12, e12, h12⟩ := box1 hm (b := 12) (r := 13) (e := 145) (by simp [B_sortedPairs])
  obtain ⟨g14, e14, h14⟩ := box1 hm (b := 14) (r := 13) (e := 145) (by simp [B_sortedPairs])
  obtain ⟨g15, e15, h15⟩ := box1 hm (b := 15) (r := 16) (e := 93) (by simp [B_sortedPairs])
  obtain ⟨g13, es, clock, e13, h13, b13, n13, r13⟩ := boxM hm (b := 13) (k := tyP) (v := .int .i64) (ps := z.1) (by simp [B_sortedPairs])
  obtain ⟨g16, es', clock', e16, h16, b16, n16, r16⟩ := boxM hm (b := 16) (k := .int .i32) (v := .int .i64) (ps := z.2) (by simp [B_sortedPairs])
  have hrel : sortedPairs k z.1 z.2 = some y := hr
  unfold sortedPairs at hrel
  cases hsm : Nat.blt z.1.length 1000000 with
  | false => rw [hsm] at hrel; cases hrel
  | true =>
  rw [hsm] at hrel
  have hsm : z.1.length < 1000000 := blt_true hsm
  simp only [cond_true] at hrel
  unfold srt at hrel
  cases hgood : good (fun x y => corr_counted_c1 k x y (some z.1) (some z.2)) (z.1.map (·.1)) with
  | false => rw [hgood] at hrel; cases hrel
  | true =>
  rw [hgood] at hrel
  simp only [cond_true, Option.some.injEq] at hrel
  have lt : ∀ {g : Nat} {o : Obj}, w.heap[g]? = some o -> g < w.heap.size := fun h => (Array.getElem?_eq_some_iff.1 h).1
  have hc := sortedFuncP g12 g13 es clock (z.1.map (·.1)) w (lt h12) (by simp [World.cell?, h12, e13]) h13 b13 n13 (repM_keys r13) (by rw [List.length_map]; exact Nat.le_trans (Nat.le_of_lt hsm) (by decide)) (by rw [List.length_map]; omega)
   (fun x y => corr_counted_c1 k x y (some z.1) (some z.2)) hgood 77 #[m 14, m 15] (@Contract.enters drYes _ _ _ _ (@c_corr_counted_c1 drYes k)) ?hcmp
  case hcmp =>
   intro W w1 w2 w3 hsz hblk x y n hxy
   have hcall := @Contract.calls drYes _ _ _ _ (@c_corr_counted_c1 drYes k) W (fun _ => False) [encP x, encP y, m 14, m 15] (splitTV (F_corr_counted_c1 k).dom (x, y, some z.1, some z.2)) (splitTV (F_corr_counted_c1 k).cod n) trivial (fun _ h => h.elim) (rel_ok (F := F_corr_counted_c1 k) (castL_split _ _) n hxy) ?_
   ·refine Calls.mono (R := fun e W' => ∃ v, e = .returned v /\ repRes W' (fun _ => False) v (splitTV (F_corr_counted_c1 k).cod n) /\ @Ext drYes W W') ?_ ?_
    ·exact hcall
    ·rintro e W' ⟨v, rfl, hv, hext⟩
     have hv : [v] = [.int .i64 n] := hv
     refine ⟨by simp at hv; rw [hv], ?_⟩
     obtain ⟨p, hp⟩ := regrown_of_below (@Ext.below drYes _ _ hext)
     have hd : W.drawn <= W'.drawn := @Same.drawn drYes _ _ (@Ext.toSame drYes _ _ hext) trivial
     have hpd : W'.drawn = p.d := by rw [hp]; rfl
     refine ⟨p.d - W.drawn, p.os, ?_⟩
     rw [hp]
     have : W.drawn + (p.d - W.drawn) = p.d := by omega
     unfold redrawn World.drewN
     rw [this]
   ·have hM : ∀ {q : Ty} {v : Value} {x : q.el}, q.flat = true -> repV' w (Mut cx m ((B_sortedPairs k).S z).ids) q v x -> repV' W (fun _ => False) q v x := fun hf h => repV_flat hf h
    refine ⟨repV_pair.2 rfl, repV_pair.2 rfl, ?_, ?_, trivial⟩
    ·show rep W _ (.ptr (.map tyP (.int .i64))) [m 14] (some z.1)
     refine ⟨⟨g14, 0, none⟩, [.map (some g13)], by rw [e14], ⟨g13, es, clock, rfl, (hblk _ (lt h13)).trans h13, fun h => h, b13, n13, repM_mono (fun _ _ h => hM rfl h) (fun _ _ h => hM rfl h) r13⟩, fun j u hj => ⟨?_, fun h => h⟩⟩
     match j, hj with
     | 0, hj =>
      simp at hj
      subst hj
      have ea : (⟨g14, 0, none⟩ : Addr).add 0 = ⟨g14, 0, none⟩ := by unfold Addr.add; split <;> simp_all
      rw [ea]
      simp [World.cell?, hblk _ (lt h14), h14, e13]
     | j + 1, hj => simp at hj
    ·show rep W _ (.ptr (.map (.int .i32) (.int .i64))) [m 15] (some z.2)
     refine ⟨⟨g15, 0, none⟩, [.map (some g16)], by rw [e15], ⟨g16, es', clock', rfl, (hblk _ (lt h16)).trans h16, fun h => h, b16, n16, repM_mono (fun _ _ h => hM rfl h) (fun _ _ h => hM rfl h) r16⟩, fun j u hj => ⟨?_, fun h => h⟩⟩
     match j, hj with
     | 0, hj =>
      simp at hj
      subst hj
      have ea : (⟨g15, 0, none⟩ : Addr).add 0 = ⟨g15, 0, none⟩ := by unfold Addr.add; split <;> simp_all
      rw [ea]
      simp [World.cell?, hblk _ (lt h15), h15, e16]
     | j + 1, hj => simp at hj
  rw [hs0, hs1, e12]
  refine Calls.mono (R := fun e w' => ∃ v, e = .returned v /\ w'.ownsRow w.heap.size 54 2 v (z.1.map (·.1)).length ((isort (ltO fun x y => corr_counted_c1 k x y (some z.1) (some z.2)) (z.1.map (·.1))).flatMap ce) /\ RowKit.Below w.heap.size w w') hc ?_
  rintro e w' ⟨v, rfl, hrow, hb⟩
  rw [hrel] at hrow
  have hy : y.length = (z.1.map (·.1)).length := by rw [<- hrel]; exact (isort_perm _ _).length_eq
  rw [<- hy] at hrow
  have hext : Ext w w' := Ext.of_below hb (fun h => h.elim)
  have hown : ∀ g, own v g -> w.heap.size <= g /\ g < w'.heap.size := by
   intro g hg
   rcases hrow.2 with ⟨hv, _⟩ | ⟨g', cap, cur, hv, h1, h2, _⟩
   ·rw [hv] at hg; cases hg
   ·rw [hv] at hg; cases hg; exact ⟨h1, (Array.getElem?_eq_some_iff.1 h2).1⟩
  have hm1 : Rm cx m ⟨[], ((B_sortedPairs k).S z).bx, []⟩ _ w := hm.weaken (fun i sv hi => by cases hi) (fun p hp => hp) (fun p hp => hp) hm.keys
  have hm2 := hm1.addRow (r := 17) (u := v) (w' := w') (c := ⟨54, tyP, y⟩) (cells := y.flatMap ce) (.inr (by decide)) (Renew.fresh hm1 17 v hext hown) (fun g hg => .inl (Nat.le_trans hm.frame.size (hown g hg).1)) ⟨hrow.1, hrow.2.imp id fun ⟨g, cap, cur, h1, _, h2⟩ => ⟨g, cap, cur, h1, Nat.zero_le _, h2⟩⟩ (repL_ce y)
  refine ⟨v, upd m 17 v, _, rfl, hm2, ?_⟩
  show v = upd m 17 v 17
  rw [upd_same]
noncomputable def pb_sortedPairs {G : World -> Prop} (k : Nat) : PB Tryz.prog G (List ((Int × Int × Unit) × Int) × List (Int × Int)) (List (Int × Int × Unit)) :=
 ⟨75, B_sortedPairs k, fun st => getH st [.mp 13 tyP (.int .i64), .mp 16 (.int .i32) (.int .i64)], fun z => sortedPairs k z.1 z.2, BC.weaken (fun _ _ => trivial) (b_sortedPairs k), fun _ _ h => h⟩
end Go.Ev
namespace Go.Ev
open Go Go.Proofs
noncomputable def F_utf8_DecodeRuneInString (k : Nat) : FnF := ⟨[.str], [.int .i32, .int .i64], [], fun s => utf8_DecodeRuneInString k s⟩
noncomputable def q_unicode_utf8_DecodeRuneInString (k : Nat) : PF Tryz.prog Gl := ⟨113, F_utf8_DecodeRuneInString k, ofC (c_unicode_utf8_DecodeRuneInString k) (F_utf8_DecodeRuneInString k) fun x y h => h⟩
end Go.Ev
namespace Go.Ev
open Go
def K_CorrNames : Nat := 80000
set_option maxRecDepth 100000 in
theorem CorrNames_true' : l28_CorrNames K_CorrNames = some true := by decide +kernel
end Go.Ev
namespace Go.Ev
open Go Go.RowKit Go.WideShapes
variable [Dr]
end Go.Ev
