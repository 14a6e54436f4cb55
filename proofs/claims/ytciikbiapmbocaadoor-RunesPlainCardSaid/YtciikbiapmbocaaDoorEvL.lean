/- Appending to an owned slice: one law for whatever is appended. -/
import Derived.Test.YtciikbiapmbocaaDoorEvK
namespace Go.Ev
open Go Go.RowKit
variable {P : Program} {w : World}

theorem same_alloc (w : World) (o : Obj) : Same w (w.drew.alloc o) := ⟨rfl, rfl, rfl, by simp⟩
theorem same_alloc0 (w : World) (o : Obj) : Ext w (w.alloc o) := { os := rfl, tape := rfl, output := rfl, size := by simp, block := fun b hb => Below.heap_alloc w o b hb }

/-- What a slice that grows becomes. -/
theorem grown_row {e size m n : Nat} {z : Array Value} {xs news : List Value} (hlx : xs.length = n * size) (hl : news.length = m * size) (hz : z.size = size) (h63 : n + m ≤ maxLen) (old : Nat) :
    (w.drew.alloc (.cells (xs.toArray ++ news.toArray ++ Builtin.zeroCells z (grownCap w (n + m) old e - (n + m))) e)).ownsRow 0 e size (.slice (some ⟨w.heap.size, 0, none⟩) (n + m) (grownCap w (n + m) old e)) (n + m) (xs ++ news) := by
  have hge := grownCap_ge w (n + m) old e
  have hcm : grownCap w (n + m) old e ≤ maxLen := grownCap_le_maxLen w (n + m) old e h63
  have hlen : (xs ++ news).length = (n + m) * size := by rw [List.length_append, hlx, hl, Nat.add_mul]
  refine ⟨hlen, .inr ⟨w.heap.size, _, _, rfl, Nat.zero_le _, heap_alloc_new w.drew _, hge, hcm, ?_, ?_⟩⟩
  · simp only [Array.size_append, List.size_toArray, size_zeroCells, hz, hlx, hl, ← Nat.add_mul]
    congr 1
    omega
  · simp only [Array.toList_append, List.append_assoc]
    rw [← List.append_assoc, ← hlen]
    exact List.take_left

theorem run_append_gen (t u ty e : TypeId) (i : TypeInfo) (z : Value) (ht : P.underlying t = some (.slice e)) (hu : (∃ e', P.underlying u = some (.slice e')) ∨ P.underlying u = some .string) (hi : P.info? e = some i) (hz : i.zero = some z)
    (hzs : z.cells.size = i.size) (x : Value) (m : Nat) (news : List Value) (hlen : Builtin.lenOf x = pure m)
    (hnews : ∀ w', (∀ b, b < w.heap.size → w'.heap[b]? = w.heap[b]?) → (Builtin.firstCells i.size m x).run P w' = .ok news.toArray w')
    (hl : news.length = m * i.size) (h1 : ∀ u ∈ news, u.oneCell' = true) (v : Value) (n : Nat) (xs : List Value) (hown : w.ownsRow 0 e i.size v n xs)
    (h63 : n + m ≤ maxLen) (hbytes : (n + m) * i.bytes ≤ 140737488355328) :
    ∃ v' w', (Builtin.append_ #[t, u] ty #[v, x]).run P w = .ok v' w' ∧ w'.ownsRow 0 e i.size v' (n + m) (xs ++ news) ∧ Same w w' ∧
      (∀ b, b < w.heap.size → blk v ≠ some b → w'.heap[b]? = w.heap[b]?) ∧ (∀ g, blk v' = some g → blk v = some g ∨ (w.heap.size ≤ g ∧ g < w'.heap.size)) := by
  have hsmall : n + m ≤ 9223372036854775807 := by simp only [maxLen] at h63; omega
  have hn0 := hnews w (fun _ _ => rfl)
  have hnd := hnews w.drew (fun _ _ => rfl)
  have hlx := hown.1
  rcases hown.2 with ⟨rfl, rfl⟩ | ⟨g, cap, cur, rfl, _, hg, hnc, hcm, hcs, htake⟩
  · have hx : xs = [] := List.eq_nil_of_length_eq_zero (by simpa using hlx)
    subst hx
    by_cases hm : m = 0
    · subst hm
      have hn : news = [] := List.eq_nil_of_length_eq_zero (by simpa using hl)
      subst hn
      refine ⟨.slice none 0 0, w, ?_, World.ownsRow_nil w 0 e i.size, ⟨rfl, rfl, rfl, Nat.le_refl _⟩, fun _ _ _ => rfl, fun g hg => by simp [blk] at hg⟩
      rcases hu with ⟨e', hu⟩ | hu <;> simp [Builtin.append_, run_underlying ht, run_underlying hu, sizeOf, typeInfo, hi, hlen, hn0]
    · have h0 : 0 < m := by omega
      have h63' : ¬ (9223372036854775807 < (m : Int)) := by omega
      have hfit := growslice_fits (old := 0) (need := m) (bytes := i.bytes) h0 (by simpa using hbytes)
      have h48' : ¬ (281474976710656 < Builtin.nextslicecap m 0 * i.bytes) := by omega
      have hgr := grown_row (w := w) (e := e) hlx hl hzs h63 0
      simp only [Nat.zero_add] at hgr
      refine ⟨.slice (some ⟨w.heap.size, 0, none⟩) m (grownCap w m 0 e), w.drew.alloc (.cells (([] : List Value).toArray ++ news.toArray ++ Builtin.zeroCells z.cells (grownCap w m 0 e - m)) e), ?_, by simpa using hgr, same_alloc _ _, fun b hb _ => Below.heap_alloc w.drew _ b hb, fun g hg => .inr ?_⟩
      · rcases hu with ⟨e', hu⟩ | hu <;>
          simp [Builtin.append_, run_underlying ht, run_underlying hu, sizeOf, typeInfo, zeroValue, hi, hz, hlen, hm, h63', h48', Question.forced, run_firstCells_none, hnd, newRow, grownCap]
      · simp [blk] at hg
        subst hg
        exact ⟨Nat.le_refl _, by simp⟩
  · by_cases hroom : n + m ≤ cap
    · have hfit : n * i.size + news.length ≤ cur.size := by rw [hl, hcs, ← Nat.add_mul]; exact Nat.mul_le_mul_right _ hroom
      have hst := run_storeCells_at P g (n * i.size) e news 0 cur w hg (by simpa using hfit) h1
      simp only [Nat.add_zero] at hst
      refine ⟨.slice (some ⟨g, 0, none⟩) (n + m) cap, _, ?_, ⟨by rw [List.length_append, hlx, hl, Nat.add_mul], .inr ⟨g, cap, _, rfl, Nat.zero_le _, setRow_heap w g cur (cur.toList.take (n * i.size) ++ news ++ cur.toList.drop (n * i.size + news.length)).toArray e (0, 0) hg, hroom, hcm, ?_, ?_⟩⟩,
        same_setRow _ _ _, fun b hb hne => setRow_other _ _ _ _ (fun e => hne (by rw [e]; rfl)), fun g' hg' => .inl hg'⟩
      · rcases hu with ⟨e', hu⟩ | hu <;>
          simp [Builtin.append_, run_underlying ht, run_underlying hu, sizeOf, typeInfo, hi, hlen, hroom, hn0, Addr.add_lit, hst]
      · simp only [List.size_toArray, List.length_append, List.length_take, List.length_drop, Array.length_toList]
        omega
      · rw [htake]
        have hlen2 : (xs ++ news).length = (n + m) * i.size := by rw [List.length_append, hlx, hl, Nat.add_mul]
        rw [← hlen2]
        exact List.take_left
    · have holds : ∀ j u, xs[j]? = some u → w.cell? ((⟨g, 0, none⟩ : Addr).add j) = some u := hown.cells (g := g) rfl
      have hfit := growslice_fits (old := cap) (need := n + m) (bytes := i.bytes) (by omega) hbytes
      have h63' : ¬ (9223372036854775807 < (n : Int) + (m : Int)) := by omega
      have h48' : ¬ (281474976710656 < Builtin.nextslicecap (n + m) cap * i.bytes) := by omega
      have hold := run_firstCells_some (P := P) w.drew i.size n ⟨g, 0, none⟩ n cap xs hlx (by simpa using holds)
      have hgr := grown_row (w := w) (e := e) hlx hl hzs h63 cap
      refine ⟨.slice (some ⟨w.heap.size, 0, none⟩) (n + m) (grownCap w (n + m) cap e), _, ?_, hgr, same_alloc _ _, fun b hb _ => Below.heap_alloc w.drew _ b hb, fun g' hg' => .inr ?_⟩
      · rcases hu with ⟨e', hu⟩ | hu <;>
          simp [Builtin.append_, run_underlying ht, run_underlying hu, sizeOf, typeInfo, zeroValue, hi, hz, hlen, hroom, h63', h48', Question.forced, hold, hnd, newRow, grownCap] <;>
          rw [← List.append_toArray, Array.append_assoc]
      · simp [blk] at hg'
        subst hg'
        exact ⟨Nat.le_refl _, by simp⟩

end Go.Ev
