/- Operands; operations that only compute or read. -/
import Derived.Test.YtciikbiapmbocaaDoorEvF
import Derived.Laws.IdiomStrings
import Derived.Laws.Cover4
namespace Go.Ev
open Go Go.RowKit

def constSV : Value → Option SV
  | .bool b => some (.val .bool b)
  | .int k n => some (.val (.int k) n)
  | .string s => bif Nat.ble s.data.toList.length maxLen then some (.val .str s.data.toList) else none
  | .nilIface => some (.val .err none)
  | .pointer none => some .any
  | _ => none
def getSV (st : St) : Operand → Option SV
  | .tmp t => look st.sl t
  | .const v => constSV v
  | .func f => some (.clos f [])
  | .global _ => none
def getTV (st : St) (x : Operand) : Option TV :=
  match getSV st x with
  | some (.val t x) => some ⟨t, x⟩
  | _ => none

variable {cx : Cx} {m : Nat → Value} {st : St} {T : Array Value} {w w' : World}

theorem eval_tmp {t : Nat} {v : Value} (h : T[t]? = some v) : (Act.eval ⟨T, []⟩ (.tmp t)) = v := by
  show T.getD t undef = v
  rw [Array.getD_eq_getD_getElem?, h]
  rfl

theorem getSV_sound (h : Rm cx m st T w) {x : Operand} {s : SV} (hs : getSV st x = some s) : repS w (Mut cx m st.ids) m (Act.eval ⟨T, []⟩ x) s := by
  cases x with
  | tmp t =>
    obtain ⟨v, h1, h2⟩ := h.slots t s (look_mem hs)
    rw [eval_tmp h1]
    exact h2
  | const v =>
    cases v <;> simp only [getSV, constSV] at hs
    case bool b => cases hs; exact repV_bool.2 rfl
    case int k n => cases hs; exact repV_int.2 rfl
    case pointer p => cases p with
      | none => cases hs; exact trivial
      | some a => cases hs
    case nilIface => cases hs; exact (repV_plain (t := .err) rfl).2 (.inl ⟨rfl, rfl⟩)
    case string s' =>
      cases hl : Nat.ble s'.data.toList.length maxLen with
      | false => rw [hl] at hs; cases hs
      | true =>
        rw [hl] at hs
        cases hs
        exact repV_str.2 ⟨by cases s'; simp [Act.eval], Nat.le_of_ble_eq_true hl⟩
    all_goals cases hs
  | func f => cases hs; rfl
  | global g => cases hs

theorem getTV_sound (h : Rm cx m st T w) {x : Operand} {u : TV} (hs : getTV st x = some u) : repV w (Mut cx m st.ids) (Act.eval ⟨T, []⟩ x) u.t u.x := by
  unfold getTV at hs
  split at hs
  · rename_i t y hy
    cases hs
    exact getSV_sound h hy
  · cases hs

/-- What an owned slice reads as. -/
def thaw (st : St) : SV → SV
  | .row r => match look st.rw r with
    | some c => .val (.sl c.t) c.xs
    | none => .row r
  | .iter b => match look st.bx b with
    | some (.mp k v ps) => .val (.map k v) (some ps)
    | _ => .iter b
  | s => s
theorem thaw_sound (h : Rm cx m st T w) {v : Value} {s : SV} (hv : repS w (Mut cx m st.ids) m v s) : repS w (fun _ => False) m v (thaw st s) := by
  have k1 : ∀ b, b < w.heap.size → ¬ Mut cx m st.ids b → w.heap[b]? = w.heap[b]? := fun _ _ _ => rfl
  have k2 : ∀ b, b < w.heap.size → False → Mut cx m st.ids b := fun _ _ h => h.elim
  have hv' := repS_ext (M' := fun _ => False) k1 k2 hv
  cases s with
  | row r =>
    simp only [thaw]
    split
    · rename_i c hc
      have e : v = m r := hv
      rw [e]
      exact (repV_plain (t := .sl c.t) rfl).2 (h.row_val (look_mem hc) (fun b _ hb => hb.elim) fun g _ hb => hb)
    · exact hv'
  | iter b =>
    simp only [thaw]
    split
    · rename_i k v' ps hc
      have e : v = m b := hv
      obtain ⟨g, e1, _, es, clock, h1, h2, h3, h4⟩ := h.boxes b _ (look_mem hc)
      rw [e]
      exact (repV_plain (t := .map k v') rfl).2 ⟨g, es, clock, by rw [e1]; rfl, h1, fun h => h.elim, h2, h3, repM_mono (fun _ _ h => repV_ext k1 k2 h) (fun _ _ h => repV_ext k1 k2 h) h4⟩
    · exact hv'
  | _ => exact hv'

/-- The element at an index. -/
def at? {α : Type} (xs : List α) (i : Int) : Option α := if 0 ≤ i then xs[i.toNat]? else none
def byteAt (s : List UInt8) (i : Int) : Option Int := match at? s i with
  | some b => some (b.toNat : Int)
  | none => none
theorem at?_some {α : Type} {xs : List α} {i : Int} {x : α} (h : at? xs i = some x) : 0 ≤ i ∧ i < xs.length ∧ xs[i.toNat]? = some x := by
  unfold at? at h
  split at h
  · rename_i hi
    have := (List.getElem?_eq_some_iff.1 h).1
    exact ⟨hi, by omega, h⟩
  · cases h

/-- A part of a list. -/
def sub? {α : Type} (s : List α) (lo hi : Int) : Option (List α) := if 0 ≤ lo ∧ lo ≤ hi ∧ hi ≤ s.length then some ((s.take hi.toNat).drop lo.toNat) else none
theorem sub?_some {α : Type} {s r : List α} {lo hi : Int} (h : sub? s lo hi = some r) : 0 ≤ lo ∧ lo ≤ hi ∧ hi ≤ s.length ∧ r = (s.take hi.toNat).drop lo.toNat := by
  unfold sub? at h
  split at h
  · rename_i hc; cases h; exact ⟨hc.1, hc.2.1, hc.2.2, rfl⟩
  · cases h

/-- The same value in every world that has grown out of this one. -/
def Steady (P : Program) (w : World) (s : Sem Value) (v : Value) : Prop := ∀ w', Ext w w' → s.run P w' = .ok v w'
theorem Gives.steady {P : Program} {s : Sem Value} {v : Value} (h : Gives P s v) : Steady P w s v := fun w' _ => h w'

/-- Bytes as a text; runes as a text. -/
def bytesStr (xs : List Int) : List UInt8 := xs.map fun n => UInt8.ofNat n.toNat
def runesStr (xs : List Int) : List UInt8 := (runesBytes xs).data.toList
/-- A text's runes. -/
def runesAt (s : List UInt8) : Nat → Nat → List Int
  | 0, _ => []
  | n + 1, i => if i < s.length then ((Utf8.decode (bytesOf s) i).1 : Int) :: runesAt s n (i + (Utf8.decode (bytesOf s) i).2) else []
def strRunes (s : List UInt8) : List Int := runesAt s s.length 0

theorem repL_ints {w : World} {M : Nat → Prop} {k : IntKind} : ∀ {xs : List Int} {cs : List Value}, repL (rep w M (.int k)) cs xs → cs = xs.map (Value.int k)
  | [], _, h => h
  | x :: xs, _, ⟨c1, c2, e, h1, h2⟩ => by
    have h1 : c1 = [.int k x] := h1
    rw [e, h1, repL_ints h2]
    rfl
theorem foldl_push : ∀ (l : List Int) (r : ByteArray), l.foldl (fun r n => r.push (UInt8.ofNat n.toNat)) r = ⟨r.data ++ (bytesStr l).toArray⟩
  | [], r => by simp [bytesStr]
  | b :: l, r => by
    simp only [List.foldl_cons]
    rw [foldl_push l]
    simp [ByteArray.push, bytesStr]
theorem conv_bytes {P : Program} {src dst e : TypeId} (hs : P.underlying src = some (.slice e)) (he : P.underlying e = some (.int .u8)) (hd : P.underlying dst = some .string) {v : Value} {xs : List Int} (hv : repV w (fun _ => False) v (.sl (.int .u8)) xs) :
    Steady P w (convert src dst v) (.string (bytesOf (bytesStr xs))) ∧ (bytesStr xs).length ≤ maxLen := by
  obtain ⟨a, cap, cells, hc, hcap, hmax, hnil, hL, hcell⟩ : ∃ (a : Option Addr) (cap : Nat) (cells : List Value), [v] = [.slice a (List.length (α := Int) xs) cap] ∧ List.length (α := Int) xs ≤ cap ∧ cap ≤ maxLen ∧ (a = none → cap = 0) ∧
    repL (rep w (fun _ => False) (.int .u8)) cells xs ∧ ∀ j u, cells[j]? = some u → ∃ b, a = some b ∧ w.cell? (b.add j) = some u ∧ ¬ False := (repV_plain (t := .sl (.int .u8)) rfl).1 hv
  clear hv
  simp only [List.cons.injEq, and_true] at hc
  subst hc
  have hce := repL_ints hL
  subst hce
  refine ⟨fun w' hw => ?_, by unfold bytesStr; rw [List.length_map]; exact Nat.le_trans hcap hmax⟩
  rw [run_convert_bytes_string w' src dst e a _ _ hs he hd]
  cases a with
  | none =>
    have h0 := hnil rfl
    have hx : xs = [] := List.eq_nil_of_length_eq_zero (by omega)
    subst hx
    rfl
  | some b =>
    have hl := run_loadCells_list (P := P) w' b (xs.map (Value.int .u8)) (fun j u hj => by
      obtain ⟨b', hb, hcl, _⟩ := hcell j u hj
      cases hb
      rw [World.cell?_of_block (w := w) (hw.block _ (World.block_lt_of_cell? w _ hcl))]
      exact hcl)
    rw [List.length_map] at hl
    rw [run_bytesToString w' b xs.length cap xs hl, foldl_push]
    have he0 : ByteArray.empty.data = #[] := rfl
    rw [he0]
    simp [bytesOf]
theorem conv_runes {P : Program} {src dst e : TypeId} (hs : P.underlying src = some (.slice e)) (he : P.underlying e = some (.int .i32)) (hd : P.underlying dst = some .string) {v : Value} {xs : List Int} (hv : repV w (fun _ => False) v (.sl (.int .i32)) xs) :
    Steady P w (convert src dst v) (.string (bytesOf (runesStr xs))) := by
  obtain ⟨a, cap, cells, hc, hcap, hmax, hnil, hL, hcell⟩ : ∃ (a : Option Addr) (cap : Nat) (cells : List Value), [v] = [.slice a (List.length (α := Int) xs) cap] ∧ List.length (α := Int) xs ≤ cap ∧ cap ≤ maxLen ∧ (a = none → cap = 0) ∧
    repL (rep w (fun _ => False) (.int .i32)) cells xs ∧ ∀ j u, cells[j]? = some u → ∃ b, a = some b ∧ w.cell? (b.add j) = some u ∧ ¬ False := (repV_plain (t := .sl (.int .i32)) rfl).1 hv
  clear hv
  simp only [List.cons.injEq, and_true] at hc
  subst hc
  have hce := repL_ints hL
  subst hce
  intro w' hw
  have hb : bytesOf (runesStr xs) = runesBytes xs := by unfold bytesOf runesStr; simp
  rw [hb]
  cases a with
  | none =>
    have h0 := hnil rfl
    have hx : xs = [] := List.eq_nil_of_length_eq_zero (by omega)
    subst hx
    rw [run_convert_runes_nil w' src dst e _ _ hs he hd]
    rfl
  | some b =>
    rw [run_convert_runes w' src dst e b xs.length cap xs (Nat.le_refl _) hs he hd (fun j hj => ?_), List.take_length]
    obtain ⟨b', hb', hcl, _⟩ := hcell j (.int .i32 (xs.getD j 0)) (by rw [List.getElem?_map, List.getElem?_eq_getElem hj]; simp [List.getD_eq_getElem?_getD, hj])
    cases hb'
    rw [World.cell?_of_block (w := w) (hw.block _ (World.block_lt_of_cell? w _ hcl))]
    exact hcl
theorem runesFrom_list (s : List UInt8) : ∀ (n i : Nat) (acc : Array Value), Conv.runesFrom (bytesOf s) n i acc = acc ++ ((runesAt s n i).map (Value.int .i32)).toArray
  | 0, _, acc => by simp [Conv.runesFrom, runesAt]
  | n + 1, i, acc => by
    unfold Conv.runesFrom runesAt
    rw [bytesOf_size]
    split
    · simp only []
      rw [runesFrom_list s n]
      simp
    · simp
theorem runesAt_length (s : List UInt8) : ∀ (n i : Nat), (runesAt s n i).length ≤ n
  | 0, _ => by simp [runesAt]
  | n + 1, i => by
    unfold runesAt
    split
    · have := runesAt_length s n (i + (Utf8.decode (bytesOf s) i).2); simp only [List.length_cons]; omega
    · simp


theorem add_zero (a : Addr) : a.add 0 = a := by simp [Addr.add]
theorem add_add (a : Addr) (i j : Nat) : (a.add i).add j = a.add (i + j) := by
  unfold Addr.add
  by_cases hi : i = 0 <;> by_cases hj : j = 0 <;> simp [hi, hj, Nat.add_assoc]
theorem add_mk (g o n : Nat) : (⟨g, o, none⟩ : Addr).add n = ⟨g, o + n, none⟩ := by
  unfold Addr.add
  split
  · rename_i h; simp [h]
  · rfl

/-- A place that holds plain data which stays. -/
def Holds (w : World) (M : Nat → Prop) (a : Addr) (t : Ty) (x : t.el) : Prop := ∃ cells, rep w M t cells x ∧ ∀ j u, cells[j]? = some u → w.cell? (a.add j) = some u ∧ ¬ M a.block

theorem Holds.part {M : Nat → Prop} {a : Addr} {t : Ty} {x : t.el} (h : Holds w M a t x) {off : Nat} {u : Ty} {y : u.el} (hg : getT t x off u = some y) : Holds w M (a.add off) u y := by
  obtain ⟨cells, h1, h2⟩ := h
  obtain ⟨c1, c2, c3, rfl, hl, hr⟩ := getT_rep t h1 hg
  refine ⟨c2, hr, fun j v hj => ?_⟩
  have hj2 := (List.getElem?_eq_some_iff.1 hj).1
  have hk : (c1 ++ c2 ++ c3)[off + j]? = some v := by
    rw [List.append_assoc, List.getElem?_append_right (by omega), List.getElem?_append_left (by omega), ← hj]
    congr 1
    omega
  obtain ⟨h3, h4⟩ := h2 _ _ hk
  exact ⟨by rw [add_add]; exact h3, by rw [add_block]; exact h4⟩

theorem run_cells {P : Program} {w : World} {a : Addr} {cells : List Value} (h : ∀ j u, cells[j]? = some u → w.cell? (a.add j) = some u) : (loadCells a cells.length).run P w = .ok cells.toArray w :=
  run_loadCells_list (P := P) w a cells h

theorem load_sound {P : Program} {a : Addr} {M : Nat → Prop} {tid d : Nat} {t : Ty} {x : t.el} (ht : tyOf P d tid = some t) (h : Holds w M a t x) (hp : 0 < t.cells) :
    ∃ v, Steady P w (loadVar tid a) v ∧ repV w M v t x := by
  obtain ⟨cells, h1, h2⟩ := h
  have hl := rep_length t h1
  have hcell : ∀ w', Ext w w' → ∀ j u, cells[j]? = some u → w'.cell? (a.add j) = some u := by
    intro w' he j u hj
    have hc := (h2 j u hj).1
    rw [World.cell?_of_block (w := w) (he.block _ (World.block_lt_of_cell? w _ hc))]
    exact hc
  cases hag : t.agg with
  | true =>
    refine ⟨.agg cells.toArray, fun w' he => ?_, (repV_agg hag).2 ⟨cells, rfl, h1⟩⟩
    unfold loadVar
    rw [Sem.run_bind, ty_isAgg ht, hag]
    simp only [Result.andThen_ok, if_true, Sem.run_bind, ty_sizeOf ht]
    rw [← hl, run_cells (hcell w' he)]
    rfl
  | false =>
    have h1c : t.cells = 1 := by cases t <;> first | rfl | (simp [Ty.agg] at hag)
    match cells, hl with
    | [c], _ =>
      refine ⟨c, fun w' he => ?_, (repV_plain hag).2 h1⟩
      have hc := hcell w' he 0 c rfl
      rw [add_zero] at hc
      unfold loadVar
      rw [Sem.run_bind, ty_isAgg ht, hag]
      simp only [Result.andThen_ok, Bool.false_eq_true, if_false]
      simp [load, Sem.run, hc]
    | [], hl => simp at hl; omega
    | _ :: _ :: _, hl => simp at hl; omega

/-- The place of a field, and its shape. -/
def fieldInfo (P : Program) (s : TypeId) (f : Nat) : Option (Nat × Ty) :=
  match P.underlying s with
  | some (.struct fs) => match fs[f]? with
    | some fd => match ty P fd.type with
      | some u => bif Nat.beq u.cells 0 then none else some (fd.offset, u)
      | none => none
    | none => none
  | _ => none

theorem fieldInfo_facts {P : Program} {s : TypeId} {f off : Nat} {u : Ty} (h : fieldInfo P s f = some (off, u)) :
    ∃ fs fd, P.underlying s = some (.struct fs) ∧ fs[f]? = some fd ∧ ty P fd.type = some u ∧ fd.offset = off ∧ 0 < u.cells := by
  unfold fieldInfo at h
  split at h
  · rename_i fs hu
    split at h
    · rename_i fd hf
      split at h
      · rename_i u' hy
        cases hb : Nat.beq u'.cells 0 with
        | true => rw [hb] at h; cases h
        | false =>
          rw [hb] at h
          cases h
          exact ⟨fs, fd, hu, hf, hy, rfl, Nat.pos_of_ne_zero (beq_false hb)⟩
      · cases h
    · cases h
  · cases h

theorem fieldAt_run {P : Program} {s : TypeId} {f off : Nat} {u : Ty} (h : fieldInfo P s f = some (off, u)) (a : Addr) (w : World) :
    (Instr.fieldAt s (.pointer (some a)) f).run P w = .ok (.pointer (some (a.add off))) w := by
  obtain ⟨fs, fd, hu, hf, hy, rfl, hp⟩ := fieldInfo_facts h
  have hz : ¬ u.cells = 0 := by omega
  simp only [Instr.fieldAt, Sem.run_bind, run_underlying hu, Result.andThen_ok, hf, Instr.sureAddr, Sem.run_pure, fieldPlace, ty_sizeOf hy, if_neg hz]

theorem field_run {P : Program} {s : TypeId} {f off : Nat} {u : Ty} (h : fieldInfo P s f = some (off, u)) {M : Nat → Prop} {t : Ty} {x : t.el} {v : Value} (hag : t.agg = true) (hv : repV w M v t x) {y : u.el} (hg : getT t x off u = some y) :
    ∃ r, Gives P (Instr.field s v f) r ∧ repV w M r u y := by
  obtain ⟨fs, fd, hu, hf, hy, rfl, hp⟩ := fieldInfo_facts h
  obtain ⟨cs, rfl, hr⟩ := (repV_agg hag).1 hv
  obtain ⟨c1, c2, c3, rfl, hl, hr2⟩ := getT_rep t hr hg
  have hl2 := rep_length u hr2
  cases hua : u.agg with
  | true =>
    refine ⟨.agg c2.toArray, fun w' => ?_, (repV_agg hua).2 ⟨c2, rfl, hr2⟩⟩
    simp only [Instr.field, Sem.run_bind, run_underlying hu, Result.andThen_ok, hf, asAgg, Sem.run_pure, part, ty_isAgg hy, hua, if_true, ty_sizeOf hy]
    congr 2
    apply Array.ext'
    rw [Array.toList_extract, List.extract_eq_take_drop, ← hl, ← hl2]
    simp
  | false =>
    have h1c : u.cells = 1 := by cases u <;> first | rfl | (simp [Ty.agg] at hua)
    match c2, hl2 with
    | [c], _ =>
      refine ⟨c, fun w' => ?_, (repV_plain hua).2 hr2⟩
      have hk : (c1 ++ [c] ++ c3).toArray[fd.offset]? = some c := by
        rw [List.getElem?_toArray, ← hl]; simp
      simp only [Instr.field, Sem.run_bind, run_underlying hu, Result.andThen_ok, hf, asAgg, Sem.run_pure, part, ty_isAgg hy, hua, Bool.false_eq_true, if_false, hk]
    | [], hl2 => simp at hl2; omega
    | _ :: _ :: _, hl2 => simp at hl2; omega

end Go.Ev
