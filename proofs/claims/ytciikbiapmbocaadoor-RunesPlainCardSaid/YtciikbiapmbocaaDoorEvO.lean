/- Appending is right; all that makes memory is right. -/
import Derived.Test.YtciikbiapmbocaaDoorEvN
namespace Go.Ev
open Go Go.RowKit
variable {cx : Cx} {m : Nat → Value} {st : St} {T : Array Value} {w w' : World}

theorem bytes_rep {M : Nat → Prop} (s : List UInt8) : repL (rep w M (.int .u8)) ((bytesEl s).map (Value.int .u8)) (bytesEl s) := by
  unfold bytesEl
  induction s with
  | nil => rfl
  | cons b s ih => exact ⟨[_], _, rfl, rfl, ih⟩

theorem cells_load {P : Program} {a : Addr} {news : List Value} (h : ∀ j u, news[j]? = some u → w.cell? (a.add j) = some u) {n size : Nat} (hl : news.length = n * size) :
    ∀ w', (∀ b, b < w.heap.size → w'.heap[b]? = w.heap[b]?) → (loadCells a (n * size)).run P w' = .ok news.toArray w' := by
  intro w' hw
  rw [← hl]
  refine run_cells (w := w') fun j u hj => ?_
  have hc := h j u hj
  rw [World.cell?_of_block (w := w) (hw _ (World.block_lt_of_cell? w _ hc))]
  exact hc

theorem str_src {P : Program} (s : List UInt8) : Builtin.lenOf (.string (bytesOf s)) = pure (bytesEl s).length ∧
    ∀ w, (Builtin.firstCells (Ty.int .u8).cells (bytesEl s).length (.string (bytesOf s))).run P w = .ok ((bytesEl s).map (Value.int .u8)).toArray w := by
  constructor
  · show pure (bytesOf s).size = _
    rw [bytesOf_size]
    simp [bytesEl]
  · intro w
    show Sem.run P (pure (((bytesOf s).extract 0 (bytesEl s).length).data.map fun b => Value.int .u8 b.toNat)) w = _
    rw [Sem.run_pure]
    congr 1
    apply Array.ext'
    rw [Array.toList_map, Lib.extract_data]
    simp [bytesOf, bytesEl]

theorem src_facts (h : Rm cx m st T w) {u : Ty} {t : TypeId} {x : Operand} {ys : List u.el} (hs : srcList cx.P st u t x = some ys) :
    ((∃ e', cx.P.underlying t = some (.slice e')) ∨ cx.P.underlying t = some .string) ∧
    ∃ news : List Value, Builtin.lenOf (Act.eval ⟨T, []⟩ x) = pure ys.length ∧
      (∀ w', (∀ b, b < w.heap.size → w'.heap[b]? = w.heap[b]?) → (Builtin.firstCells u.cells ys.length (Act.eval ⟨T, []⟩ x)).run cx.P w' = .ok news.toArray w') ∧ repL (rep w (Mut cx m st.ids) u) news ys := by
  unfold srcList at hs
  split at hs
  · rename_i r hx
    split at hs
    case h_2 => cases hs
    rename_i e' ht
    refine ⟨.inl ⟨e', ht⟩, ?_⟩
    split at hs
    · rename_i c hc
      have hcm := look_mem hc
      obtain ⟨ce, ct, cxs⟩ := c
      have e := TV.as_some hs
      cases e
      obtain ⟨cells, hown, _, hL⟩ := h.rows r _ hcm
      have hv : Act.eval ⟨T, []⟩ x = m r := getSV_sound h hx
      rcases hown.2 with ⟨hm, hz⟩ | ⟨g, cap, cur, hm, _⟩
      · have hxs : cxs = [] := List.eq_nil_of_length_eq_zero hz
        subst hxs
        cases hL
        exact ⟨[], by rw [hv, hm]; rfl, fun w' _ => by rw [hv, hm]; rfl, rfl⟩
      · refine ⟨cells, by rw [hv, hm]; rfl, fun w' hw => ?_, hL⟩
        rw [hv, hm]
        exact cells_load (hown.cells (g := g) (by rw [hm]; rfl)) hown.1 w' hw
    · cases hs
  · rename_i t' xs hx
    have hex : ∃ e', cx.P.underlying t = some (.slice e') := by
      cases hd : cx.P.underlying t with
      | none => rw [hd] at hs; exact absurd hs (by simp)
      | some du =>
        rw [hd] at hs
        cases du <;> first | exact ⟨_, rfl⟩ | exact absurd hs (by simp)
    obtain ⟨e', ht⟩ := hex
    rw [ht] at hs
    refine ⟨.inl ⟨e', ht⟩, ?_⟩
    have e := TV.as_some hs
    cases e
    obtain ⟨a, cap, cells, hc, hcap, _, hnil, hL, hcell⟩ := (repV_plain (t := .sl u) rfl).1 (getSV_sound h hx)
    simp only [List.cons.injEq, and_true] at hc
    have hlen := repL_length (fun _ _ => rep_length u) _ _ hL
    cases a with
    | none =>
      have h0 : cap = 0 := hnil rfl
      have hxs : ys = [] := List.eq_nil_of_length_eq_zero (by have : List.length ys ≤ cap := hcap; omega)
      subst hxs
      cases hL
      exact ⟨[], by rw [hc]; rfl, fun w' _ => by rw [hc]; rfl, rfl⟩
    | some b =>
      refine ⟨cells, by rw [hc]; rfl, fun w' hw => ?_, hL⟩
      rw [hc]
      refine cells_load (fun j v hj => ?_) hlen w' hw
      obtain ⟨b', hb, hc', _⟩ := hcell j v hj
      cases hb
      exact hc'
  · rename_i s hx
    have ht : cx.P.underlying t = some .string := by
      cases hd : cx.P.underlying t with
      | none => rw [hd] at hs; exact absurd hs (by simp)
      | some du =>
        rw [hd] at hs
        cases du <;> first | rfl | exact absurd hs (by simp)
    rw [ht] at hs
    refine ⟨.inr ht, ?_⟩
    have e := TV.as_some hs
    cases e
    obtain ⟨hv, _⟩ := repV_str.1 (getSV_sound h hx)
    exact ⟨(bytesEl s).map (Value.int .u8), by rw [hv]; exact (str_src (P := cx.P) s).1, fun w' _ => by rw [hv]; exact (str_src (P := cx.P) s).2 w', bytes_rep s⟩
  · cases hs

theorem evM_append (h : Rm cx m st T w) {o : Oper} {d : Nat} {args : Array Operand} {ts : Array TypeId} {s x : Operand} {t t' e r : Nat} {u : Ty} {c : RowC} {ys : List c.t.el}
    (ho : o.op = .call { callee := .builtin .append, args := args, argTypes := ts }) (ha : args.toList = [s, x]) (hts : ts.toList = [t, t']) (he : elemOf? cx.P t = some (e, u)) (hbase : baseRow cx.P st d t s = some (r, c))
    (hce : c.e = e) (hct : c.t = u) (hb : bytesOK cx.P e = true) (hz : zeroOf cx.P e = some u) (hsrc : srcList cx.P st c.t t' x = some ys) (hob : c.xs.length + ys.length ≤ lim) {orc : List TV} {ob : List Prop} :
    Makes cx T w o ⟨.row r, st.addRow r ⟨c.e, c.t, c.xs ++ ys⟩, orc, ob⟩ := by
  obtain ⟨hu, hty, hp⟩ := elemOf?_facts he
  obtain ⟨i, z, _, hi, hsz, hzz, hzr⟩ := zeroOf_facts hz
  obtain ⟨i2, hi2, hbytes⟩ := bytesOK_facts hb
  rw [hi] at hi2
  cases hi2
  obtain ⟨hu', news, hlen, hfirst, hL⟩ := src_facts h hsrc
  -- the base
  obtain ⟨v, hv, cells, hown, hout, hrep, hblk⟩ : ∃ v, Act.eval ⟨T, []⟩ s = v ∧ ∃ cells, w.ownsRow 0 c.e c.t.cells v c.xs.length cells ∧ (∀ g, blk v = some g → cx.w0.heap.size ≤ g ∨ cx.X g) ∧
      repL (rep w (Mut cx m st.ids) c.t) cells c.xs ∧ ∀ g, blk v = some g → r ∈ st.ids ∧ blk (m r) = some g := by
    unfold baseRow at hbase
    split at hbase
    · rename_i hsz'
      split at hbase
      · rename_i e' u' he'
        cases hbase
        refine ⟨.slice none 0 0, rfl, [], World.ownsRow_nil w 0 _ _, ?_, rfl, ?_⟩
        · intro g hg; cases hg
        · intro g hg; cases hg
      · cases hbase
    · split at hbase
      · rename_i r' hx
        split at hbase
        · rename_i c' hc'
          cases hbase
          have hcm := look_mem hc'
          obtain ⟨cells, h1, h2, h3⟩ := h.rows r c hcm
          exact ⟨m r, getSV_sound h hx, cells, h1, h2, h3, fun g hg => ⟨List.mem_append.2 (.inr (List.mem_map.2 ⟨_, hcm, rfl⟩)), hg⟩⟩
        · cases hbase
      · cases hbase
  have hszc : i.size = c.t.cells := by rw [hct]; exact hsz
  have hzs : z.cells.size = i.size := by
    rw [hsz, ← rep_length u (hzr w (Mut cx m st.ids))]
    simp
  have hl : news.length = ys.length * i.size := by rw [hszc]; exact repL_length (fun _ _ => rep_length c.t) _ _ hL
  have hone : ∀ v ∈ news, v.oneCell' = true := by
    have key : ∀ (cs : List Value) (xs : List c.t.el), repL (rep w (Mut cx m st.ids) c.t) cs xs → ∀ v ∈ cs, v.oneCell' = true := by
      intro cs xs
      induction xs generalizing cs with
      | nil => intro hh v hv; cases hh; simp at hv
      | cons y ys ih =>
        rintro ⟨c1, c2, rfl, h1, h2⟩ v hv
        rcases List.mem_append.1 hv with hv | hv
        · exact rep_oneCell c.t h1 v hv
        · exact ih _ h2 v hv
    exact key news ys hL
  have hle : c.xs.length + ys.length ≤ maxLen := Nat.le_trans hob lim_max
  have hby : (c.xs.length + ys.length) * i.bytes ≤ 140737488355328 := by
    have h1 : c.xs.length + ys.length ≤ 2147483648 := hob
    calc (c.xs.length + ys.length) * i.bytes ≤ 2147483648 * 65536 := Nat.mul_le_mul h1 hbytes
      _ = 140737488355328 := by decide
  obtain ⟨v', w', hrun, hown', hsame, hkeep, hplace⟩ := run_append_gen (P := cx.P) (w := w) t t' o.type e i z hu hu' hi hzz hzs (Act.eval ⟨T, []⟩ x) ys.length news hlen
    (by rw [hszc]; exact hfirst) hl hone v c.xs.length cells (by rw [hszc, ← hce]; exact hown) hle hby
  have hn : Renew cx m st w r v' w' := ⟨hsame, fun b hb' hne => hkeep b hb' fun hbv => hne (hblk b hbv), fun g hg => by
    rcases hplace g hg with h1 | h1
    · exact .inl (hblk g h1)
    · exact .inr h1⟩
  have hrow : Rm cx (upd m r v') (st.addRow r ⟨c.e, c.t, c.xs ++ ys⟩) T w' := by
    refine h.addRow hn (fun g hg => ?_) (cells := cells ++ news) ?_ ?_
    · rcases hplace g hg with h1 | h1
      · exact hout g h1
      · exact .inl (Nat.le_trans (fresh_place h) h1.1)
    · simp only [List.length_append]
      rw [← hszc, hce]
      exact hown'
    · simp only []
      have app : ∀ (c1 c2 : List Value) (x1 x2 : List c.t.el) (f : List Value → c.t.el → Prop), repL f c1 x1 → repL f c2 x2 → repL f (c1 ++ c2) (x1 ++ x2) := by
        intro c1 c2 x1 x2 f
        induction x1 generalizing c1 with
        | nil => intro h1 h2; cases h1; exact h2
        | cons y ys ih => rintro ⟨d1, d2, rfl, g1, g2⟩ h2; exact ⟨d1, d2 ++ c2, by simp, g1, ih _ g2 h2⟩
      exact app _ _ _ _ _ (repL_mono (fun _ _ => rep_ext hn.keeps (hn.mut addRow_ids) c.t) hrep) (repL_mono (fun _ _ => rep_ext hn.keeps (hn.mut addRow_ids) c.t) hL)
  have ea : args = #[s, x] := by rw [← Array.toArray_toList (xs := args), ha]
  have et : ts = #[t, t'] := by rw [← Array.toArray_toList (xs := ts), hts]
  subst ea
  subst et
  refine ⟨v', w', _, ?_, hrow, (upd_same _ _ _).symm⟩
  simp only [execOp, ho, resolve, invoke, builtin, Sem.run_bind, Sem.run_pure, Result.andThen_ok, List.map_toArray, List.map_cons, List.map_nil, hv, hrun]

theorem evM_runes (h : Rm cx m st T w) {o : Oper} {d : Nat} {src dst e : TypeId} {x : Operand} {s : List UInt8} (ho : o.op = .convert src dst x) (hx : getTV st x = some ⟨.str, s⟩) (hs : cx.P.underlying src = some .string) (hd : elemOf? cx.P dst = some (e, .int .i32))
    {orc : List TV} {ob : List Prop} (hl : s.length ≤ lim) : Makes cx T w o ⟨.row d, st.addRow d ⟨e, .int .i32, strRunes s⟩, orc, ob⟩ := by
  obtain ⟨hv, _⟩ := repV_str.1 (getTV_sound h hx)
  obtain ⟨hu, hte, _⟩ := elemOf?_facts hd
  have he : cx.P.underlying e = some (.int .i32) := by
    obtain ⟨i, _, _, hf⟩ := tyOf_facts hte
    exact hf
  have hsz : Conv.runesFrom (bytesOf s) (bytesOf s).size 0 #[] = ((strRunes s).map (Value.int .i32)).toArray := by
    rw [runesFrom_list, bytesOf_size]
    simp [strRunes]
  have hlen : (strRunes s).length ≤ s.length := runesAt_length s s.length 0
  have hlim : lim ≤ 70368744177664 := by decide
  have hmx : (strRunes s).length ≤ maxLen := Nat.le_trans hlen (Nat.le_trans hl lim_max)
  have hrun := run_runes_of_string (P := cx.P) w src dst e (bytesOf s) hs hu he (by rw [hsz]; simp only [List.size_toArray, List.length_map]; omega)
  rw [hsz] at hrun
  simp only [List.size_toArray, List.length_map] at hrun
  have hge := grownCap_ge w (strRunes s).length 0 e
  have hcm := grownCap_le_maxLen w (strRunes s).length 0 e hmx
  refine ⟨_, _, _, exec_value (s := convert src dst (.string (bytesOf s))) (by simp only [execOp, ho, hv]; rfl) hrun,
    new_row h d (xs := strRunes s) (cells := (strRunes s).map (Value.int .i32)) (u := .int .i32) (e := e) _ { os := rfl, tape := rfl, output := rfl, size := by simp, block := fun b hb => Below.heap_alloc w.drew _ b hb } (heap_alloc_new w.drew _) hge hcm ?_ ?_ ?_, (upd_same _ _ _).symm⟩
  · simp only [Array.size_append, List.size_toArray, List.length_map, Array.size_replicate, Ty.cells]
    omega
  · simp only [Array.toList_append, Ty.cells, Nat.mul_one]
    rw [List.take_append_of_le_length (by rw [List.length_map]; exact Nat.le_refl _)]
    rw [List.take_of_length_le (by rw [List.length_map]; exact Nat.le_refl _)]
  · have : ∀ (l : List Int), repL (rep w (Mut cx m st.ids) (.int .i32)) (l.map (Value.int .i32)) l := by
      intro l
      induction l with
      | nil => rfl
      | cons b s ih => exact ⟨[_], _, rfl, rfl, ih⟩
    exact this _

theorem evM_bytes (h : Rm cx m st T w) {o : Oper} {src dst e : TypeId} {x : Operand} {s : List UInt8} (ho : o.op = .convert src dst x) (hx : getTV st x = some ⟨.str, s⟩) (hs : cx.P.underlying src = some .string) (hd : elemOf? cx.P dst = some (e, .int .u8))
    {orc : List TV} {ob : List Prop} : Makes cx T w o ⟨.val (.sl (.int .u8)) (bytesEl s), st, orc, ob⟩ := by
  obtain ⟨hv, hlen⟩ := repV_str.1 (getTV_sound h hx)
  obtain ⟨hu, hte, _⟩ := elemOf?_facts hd
  have he : cx.P.underlying e = some (.int .u8) := by
    obtain ⟨i, _, _, hf⟩ := tyOf_facts hte
    exact hf
  have hrun := run_bytes_of_string (P := cx.P) w src dst e (bytesOf s) hs hu he
  have hsz : (bytesOf s).size = s.length := bytesOf_size s
  rw [hsz] at hrun
  have hge := grownCap_ge w s.length 0 e
  have hcm := grownCap_le_maxLen w s.length 0 e hlen
  have hbl : (bytesEl s).length = s.length := by simp [bytesEl]
  refine ⟨_, _, m, exec_value (s := convert src dst (.string (bytesOf s))) (by simp only [execOp, ho, hv]; rfl) hrun, h.ext { os := rfl, tape := rfl, output := rfl, size := by simp, block := fun b hb => Below.heap_alloc w.drew _ b hb },
    (repV_plain (t := .sl (.int .u8)) rfl).2 ⟨some ⟨w.heap.size, 0, none⟩, grownCap w s.length 0 e, (bytesEl s).map (Value.int .u8), congrArg (fun n => [Value.slice _ n _]) hbl.symm, Nat.le_trans (Nat.le_of_eq hbl) hge, hcm, (fun h => by cases h), ?_, ?_⟩⟩
  · have : ∀ (w : World) (M : Nat → Prop) (l : List Int), repL (rep w M (.int .u8)) (l.map (Value.int .u8)) l := by
      intro w M l
      induction l with
      | nil => rfl
      | cons b s ih => exact ⟨[_], _, rfl, rfl, ih⟩
    exact this _ _ _
  · intro j u hj
    refine ⟨_, rfl, ?_, fun hc => Nat.lt_irrefl _ (h.mut_lt hc)⟩
    have hjl : j < s.length := by have := (List.getElem?_eq_some_iff.1 hj).1; simpa [bytesEl] using this
    have ea : (⟨w.heap.size, 0, none⟩ : Addr).add j = ⟨w.heap.size, 0 + j, none⟩ := by unfold Addr.add; split <;> simp_all
    have hca := cell_in (heap_alloc_new w.drew (.cells (bytesRow (bytesOf s) (grownCap w s.length 0 e)) e ((bytesRow (bytesOf s) (grownCap w s.length 0 e)).size, (bytesRow (bytesOf s) (grownCap w s.length 0 e)).size + 1))) (0 + j)
    rw [ea]
    refine Eq.trans hca ?_
    rw [Nat.zero_add]
    unfold bytesRow
    rw [Array.getElem?_append_left (by simp [bytesOf]; exact hjl)]
    rw [← Array.getElem?_toList, Array.toList_map]
    simp only [bytesEl, List.map_map, List.getElem?_map] at hj
    simp only [bytesOf, List.getElem?_map]
    exact hj

theorem repL_drop {M : Nat → Prop} {t : Ty} : ∀ {xs : List t.el} {cs : List Value} (n : Nat), repL (rep w M t) cs xs → n ≤ xs.length → repL (rep w M t) (cs.drop (n * t.cells)) (xs.drop n)
  | xs, cs, 0, h, _ => by rw [Nat.zero_mul]; exact h
  | [], _, n + 1, _, hn => by simp at hn
  | x :: xs, cs, n + 1, ⟨c1, c2, e, h1, h2⟩, hn => by
    have hl := rep_length t h1
    have hcs : cs.drop ((n + 1) * t.cells) = c2.drop (n * t.cells) := by
      rw [e, Nat.succ_mul, Nat.add_comm, ← List.drop_drop, ← hl, List.drop_left]
    rw [hcs]
    exact repL_drop n h2 (by simpa using hn)
theorem evM_arrSlice (h : Rm cx m st T w) {o : Oper} {t : TypeId} {u : Ty} {len : Nat} {x lo : Operand} {r off0 sz : Nat} {i0 n : Int} {c : RowC} {ys : List c.t.el} (ho : o.op = .slice t x (some lo) none none) (hx : getSV st x = some (.rptr r i0 off0 sz)) (hl : intOf? (getSV st lo) = some n)
    (ha : arrTy cx.P t = some (len, u)) (hc : look st.rw r = some c) (hb : (c.t.beq u && (i0 == 0 && (Nat.beq off0 0 && Nat.beq sz c.t.cells))) = true) (hs : sub? c.xs n (c.xs.length : Int) = some ys) (hlen : c.xs.length = len) {orc : List TV} {ob : List Prop} :
    Makes cx T w o ⟨.val (.sl c.t) ys, st.freeze r c, orc, ob⟩ := by
  simp only [Bool.and_eq_true, beq_iff_eq] at hb
  obtain ⟨hb1, hb2, hb3, hb4⟩ := hb
  have hb3 := Nat.eq_of_beq_eq_true hb3
  obtain rfl := Ty.eq_of_beq hb1
  obtain ⟨k, hk⟩ := intOf?_sound h hl
  obtain ⟨h0, h1, _, hys⟩ := sub?_some hs
  rw [Int.toNat_natCast, List.take_length] at hys
  unfold arrTy at ha
  split at ha
  case h_2 => cases ha
  rename_i len' e hu
  split at ha
  case h_2 => cases ha
  rename_i u' hu'
  cases ha
  obtain ⟨g, n0, cap0, hn, hv⟩ := getSV_sound h hx
  have hv : Act.eval ⟨T, []⟩ x = .pointer (some ⟨g, 0, none⟩) := by rw [hv, hb2, hb3]; simp
  have hfr := h.freeze (look_mem hc)
  have hcm := look_mem hc
  have hri : r ∈ st.ids := List.mem_append.2 (.inr (List.mem_map.2 ⟨_, hcm, rfl⟩))
  have hval : rep w (Mut cx m (st.freeze r c).ids) (.sl c.t) [m r] c.xs := by
    have hne : ∀ c', (r, c') ∉ st.bx := fun c' hb => (List.nodup_append.1 h.keys).2.2 r (List.mem_map.2 ⟨_, hb, rfl⟩) r (List.mem_map.2 ⟨_, hcm, rfl⟩) rfl
    have hmem : ∀ i, i ∈ (st.freeze r c).ids → i ∈ st.ids ∧ i ≠ r := by
      intro i hi
      rcases List.mem_append.1 hi with hi | hi
      · obtain ⟨⟨b, s⟩, hp, rfl⟩ := List.mem_map.1 hi
        obtain ⟨⟨b', s'⟩, hp', he⟩ := List.mem_map.1 hp
        cases he
        exact ⟨List.mem_append.2 (.inl (List.mem_map.2 ⟨_, hp', rfl⟩)), fun e => hne s' (by simp only at e; rw [← e]; exact hp')⟩
      · obtain ⟨⟨b, s⟩, hp, rfl⟩ := List.mem_map.1 hi
        obtain ⟨h1, h2⟩ := mem_del.1 hp
        exact ⟨List.mem_append.2 (.inr (List.mem_map.2 ⟨_, h1, rfl⟩)), h2⟩
    refine h.row_val hcm (fun b _ hb => mut_mono (fun i hi => (hmem i hi).1) hb) fun g' hg' => ?_
    rintro (hA | ⟨i, hi, hgi⟩)
    · have h1 := h.outer g' hA
      rcases (h.lt hri hg').2 with h2 | h2
      · omega
      · exact h1.2 h2
    · obtain ⟨h1, h2⟩ := hmem i hi
      exact h.apart i r h1 hri h2 g' hgi hg'
  obtain ⟨a, cap, cells, hcv, hcap, hmax, hnil, hL, hcell⟩ := hval
  rw [hn] at hcv
  simp only [List.cons.injEq, and_true, Value.slice.injEq] at hcv
  obtain ⟨ha1, hn0, hcap0⟩ := hcv
  subst ha1
  have hnn : n.toNat ≤ c.xs.length := by omega
  have hcl := repL_length (fun _ _ => rep_length c.t) _ _ hL
  have hyl : ys.length = c.xs.length - n.toNat := by rw [hys, List.length_drop]
  refine ⟨.slice (some (if c.xs.length = n.toNat then ⟨g, 0, none⟩ else (⟨g, 0, none⟩ : Addr).add (n.toNat * c.t.cells))) (c.xs.length - n.toNat) (c.xs.length - n.toNat), w, m,
    exec_value (s := Instr.sliceAt t (Act.eval ⟨T, []⟩ x) (some (Act.eval ⟨T, []⟩ lo)) none none) (by simp only [execOp, ho]; rfl) ?_, hfr, ?_⟩
  · simp only [hv, hk, Instr.sliceAt, Sem.run_bind, run_underlying hu, Result.andThen_ok, Instr.sureAddr, Sem.run_pure]
    have hb : (Instr.sliceBounds false len len (some (.int k n)) none none).run cx.P w = .ok (n.toNat, len, len) w := by
      have hnl : n ≤ (len : Int) := by rw [← hlen]; exact h1
      simp [Instr.sliceBounds, Instr.sliceBound, asIntOf, h0, hnl]
    rw [hb]
    simp only [Result.andThen_ok, Sem.run_bind, ty_sizeOf hu', Sem.run_pure, hlen]
  · refine (repV_plain (t := .sl c.t) rfl).2 ⟨_, c.xs.length - n.toNat, cells.drop (n.toNat * c.t.cells), by rw [hyl], by rw [hyl]; exact Nat.le_refl _, by omega, (fun e => by cases e), ?_, ?_⟩
    · rw [hys]; exact repL_drop _ hL hnn
    · intro j u hj
      rw [List.getElem?_drop] at hj
      obtain ⟨b, hb1, hb2, hb3⟩ := hcell _ _ hj
      cases hb1
      have hjl := (List.getElem?_eq_some_iff.1 hj).1
      by_cases he : c.xs.length = n.toNat
      · rw [hcl, he] at hjl
        omega
      · refine ⟨_, rfl, ?_, ?_⟩
        · rw [if_neg he, add_add]
          exact hb2
        · rw [if_neg he, add_block]
          exact hb3

theorem evM_sound (h : Rm cx m st T w) {o : Oper} {d : Nat} (hd : d < cx.n) {orc : List TV} {r : MR} (hev : evM cx.P st o d orc = some r) (hob : allP r.ob) : Makes cx T w o r := by
  unfold evM at hev
  split at hev
  · rename_i ho
    split at hev
    · cases hev; exact evM_nil h (.inl ho)
    · cases hev
  · rename_i ho
    split at hev
    · cases hev; exact evM_nil h (.inr ho)
    · cases hev
  · rename_i t ho
    split at hev
    · rename_i n u hz; cases hev; exact evM_allocArr h ho hz
    · split at hev
      · rename_i e u hz; cases hev; exact evM_allocRow h hd ho hz
      · split at hev
        · rename_i e hz; cases hev; exact evM_allocBld h hd ho hz
        · split at hev
          · rename_i u hz
            cases hh : hasArr u <;> rw [hh] at hev <;> cases hev
            · exact evM_alloc h hd ho hz
            · exact evM_allocBlk h hd ho hz
          · cases hev
  · rename_i t x ho
    split at hev
    · rename_i u s hu hx
      split at hev
      · rename_i l hl hr; cases hev; exact evM_box h hd ho hx hl hr
      · cases hev
    · cases hev
  · rename_i t n parts ho
    split at hev
    · rename_i e u he
      split at hev
      · rename_i xs hx
        split at hev
        · rename_i u' h1 h2 h3
          cases hev
          exact evM_lit h ho he hx (Nat.eq_of_beq_eq_true h1) (Nat.le_of_ble_eq_true h2) h3
        · cases hev
      · cases hev
    · cases hev
  · rename_i t parts ho
    split at hev
    · rename_i n u n' e i ht hu hi
      split at hev
      · rename_i xs u' z hx hty hz
        split at hev
        · rename_i hh
          cases hev
          simp only [Bool.and_eq_true] at hh
          obtain ⟨⟨hh1, hh2⟩, hh3⟩ := hh
          obtain rfl := Ty.eq_of_beq hh2
          obtain ⟨_, _, _, e2, d2, hu2, _⟩ := tyOf_facts ht
          have hu3 : cx.P.underlying t = some (.array n e) := by rw [hu] at hu2; cases hu2; exact hu
          exact evM_buildArr h ho ht hi hz hu3 hty hx (Nat.eq_of_beq_eq_true hh1) (Nat.eq_of_beq_eq_true hh3)
        · cases hev
      · cases hev
    · cases hev
  · rename_i t l c ho
    split at hev
    · rename_i e u n k he hl hc
      split at hev
      · rename_i u' hb hz
        cases hu : u.beq u' with
        | false => rw [hu] at hev; cases hev
        | true =>
          rw [hu] at hev
          cases hev
          obtain rfl := Ty.eq_of_beq hu
          exact evM_make h ho he hl hc hb hz hob.1
      · cases hev
    · cases hev
  · rename_i t x ho
    split at hev
    · rename_i s hx ht; cases hev; exact evM_range h hd ho hx ht
    · rename_i k v y kt et hx ht; cases hev; exact evM_rangeMap h hd ho hx ht
    · cases hev
  · rename_i t r ho
    split at hev
    · rename_i kt et ht
      split at hev
      · rename_i k v hk hv
        split at hev
        · rename_i hh
          cases hev
          simp only [Bool.and_eq_true] at hh
          exact evM_makeMap h hd ho ht hh.2
        · cases hev
      · cases hev
    · cases hev
  · rename_i x ho
    split at hev
    · rename_i b hx
      split at hev
      · rename_i k v left last hb
        cases hev
        exact evM_overMap h ho hx hb hob.1
      · cases hev
    · cases hev
  · rename_i x ho
    split at hev
    · rename_i b hx
      split at hev
      · rename_i k v left p hb
        cases hev
        exact evM_entry h ho hx hb
      · cases hev
    · cases hev
  · rename_i x ho
    split at hev
    · rename_i b more orc' hx
      split at hev
      · rename_i s p hb
        split at hev
        · cases hev; exact (evM_next h ho hx hb).1 hob.1
        · cases hev; exact (evM_next h ho hx hb).2 hob.1
      · cases hev
    · cases hev
  · rename_i src dst x ho
    split at hev
    · rename_i s e hx hs hd; cases hev; exact evM_runes h ho hx hs hd hob.1
    · rename_i s e hx hs hd; cases hev; exact evM_bytes h ho hx hs hd
    · cases hev
  · rename_i f first caps ho
    split at hev
    · rename_i bs hf hc; cases hev; exact evM_func h ho hf hc
    · cases hev
  · rename_i t x hi ho
    split at hev
    · rename_i r e u n hx he hn
      split at hev
      · rename_i c hc
        split at hev
        · rename_i h1 h2
          cases hev
          exact evM_shrink h ho hx he hn hc (Nat.eq_of_beq_eq_true h1) (Ty.eq_of_beq h2) hob.1
        · cases hev
      · cases hev
    · cases hev
  · rename_i t x lo ho
    split at hev
    · rename_i r i0 off0 sz n len u v orc' hx hl ha
      split at hev
      · rename_i c hc
        split at hev
        · rename_i ys hb hy
          cases hev
          exact evM_arrSlice h ho hx hl ha hc hb hob.1 hob.2.1
        · cases hev
      · cases hev
    · cases hev
  · rename_i c ho
    split at hev
    · rename_i args ts
      split at hev
      · rename_i s x t t' ha hts
        split at hev
        · rename_i e u r c he hbase
          split at hev
          · rename_i u' ys h1 h2 h3 h4 h5
            cases hu : u.beq u' with
            | false => rw [hu] at hev; cases hev
            | true =>
              rw [hu] at hev
              cases hev
              obtain rfl := Ty.eq_of_beq hu
              exact evM_append h ho ha hts he hbase (Nat.eq_of_beq_eq_true h1) (Ty.eq_of_beq h2) h3 h4 h5 hob.1
          · cases hev
        · cases hev
      · cases hev
    · cases hev
  · cases hev

end Go.Ev
