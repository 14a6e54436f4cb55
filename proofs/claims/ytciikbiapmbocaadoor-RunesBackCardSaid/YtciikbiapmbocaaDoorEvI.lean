/- The evaluator of operations that change nothing is right. -/
import Derived.Test.YtciikbiapmbocaaDoorEvH
namespace Go.Ev
open Go Go.RowKit
variable {cx : Cx} {m : Nat → Value} {st : St} {T : Array Value} {w w' : World}

theorem loSV_sound (h : Rm cx m st T w) {lo : Option Operand} {l : Int} (hs : evP.loSV st lo = some l) :
    (lo.map (Act.eval ⟨T, []⟩) = none ∧ l = 0) ∨ ∃ k, lo.map (Act.eval ⟨T, []⟩) = some (.int k l) := by
  cases lo with
  | none => cases hs; exact .inl ⟨rfl, rfl⟩
  | some x => obtain ⟨k, hk⟩ := intOf?_sound h hs; exact .inr ⟨k, by simp [hk]⟩
theorem hiSV_sound (h : Rm cx m st T w) {hi : Option Operand} {n : Nat} {l : Int} (hs : evP.hiSV st hi n = some l) :
    (hi.map (Act.eval ⟨T, []⟩) = none ∧ l = n) ∨ ∃ k, hi.map (Act.eval ⟨T, []⟩) = some (.int k l) := by
  cases hi with
  | none => cases hs; exact .inl ⟨rfl, rfl⟩
  | some x => obtain ⟨k, hk⟩ := intOf?_sound h hs; exact .inr ⟨k, by simp [hk]⟩

theorem vptr_holds {M : Nat → Prop} {v : Value} {t : Ty} {x : t.el} (h : repS w M m v (.vptr t x)) : ∃ a, v = .pointer (some a) ∧ Holds w M a t x := by
  obtain ⟨a, cells, e, h1, h2⟩ := h
  exact ⟨a, e, cells, h1, h2⟩
theorem holds_vptr {M : Nat → Prop} {a : Addr} {t : Ty} {x : t.el} (h : Holds w M a t x) : repS w M m (.pointer (some a)) (.vptr t x) := by
  obtain ⟨cells, h1, h2⟩ := h
  exact ⟨a, cells, rfl, h1, h2⟩

theorem sub?_len {α : Type} {s r : List α} {lo hi : Int} (h : sub? s lo hi = some r) : r.length ≤ s.length := by
  obtain ⟨_, _, _, rfl⟩ := sub?_some h
  rw [List.length_drop, List.length_take]
  omega

theorem convS_sound {cx : Cx} {m : Nat → Value} {st : St} {T : Array Value} {w : World} (h : Rm cx m st T w) {o : Oper} {src dst : TypeId} {x : Operand} (hop : o.op = .convert src dst x) {orc : List TV} {pr : PR} (hev : convS cx.P st src dst x orc = some pr) (hob : allP pr.ob) :
    ∃ v, Does cx T w o v ∧ repS w (Mut cx m st.ids) m v pr.sv := by
  have key : ∀ s, (getSV st x).map (thaw st) = some s → repS w (fun _ => False) m (Act.eval ⟨T, []⟩ x) s := by
    intro s hs
    obtain ⟨s0, h1, h2⟩ := Option.map_eq_some_iff.1 hs
    rw [← h2]
    exact thaw_sound h (getSV_sound h h1)
  unfold convS at hev
  split at hev
  · rename_i xs e hx hs hd
    split at hev
    · rename_i he
      cases hev
      obtain ⟨h1, h2⟩ := conv_bytes hs he hd (key _ hx)
      exact ⟨_, Does.of (by simp only [execOp, hop]) h1, repV_str.2 ⟨rfl, h2⟩⟩
    · cases hev
  · rename_i xs e hx hs hd
    split at hev
    · rename_i he
      cases hev
      have h1 := conv_runes hs he hd (key _ hx)
      exact ⟨_, Does.of (by simp only [execOp, hop]) h1, repV_str.2 ⟨rfl, Nat.le_trans hob.1 lim_max⟩⟩
    · cases hev
  · cases hev

set_option maxHeartbeats 1000000 in
theorem evP_sound (h : Rm cx m st T w) {o : Oper} {orc : List TV} {pr : PR} (hev : evP cx.P st o.op orc = some pr) (hob : allP pr.ob) :
    ∃ v, Does cx T w o v ∧ repS w (Mut cx m st.ids) m v pr.sv := by
  cases hop : o.op <;> rw [hop] at hev
  case move x =>
    simp only [evP] at hev
    split at hev
    · rename_i s hs
      cases hev
      exact ⟨_, fun w' _ => by simp [execOp, hop], getSV_sound h hs⟩
    · cases hev
  case assign x =>
    simp only [evP] at hev
    split at hev
    · rename_i s hs
      cases hev
      exact ⟨_, fun w' _ => by simp [execOp, hop], getSV_sound h hs⟩
    · cases hev
  case pick c a b =>
    simp only [evP] at hev
    split at hev
    · rename_i hc
      have hcv := repV_bool.1 (getTV_sound h hc)
      split at hev
      · rename_i s hs
        cases hev
        refine ⟨_, fun w' _ => ?_, getSV_sound h hs⟩
        simp [execOp, hop, hcv, asBool]
      · cases hev
    · rename_i hc
      have hcv := repV_bool.1 (getTV_sound h hc)
      split at hev
      · rename_i s hs
        cases hev
        refine ⟨_, fun w' _ => ?_, getSV_sound h hs⟩
        simp [execOp, hop, hcv, asBool]
      · cases hev
    · cases hev
  case binOp op t x y t' =>
    simp only [evP] at hev
    split at hev
    · rename_i a b ha hb
      split at hev
      · rename_i r ob hr
        cases hev
        obtain ⟨v, h1, h2⟩ := bin_sound (ox := x) (oy := y) (getTV_sound h ha) (getTV_sound h hb) hr hob
        exact ⟨v, Does.of (by simp only [execOp, hop]) h1.steady, h2 _ _⟩
      · cases hev
    · cases hev
  case unOp op t x =>
    simp only [evP] at hev
    split at hev
    · rename_i a ha
      split at hev
      · rename_i r hr
        cases hev
        obtain ⟨v, h1, h2⟩ := un_sound (P := cx.P) (getTV_sound h ha) hr
        exact ⟨v, Does.of (by simp only [execOp, hop]) h1.steady, h2 _ _⟩
      · cases hev
    · cases hev
  case convert src dst x =>
    simp only [evP] at hev
    split at hev
    · rename_i a ha
      split at hev
      · rename_i r hr
        cases hev
        obtain ⟨v, h1, h2⟩ := conv_sound (getTV_sound h ha) hr
        exact ⟨v, Does.of (by simp only [execOp, hop]) h1.steady, h2 _ _⟩
      · exact convS_sound h hop hev hob
    · exact convS_sound h hop hev hob
  case index t x i =>
    simp only [evP] at hev
    split at hev
    · rename_i s n b orc' hx hi ht
      cases hev
      obtain ⟨k, hk⟩ := intOf?_sound h hi
      obtain ⟨hv, _⟩ := repV_str.1 (getTV_sound h hx)
      refine ⟨.int .u8 b, Does.of (s := Instr.index t (.string (bytesOf s)) (.int k n)) (by simp only [execOp, hop, hv, hk]; rfl) (index_sound ht hob.1).steady, repV_int.2 rfl⟩
    · cases hev
  case field t x f =>
    simp only [evP] at hev
    split at hev
    · rename_i a off u ha hf
      split at hev
      · rename_i y hag hg
        cases hev
        obtain ⟨r, h1, h2⟩ := field_run hf hag (getTV_sound h ha) hg
        exact ⟨r, Does.of (by simp only [execOp, hop]) h1.steady, h2⟩
      · cases hev
    · cases hev
  case build t parts =>
    simp only [evP] at hev
    split at hev
    · rename_i u i hu hi
      split at hev
      · rename_i z hz hag
        split at hev
        · rename_i y hzc hmk
          cases hev
          obtain ⟨c0, hc0, hr0⟩ := zeroChk_rep (w := w) (M := Mut cx m st.ids) u hzc
          rw [List.append_nil] at hc0
          obtain ⟨i', hi', hsz, hf⟩ := tyOf_facts hu
          have hstruct : ∃ fs d', cx.P.underlying t = some (.struct fs) ∧ fieldsOf (tyOf cx.P d') 0 fs.toList = some u := by
            cases u <;> first | exact hf | (simp [Ty.agg] at hag)
          obtain ⟨fs, d', hfs, hfo⟩ := hstruct
          obtain ⟨cs', hfill, hrep⟩ := fill_sound hfs h rfl (place := fun k => (fs.map fun f => (f.offset, cx.P.cellsOf f.type))[k]?) (fun k off fu hfi => by
            obtain ⟨fs2, fd, h1, h2, h3, h4, h5⟩ := fieldInfo_facts hfi
            have : fs2 = fs := by rw [hfs] at h1; cases h1; rfl
            subst this
            obtain ⟨i3, hi3, hs3, _⟩ := tyOf_facts h3
            rw [Array.getElem?_map, h2]
            simp [h4, Program.cellsOf, hi3, hs3]) parts.toList (zeroEl u) y c0 hr0 hmk
          refine ⟨.agg cs'.toArray, Does.of (by simp only [execOp, hop]) (s := Instr.build t (parts.map fun p => (p.1, Act.eval ⟨T, []⟩ p.2))) ?_, (repV_agg hag).2 ⟨cs', rfl, hrep⟩⟩
          intro w' _
          have hc0' : z.cells = c0.toArray := by rw [← hc0]
          refine run_build w' t _ _ ?_
          unfold Program.built
          simp only [hi, hfs, hz, places_of fs.toList (fun f hf => fieldsOf_size hfo f hf)]
          rw [hc0', Array.toList_map, ← hfill]
          congr 1
          funext k
          simp
        · cases hev
      · cases hev
    · cases hev
  case extract x i =>
    simp only [evP] at hev
    split at hev
    · rename_i l hx
      split at hev
      · rename_i v hv
        cases hev
        obtain ⟨vs, hvs, hr⟩ := getSV_sound h hx
        have key : ∀ (vs : List Value) (l : List TV) (i : Nat) (u : TV), repVs w (Mut cx m st.ids) vs l → l[i]? = some u → ∃ v, vs[i]? = some v ∧ repV w (Mut cx m st.ids) v u.t u.x := by
          intro vs
          induction vs with
          | nil => intro l i u hr hu; cases l with
            | nil => simp at hu
            | cons _ _ => exact hr.elim
          | cons v vs ih => intro l i u hr hu; cases l with
            | nil => exact hr.elim
            | cons u' l => cases i with
              | zero => simp at hu; subst hu; exact ⟨v, rfl, hr.1⟩
              | succ i => exact ih l i u hr.2 (by simpa using hu)
        obtain ⟨v', h1, h2⟩ := key vs l i v hr hv
        refine ⟨v', fun w' _ => ?_, h2⟩
        simp only [execOp, hop, hvs, Instr.extract]
        rw [List.getElem?_toArray, h1]
        rfl
      · cases hev
    · rename_i l hx
      have key : ∀ (vs : List Value) (l : List TR) (i : Nat) (u : TR), repTRs w (Mut cx m st.ids) m vs l → l[i]? = some u → ∃ v, vs[i]? = some v ∧ (match u with | .v u => repV w (Mut cx m st.ids) v u.t u.x | .r r => v = m r) := by
        intro vs
        induction vs with
        | nil => intro l i u hr hu; cases l with
          | nil => simp at hu
          | cons _ _ => exact hr.elim
        | cons v vs ih => intro l i u hr hu; cases l with
          | nil => exact hr.elim
          | cons u' l => cases i with
            | zero => simp at hu; subst hu; cases u' with
              | v _ => exact ⟨v, rfl, hr.1⟩
              | r _ => exact ⟨v, rfl, hr.1⟩
            | succ i => cases u' with
              | v _ => exact ih l i u hr.2 (by simpa using hu)
              | r _ => exact ih l i u hr.2 (by simpa using hu)
      obtain ⟨vs, hvs, hr⟩ := getSV_sound h hx
      split at hev
      · rename_i v hv
        cases hev
        obtain ⟨v', h1, h2⟩ := key vs l i _ hr hv
        refine ⟨v', fun w' _ => ?_, h2⟩
        simp only [execOp, hop, hvs, Instr.extract]
        rw [List.getElem?_toArray, h1]
        rfl
      · rename_i r hv
        cases hev
        obtain ⟨v', h1, h2⟩ := key vs l i _ hr hv
        refine ⟨v', fun w' _ => ?_, h2⟩
        simp only [execOp, hop, hvs, Instr.extract]
        rw [List.getElem?_toArray, h1]
        rfl
      · cases hev
    · cases hev
  case nilCheck x =>
    simp only [evP] at hev
    split at hev
    · rename_i b off hx
      cases hev
      have hv := getSV_sound h hx
      obtain ⟨g, h1, h2⟩ := hv
      exact ⟨_, fun w' _ => by simp only [execOp, hop, h2]; rfl, g, h1, h2⟩
    · rename_i t y hx
      cases hev
      have hv := getSV_sound h hx
      obtain ⟨a, h1, h2⟩ := vptr_holds hv
      exact ⟨_, fun w' _ => by simp only [execOp, hop, h1]; rfl, h1 ▸ hv⟩
    · rename_i r i off sz hx
      cases hev
      have hv := getSV_sound h hx
      obtain ⟨g, n, cap, h1, h2⟩ := hv
      exact ⟨_, fun w' _ => by simp only [execOp, hop, h2]; rfl, g, n, cap, h1, h2⟩
    · cases hev
  case fieldAddr t x f =>
    simp only [evP] at hev
    split at hev
    · rename_i b off fo fu hx hf
      cases hev
      obtain ⟨g, h1, h2⟩ := getSV_sound h hx
      refine ⟨.pointer (some ⟨g, off + fo, none⟩), Does.of (by simp only [execOp, hop]) (s := Instr.fieldAt t (Act.eval ⟨T, []⟩ x) f) ?_, g, h1, rfl⟩
      intro w' _
      rw [h2, fieldAt_run hf, add_mk]
    · rename_i u y fo fu hx hf
      split at hev
      · rename_i z hz
        cases hev
        obtain ⟨a, h1, h2⟩ := vptr_holds (getSV_sound h hx)
        refine ⟨.pointer (some (a.add fo)), Does.of (by simp only [execOp, hop]) (s := Instr.fieldAt t (Act.eval ⟨T, []⟩ x) f) ?_, holds_vptr (h2.part hz)⟩
        intro w' _
        rw [h1, fieldAt_run hf]
      · cases hev
    · rename_i r i off sz fo fu hx hf
      cases hev
      obtain ⟨g, n, cap, h1, h2⟩ := getSV_sound h hx
      refine ⟨.pointer (some ⟨g, i.toNat * sz + (off + fo), none⟩), Does.of (by simp only [execOp, hop]) (s := Instr.fieldAt t (Act.eval ⟨T, []⟩ x) f) ?_, g, n, cap, h1, rfl⟩
      intro w' _
      rw [h2, fieldAt_run hf, add_mk, Nat.add_assoc]
    · cases hev
  case indexAddr t x i =>
    simp only [evP] at hev
    split at hev
    · rename_i u xs n u' v orc' hx hi ht
      split at hev
      · rename_i y hb hy
        cases hev
        obtain ⟨k, hk⟩ := intOf?_sound h hi
        obtain ⟨h0, h1, h2⟩ := at?_some hob.1
        obtain ⟨a, cap, cells, hc, hcap, _, hnil, hL, hcell⟩ := (repV_plain (t := .sl u) rfl).1 (getSV_sound h hx)
        simp only [List.cons.injEq, and_true] at hc
        obtain ⟨c1, c2, c3, rfl, hl, hr⟩ := repL_nth hL h2
        obtain ⟨_, _, _, te, d', hte, hty⟩ := tyOf_facts ht
        obtain rfl := Ty.eq_of_beq hb
        have hne : ∃ b, a = some b := by
          cases a with
          | some b => exact ⟨b, rfl⟩
          | none =>
            have h3 : cap = 0 := hnil rfl
            have h4 : (List.length xs : Int) ≤ cap := by exact_mod_cast hcap
            have h5 : n < ((List.length xs : Nat) : Int) := h1
            omega
        obtain ⟨b, rfl⟩ := hne
        refine ⟨.pointer (some (b.add (n.toNat * u.cells))), Does.of (by simp only [execOp, hop]) (s := Instr.indexAt t (Act.eval ⟨T, []⟩ x) (Act.eval ⟨T, []⟩ i)) ?_, ?_⟩
        · intro w' _
          have hlt : n < ((List.length xs : Nat) : Int) := h1
          simp only [hc, hk, Instr.indexAt, asIntOf, Sem.run_bind, Sem.run_pure, Result.andThen_ok, run_underlying hte]
          rw [if_pos ⟨h0, hlt⟩]
          simp only [Sem.run_bind, ty_sizeOf hty, Result.andThen_ok, Sem.run_pure]
        · refine holds_vptr ⟨c2, hr, fun j v hj => ?_⟩
          have hj2 := (List.getElem?_eq_some_iff.1 hj).1
          have hk2 : (c1 ++ c2 ++ c3)[n.toNat * u.cells + j]? = some v := by
            rw [List.append_assoc, List.getElem?_append_right (by omega), List.getElem?_append_left (by omega), ← hj]
            congr 1
            omega
          obtain ⟨b', hb1, hb2, hb3⟩ := hcell _ _ hk2
          cases hb1
          exact ⟨by rw [add_add]; exact hb2, by rw [add_block]; exact hb3⟩
      · cases hev
    · rename_i r n u' v orc' hx hi ht
      split at hev
      · rename_i c hc
        split at hev
        · rename_i y hb hy
          cases hev
          obtain ⟨k, hk⟩ := intOf?_sound h hi
          obtain ⟨h0, h1, h2⟩ := at?_some hob.1
          obtain ⟨_, _, _, te, d', hte, hty⟩ := tyOf_facts ht
          have hty' : tyOf cx.P d' te = some c.t := by rw [Ty.eq_of_beq hb]; exact hty
          have hv : Act.eval ⟨T, []⟩ x = m r := getSV_sound h hx
          obtain ⟨cells, hown, _⟩ := h.rows r c (look_mem hc)
          rcases hown.2 with ⟨hn, hz⟩ | ⟨g, cap, cur, hn, _⟩
          · omega
          · refine ⟨.pointer (some ⟨g, n.toNat * c.t.cells + 0, none⟩), Does.of (by simp only [execOp, hop]) (s := Instr.indexAt t (Act.eval ⟨T, []⟩ x) (Act.eval ⟨T, []⟩ i)) ?_, g, _, cap, hn, rfl⟩
            intro w' _
            simp only [hv, hn, hk, Instr.indexAt, asIntOf, Sem.run_bind, Sem.run_pure, Result.andThen_ok, run_underlying hte]
            rw [if_pos ⟨h0, h1⟩]
            simp only [Sem.run_bind, ty_sizeOf hty', Result.andThen_ok, Sem.run_pure, add_mk, Nat.zero_add, Nat.add_zero]
        · cases hev
      · cases hev
    · rename_i r i0 off0 sz n v orc' hx hi ht
      split at hev
      · rename_i c len u hc ha
        split at hev
        · rename_i y hb hy
          cases hev
          simp only [Bool.and_eq_true, beq_iff_eq] at hb
          obtain ⟨hb1, hb2, hb3, hb4⟩ := hb
          have hb3 := Nat.eq_of_beq_eq_true hb3
          have hb4 := Nat.eq_of_beq_eq_true hb4
          obtain ⟨k, hk⟩ := intOf?_sound h hi
          obtain ⟨h0, h1, h2⟩ := at?_some hob.1
          have hlen : c.xs.length = len := hob.2.1
          unfold arrTy at ha
          split at ha
          · rename_i len' e hu
            split at ha
            · rename_i u' hu'
              cases ha
              obtain rfl := Ty.eq_of_beq hb1
              obtain ⟨g, n0, cap, hn, hv⟩ := getSV_sound h hx
              have hv : Act.eval ⟨T, []⟩ x = .pointer (some ⟨g, 0, none⟩) := by rw [hv, hb2, hb3]; simp
              refine ⟨.pointer (some ⟨g, n.toNat * c.t.cells + 0, none⟩), Does.of (by simp only [execOp, hop]) (s := Instr.indexAt t (Act.eval ⟨T, []⟩ x) (Act.eval ⟨T, []⟩ i)) ?_, g, _, cap, hn, rfl⟩
              intro w' _
              have hlt : n < (len : Int) := by rw [← hlen]; exact h1
              simp only [hv, hk, Instr.indexAt, asIntOf, Sem.run_bind, Sem.run_pure, Result.andThen_ok, run_underlying hu, Instr.sureAddr]
              rw [if_pos ⟨h0, hlt⟩]
              simp only [Sem.run_bind, ty_sizeOf hu', Result.andThen_ok, Sem.run_pure, add_mk, Nat.zero_add, Nat.add_zero]
            · cases ha
          · cases ha
        · cases hev
      · cases hev
    · cases hev
  case load t x =>
    simp only [evP] at hev
    split at hev
    · rename_i u y u' hx ht
      split at hev
      · rename_i hb hz
        cases hev
        obtain ⟨a, h1, h2⟩ := vptr_holds (getSV_sound h hx)
        have hp : 0 < u.cells := Nat.pos_of_ne_zero (beq_false hz)
        obtain rfl := Ty.eq_of_beq hb
        obtain ⟨v, h3, h4⟩ := load_sound ht h2 hp
        refine ⟨v, Does.of (by simp only [execOp, hop]) (s := Instr.loadAt t (Act.eval ⟨T, []⟩ x)) ?_, h4⟩
        intro w' he
        simp only [Instr.loadAt, h1, Instr.sureAddr, Sem.run_bind, Sem.run_pure, Result.andThen_ok]
        exact h3 w' he
      · cases hev
    · cases hev
  case slice t x lo hi mx =>
    cases mx with
    | some _ => simp only [evP] at hev; cases hev
    | none =>
      simp only [evP] at hev
      split at hev
      · rename_i s r orc' hx
        split at hev
        · rename_i l hh ht hl hhi
          cases hev
          obtain ⟨hv, hlen⟩ := repV_str.1 (getSV_sound h hx)
          have hs := slice_str ht (loSV_sound h hl) (hiSV_sound h hhi) hob.1
          refine ⟨.string (bytesOf r), Does.of (by simp only [execOp, hop, hv]; rfl) hs.steady, repV_str.2 ⟨rfl, ?_⟩⟩
          exact Nat.le_trans (sub?_len hob.1) hlen
        · cases hev
      · rename_i u xs v orc' hx
        split at hev
        · rename_i u' l hh r ht hl hhi hr
          cases hb : u.beq u' with
          | false => rw [hb] at hev; cases hev
          | true =>
            rw [hb] at hev
            cases hev
            obtain rfl := Ty.eq_of_beq hb
            obtain ⟨_, _, _, te, d', hte, hty⟩ := tyOf_facts ht
            obtain ⟨v', h1, h2⟩ := slice_val hte hty ((repV_plain (t := .sl u) rfl).1 (getSV_sound h hx)) (loSV_sound h hl) (hiSV_sound h hhi) hob.1
            exact ⟨v', Does.of (by simp only [execOp, hop]; rfl) h1.steady, (repV_plain (t := .sl u) rfl).2 h2⟩
        · cases hev
      · cases hev
  case call c =>
    simp only [evP] at hev
    split at hev
    · rename_i c' args ts
      split at hev
      · rename_i x t hx ht
        split at hev
        · rename_i s hs
          split at hev
          · rename_i n hn
            cases hev
            have hl := lenOf_sound h (getSV_sound h hs) hn (ty' := o.type)
            have ea : args = #[x] := by rw [← Array.toArray_toList (xs := args), hx]
            have et : ts = #[t] := by rw [← Array.toArray_toList (xs := ts), ht]
            subst ea
            subst et
            refine ⟨.int .i64 n, fun w' _ => ?_, repV_int.2 rfl⟩
            simp only [execOp, hop, resolve, invoke, builtin, Sem.run_bind, Sem.run_pure, Result.andThen_ok, List.map_toArray, List.map_cons, List.map_nil, hl w']
          · cases hev
        · cases hev
      · cases hev
    · cases hev
  all_goals (simp only [evP] at hev; cases hev)

end Go.Ev
