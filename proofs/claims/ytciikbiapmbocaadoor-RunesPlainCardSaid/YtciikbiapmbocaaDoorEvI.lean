/- The evaluator of operations that change nothing is right. -/
import Derived.Test.YtciikbiapmbocaaDoorEvH
namespace Go.Ev
open Go Go.RowKit
variable {cx : Cx} {m : Nat → Value} {st : St} {T : Array Value} {w w' : World}

theorem loSV_sound (h : Rm cx m st T w) {lo : Option Operand} {l : Int} (hs : evP.loSV st lo = some l) :
    (lo.map (Act.eval ⟨T, []⟩) = none ∧ l = 0) ∨ ∃ k, lo.map (Act.eval ⟨T, []⟩) = some (.int k l) := by
  cases lo with
  | none => cases hs; exact .inl ⟨rfl, rfl⟩
  | some x => obtain ⟨k, hk⟩ := intOf?_sound h hs; exact .inr ⟨k, by simp [hk]⟩
theorem hiSV_sound (h : Rm cx m st T w) {hi : Option Operand} {n : Nat} {l : Int} (hs : evP.hiSV st hi n = some l) :
    (hi.map (Act.eval ⟨T, []⟩) = none ∧ l = n) ∨ ∃ k, hi.map (Act.eval ⟨T, []⟩) = some (.int k l) := by
  cases hi with
  | none => cases hs; exact .inl ⟨rfl, rfl⟩
  | some x => obtain ⟨k, hk⟩ := intOf?_sound h hs; exact .inr ⟨k, by simp [hk]⟩

theorem vptr_holds {M : Nat → Prop} {v : Value} {t : Ty} {x : t.el} (h : repS w M m v (.vptr t x)) : ∃ a, v = .pointer (some a) ∧ Holds w M a t x := by
  obtain ⟨a, cells, e, h1, h2⟩ := h
  exact ⟨a, e, cells, h1, h2⟩
theorem holds_vptr {M : Nat → Prop} {a : Addr} {t : Ty} {x : t.el} (h : Holds w M a t x) : repS w M m (.pointer (some a)) (.vptr t x) := by
  obtain ⟨cells, h1, h2⟩ := h
  exact ⟨a, cells, rfl, h1, h2⟩

theorem sub?_len {α : Type} {s r : List α} {lo hi : Int} (h : sub? s lo hi = some r) : r.length ≤ s.length := by
  obtain ⟨_, _, _, rfl⟩ := sub?_some h
  rw [List.length_drop, List.length_take]
  omega

theorem convS_sound {cx : Cx} {m : Nat → Value} {st : St} {T : Array Value} {w : World} (h : Rm cx m st T w) {o : Oper} {src dst : TypeId} {x : Operand} (hop : o.op = .convert src dst x) {orc : List TV} {pr : PR} (hev : convS cx.P st src dst x orc = some pr) (hob : allP pr.ob) :
    ∃ v, Does cx T w o v ∧ repS w (Mut cx m st.ids) m v pr.sv := by
  have key : ∀ s, (getSV st x).map (thaw st) = some s → repS w (fun _ => False) m (Act.eval ⟨T, []⟩ x) s := by
    intro s hs
    obtain ⟨s0, h1, h2⟩ := Option.map_eq_some_iff.1 hs
    rw [← h2]
    exact thaw_sound h (getSV_sound h h1)
  unfold convS at hev
  split at hev
  · rename_i xs e hx hs hd
    split at hev
    · rename_i he
      cases hev
      obtain ⟨h1, h2⟩ := conv_bytes hs he hd (key _ hx)
      exact ⟨_, Does.of (by simp only [execOp, hop]) h1, repV_str.2 ⟨rfl, h2⟩⟩
    · cases hev
  · rename_i xs e hx hs hd
    split at hev
    · rename_i he
      cases hev
      have h1 := conv_runes hs he hd (key _ hx)
      exact ⟨_, Does.of (by simp only [execOp, hop]) h1, repV_str.2 ⟨rfl, Nat.le_trans hob.1 lim_max⟩⟩
    · cases hev
  · cases hev

theorem isNilC_eq {y : Operand} (h : isNilC y = true) : y = .const .nilIface := by
  cases y with
  | const c => cases c <;> first | rfl | (simp [isNilC] at h)
  | _ => simp [isNilC] at h
theorem equal_nn {P : Program} {t : TypeId} {ms} (hu : P.underlying t = some (.interface ms)) (w : World) : (Op.equal t .nilIface .nilIface).run P w = .ok true w := by
  unfold Op.equal Op.maxDepth
  rw [Op.equalIn]
  simp only [Sem.run_bind, run_underlying hu, Result.andThen_ok]
  rfl
theorem equal_in {P : Program} {t u : TypeId} {v : Value} {ms} (hu : P.underlying t = some (.interface ms)) (w : World) : (Op.equal t (.iface u v) .nilIface).run P w = .ok false w := by
  unfold Op.equal Op.maxDepth
  rw [Op.equalIn]
  simp only [Sem.run_bind, run_underlying hu, Result.andThen_ok]
  rfl
theorem equal_ni {P : Program} {t u : TypeId} {v : Value} {ms} (hu : P.underlying t = some (.interface ms)) (w : World) : (Op.equal t .nilIface (.iface u v)).run P w = .ok false w := by
  unfold Op.equal Op.maxDepth
  rw [Op.equalIn]
  simp only [Sem.run_bind, run_underlying hu, Result.andThen_ok]
  rfl
theorem binOp_eql_of {P : Program} {t : TypeId} {vx vy : Value} {b : Bool} (hs : binOp .eql t vx vy = (do pure (.bool (← Op.equal t vx vy)))) (h : ∀ w, (Op.equal t vx vy).run P w = .ok b w) (w : World) : (binOp .eql t vx vy).run P w = .ok (.bool b) w := by
  rw [hs, Sem.run_bind, h w]; rfl
theorem binOp_neq_of {P : Program} {t : TypeId} {vx vy : Value} {b : Bool} (hs : binOp .neq t vx vy = (do pure (.bool (!(← Op.equal t vx vy))))) (h : ∀ w, (Op.equal t vx vy).run P w = .ok b w) (w : World) : (binOp .neq t vx vy).run P w = .ok (.bool (!b)) w := by
  rw [hs, Sem.run_bind, h w]; rfl
theorem binErr_sound {P : Program} {M : Nat → Prop} {op : BinOp} {t : TypeId} {x y : TV} {vx vy : Value} {ox oy : Operand} {r : Bool} {ob : List Prop} (hx : repV w M vx x.t x.x) (hy : repV w M vy y.t y.x)
    (hc : oy = .const .nilIface → vy = .nilIface) (h : binErr P op t oy x y = some (r, ob)) (hob : allP ob) :
    ∃ v, Gives P (do eqGuard op t ox oy vx vy; binOp op t vx vy) v ∧ ∀ w M, repV w M v .bool r := by
  have fin : ∀ (b : Bool) (ob0 : List Prop), binErr.neg op b ob0 = some (r, ob) → (∀ w, (eqGuard .eql t ox oy vx vy).run P w = .ok () w) → (∀ w, (eqGuard .neq t ox oy vx vy).run P w = .ok () w) →
      (∀ w, (binOp .eql t vx vy).run P w = .ok (.bool b) w) → (∀ w, (binOp .neq t vx vy).run P w = .ok (.bool (!b)) w) → ∃ v, Gives P (do eqGuard op t ox oy vx vy; binOp op t vx vy) v ∧ ∀ w M, repV w M v .bool r := by
    intro b ob0 h g1 g2 b1 b2
    unfold binErr.neg at h
    split at h
    · cases h; exact ⟨_, fun w => by rw [Sem.run_bind, g1 w]; exact b1 w, fun _ _ => repV_bool.2 rfl⟩
    · cases h; exact ⟨_, fun w => by rw [Sem.run_bind, g2 w]; exact b2 w, fun _ _ => repV_bool.2 rfl⟩
    · cases h
  have ob0 : ∀ (b : Bool) (o : List Prop), binErr.neg op b o = some (r, ob) → ob = o := by
    intro b o h
    unfold binErr.neg at h
    split at h <;> cases h <;> rfl
  unfold binErr at h
  split at h
  · rename_i a b
    have hx := (repV_plain (t := .err) rfl).1 hx
    have hy := (repV_plain (t := .err) rfl).1 hy
    split at h
    · rename_i ms hu hn
      have e1 := isNilC_eq hn
      have e2 := hc e1
      subst e1
      subst e2
      rcases hx with ⟨rfl, e⟩ | ⟨rfl, u, v, e⟩ | ⟨u, n, rfl, e⟩ <;> simp only [List.cons.injEq, and_true] at e <;> subst e
      · exact fin _ _ h (fun w => by cases ox <;> rfl) (fun w => by cases ox <;> rfl) (binOp_eql_of rfl (equal_nn hu)) (binOp_neq_of rfl (equal_nn hu))
      · exact fin _ _ h (fun w => rfl) (fun w => rfl) (binOp_eql_of rfl (equal_in hu)) (binOp_neq_of rfl (equal_in hu))
      · exact fin _ _ h (fun w => rfl) (fun w => rfl) (binOp_eql_of rfl (equal_in hu)) (binOp_neq_of rfl (equal_in hu))
    · rename_i ms hu hn
      split at h
      · rename_i u m hb
        have hb : b = some (some (u, m)) := hb
        subst hb
        have hy : vy = .iface u (.int .i64 m) := by
          rcases hy with ⟨e, _⟩ | ⟨e, _⟩ | ⟨u', n', e, e2⟩
          · cases e
          · cases e
          · cases e; simpa using e2
        subst hy
        split at h
        · rename_i i k hi hui
          cases hcp : i.comparable with
          | false => rw [hcp] at h; cases h
          | true =>
            rw [hcp, cond_true] at h
            have := ob0 _ _ h
            subst this
            have ha := hob.1
            have hti : ∀ w, (typeInfo u).run P w = .ok i w := fun w => run_typeInfo w hi
            rcases hx with ⟨rfl, e⟩ | ⟨rfl, _⟩ | ⟨u', n, rfl, e⟩
            · simp only [List.cons.injEq, and_true] at e; subst e
              exact fin _ _ h (fun w => rfl) (fun w => rfl) (binOp_eql_of rfl (equal_ni hu)) (binOp_neq_of rfl (equal_ni hu))
            · exact absurd rfl ha
            · simp only [List.cons.injEq, and_true] at e; subst e
              have key : ∀ w, (Op.equal t (.iface u' (.int .i64 n)) (.iface u (.int .i64 m))).run P w = .ok (errIs (some (some (u', n))) u m) w := by
                intro w
                unfold Op.equal Op.maxDepth
                rw [Op.equalIn]
                simp only [Sem.run_bind, run_underlying hu, Result.andThen_ok]
                by_cases hq : u' = u
                · subst hq
                  simp only [ne_eq, not_true_eq_false, if_false, Sem.run_bind, hti, Result.andThen_ok, hcp, Bool.not_true, Bool.false_eq_true]
                  rw [run_equalIn_int (h := hui)]
                  simp [errIs]
                · simp [hq, errIs, Sem.run_pure]
              exact fin _ _ h (fun w => rfl) (fun w => rfl) (binOp_eql_of rfl key) (binOp_neq_of rfl key)
        · cases h
      · cases h
    · cases h
  · cases h
theorem mx2_sound (h : Rm cx m st T w) {mx : Bool} {args : Array Operand} {r : TV} (hr : mx2 st mx args.toList = some r) :
    ∃ x y k a b, args = #[x, y] ∧ Act.eval ⟨T, []⟩ x = .int k a ∧ Act.eval ⟨T, []⟩ y = .int k b ∧ r = ⟨.int k, bif mx then mxI a b else mnI a b⟩ := by
  unfold mx2 at hr
  split at hr
  · rename_i x y he
    split at hr
    · rename_i k a k' b hx hy
      cases hk : kbeq k k' with
      | false => rw [hk] at hr; cases hr
      | true =>
        rw [hk, cond_true] at hr
        cases hr
        obtain rfl := keq hk
        exact ⟨x, y, k, a, b, by rw [← Array.toArray_toList (xs := args), he], repV_int.1 (getTV_sound h hx), repV_int.1 (getTV_sound h hy), rfl⟩
    · cases hr
  · cases hr

set_option maxHeartbeats 1000000 in
theorem evP_sound (h : Rm cx m st T w) {o : Oper} {orc : List TV} {pr : PR} (hev : evP cx.P st o.op orc = some pr) (hob : allP pr.ob) :
    ∃ v, Does cx T w o v ∧ repS w (Mut cx m st.ids) m v pr.sv := by
  cases hop : o.op <;> rw [hop] at hev
  case move x =>
    simp only [evP] at hev
    split at hev
    · rename_i s hs
      cases hev
      exact ⟨_, fun w' _ => by simp [execOp, hop], getSV_sound h hs⟩
    · cases hev
  case assign x =>
    simp only [evP] at hev
    split at hev
    · rename_i s hs
      cases hev
      exact ⟨_, fun w' _ => by simp [execOp, hop], getSV_sound h hs⟩
    · cases hev
  case pick c a b =>
    simp only [evP] at hev
    split at hev
    · rename_i hc
      have hcv := repV_bool.1 (getTV_sound h hc)
      split at hev
      · rename_i s hs
        cases hev
        refine ⟨_, fun w' _ => ?_, getSV_sound h hs⟩
        simp [execOp, hop, hcv, asBool]
      · cases hev
    · rename_i hc
      have hcv := repV_bool.1 (getTV_sound h hc)
      split at hev
      · rename_i s hs
        cases hev
        refine ⟨_, fun w' _ => ?_, getSV_sound h hs⟩
        simp [execOp, hop, hcv, asBool]
      · cases hev
    · cases hev
  case binOp op t x y t' =>
    simp only [evP] at hev
    split at hev
    · rename_i a b ha hb
      split at hev
      · rename_i r ob hr
        cases hev
        obtain ⟨v, h1, h2⟩ := bin_sound (ox := x) (oy := y) (getTV_sound h ha) (getTV_sound h hb) hr hob
        exact ⟨v, Does.of (by simp only [execOp, hop]) h1.steady, h2 _ _⟩
      · split at hev
        · rename_i r ob hr
          cases hev
          obtain ⟨v, h1, h2⟩ := binErr_sound (ox := x) (oy := y) (getTV_sound h ha) (getTV_sound h hb) (fun hy => by subst hy; rfl) hr hob
          exact ⟨v, Does.of (by simp only [execOp, hop]) h1.steady, h2 _ _⟩
        · cases hev
    · cases hev
  case unOp op t x =>
    simp only [evP] at hev
    split at hev
    · rename_i a ha
      split at hev
      · rename_i r hr
        cases hev
        obtain ⟨v, h1, h2⟩ := un_sound (P := cx.P) (getTV_sound h ha) hr
        exact ⟨v, Does.of (by simp only [execOp, hop]) h1.steady, h2 _ _⟩
      · cases hev
    · cases hev
  case convert src dst x =>
    simp only [evP] at hev
    split at hev
    · rename_i a ha
      split at hev
      · rename_i r hr
        cases hev
        obtain ⟨v, h1, h2⟩ := conv_sound (getTV_sound h ha) hr
        exact ⟨v, Does.of (by simp only [execOp, hop]) h1.steady, h2 _ _⟩
      · exact convS_sound h hop hev hob
    · exact convS_sound h hop hev hob
  case index t x i =>
    simp only [evP] at hev
    split at hev
    · rename_i s n b orc' hx hi ht
      cases hev
      obtain ⟨k, hk⟩ := intOf?_sound h hi
      obtain ⟨hv, _⟩ := repV_str.1 (getTV_sound h hx)
      refine ⟨.int .u8 b, Does.of (s := Instr.index t (.string (bytesOf s)) (.int k n)) (by simp only [execOp, hop, hv, hk]; rfl) (index_sound ht hob.1).steady, repV_int.2 rfl⟩
    · rename_i k u xs n v orc' k' e hx hi ht
      split at hev
      · rename_i u' y hb hte hy
        cases hb2 : u.beq u' <;> rw [hb2] at hev <;> cases hev
        obtain rfl := Nat.eq_of_beq_eq_true hb
        obtain rfl := Ty.eq_of_beq hb2
        obtain ⟨q, hq⟩ := intOf?_sound h hi
        obtain ⟨h0, h1, h2⟩ := at?_some hob.1
        obtain ⟨cs, hv, hr1, hr2⟩ := (repV_agg (t := .arr k u) rfl).1 (getTV_sound h hx)
        obtain ⟨c1, c2, c3, rfl, hl, hr⟩ := repL_nth hr2 h2
        obtain ⟨r, hp, hrep⟩ := part_all hte (pre := c1) (post := c3) hr
        refine ⟨r, Does.of (s := Instr.index t (.agg (c1 ++ c2 ++ c3).toArray) (.int q n)) (by simp only [execOp, hop, hv, hq]) (fun w' _ => ?_), hrep⟩
        have hlt : n < (k : Int) := by rw [← hr1]; exact h1
        simp only [Instr.index, asIntOf, Sem.run_bind, Sem.run_pure, Result.andThen_ok, run_underlying ht]
        rw [if_pos ⟨h0, hlt⟩]
        simp only [Sem.run_bind, ty_sizeOf hte, Result.andThen_ok]
        have := hp w'
        rw [hl] at this
        exact this
      · cases hev
    · cases hev
  case field t x f =>
    simp only [evP] at hev
    split at hev
    · rename_i a off u ha hf
      split at hev
      · rename_i y hag hg
        cases hev
        obtain ⟨r, h1, h2⟩ := field_run hf hag (getTV_sound h ha) hg
        exact ⟨r, Does.of (by simp only [execOp, hop]) h1.steady, h2⟩
      · cases hev
    · cases hev
  case build t parts =>
    simp only [evP] at hev
    split at hev
    · rename_i u i hu hi
      split at hev
      · rename_i z hz hst
        have hag := Ty.isSt_agg hst
        split at hev
        · rename_i y hzc hmk
          cases hev
          obtain ⟨c0, hc0, hr0⟩ := zeroChk_rep (w := w) (M := Mut cx m st.ids) u hzc
          rw [List.append_nil] at hc0
          obtain ⟨i', hi', hsz, hf⟩ := tyOf_facts hu
          have hstruct : ∃ fs d', cx.P.underlying t = some (.struct fs) ∧ fieldsOf (tyOf cx.P d') 0 fs.toList = some u := by
            cases u <;> first | exact hf | (simp [Ty.isSt] at hst)
          obtain ⟨fs, d', hfs, hfo⟩ := hstruct
          obtain ⟨cs', hfill, hrep⟩ := fill_sound hfs h rfl (place := fun k => (fs.map fun f => (f.offset, cx.P.cellsOf f.type))[k]?) (fun k off fu hfi => by
            obtain ⟨fs2, fd, h1, h2, h3, h4, h5⟩ := fieldInfo_facts hfi
            have : fs2 = fs := by rw [hfs] at h1; cases h1; rfl
            subst this
            obtain ⟨i3, hi3, hs3, _⟩ := tyOf_facts h3
            rw [Array.getElem?_map, h2]
            simp [h4, Program.cellsOf, hi3, hs3]) parts.toList (zeroEl u) y c0 hr0 hmk
          refine ⟨.agg cs'.toArray, Does.of (by simp only [execOp, hop]) (s := Instr.build t (parts.map fun p => (p.1, Act.eval ⟨T, []⟩ p.2))) ?_, (repV_agg hag).2 ⟨cs', rfl, hrep⟩⟩
          intro w' _
          have hc0' : z.cells = c0.toArray := by rw [← hc0]
          refine run_build w' t _ _ ?_
          unfold Program.built
          simp only [hi, hfs, hz, places_of fs.toList (fun f hf => fieldsOf_size hfo f hf)]
          rw [hc0', Array.toList_map, ← hfill]
          congr 1
          funext k
          simp
        · cases hev
      · cases hev
    · cases hev
  case extract x i =>
    simp only [evP] at hev
    split at hev
    · rename_i l hx
      split at hev
      · rename_i v hv
        cases hev
        obtain ⟨vs, hvs, hr⟩ := getSV_sound h hx
        have key : ∀ (vs : List Value) (l : List TV) (i : Nat) (u : TV), repVs w (Mut cx m st.ids) vs l → l[i]? = some u → ∃ v, vs[i]? = some v ∧ repV w (Mut cx m st.ids) v u.t u.x := by
          intro vs
          induction vs with
          | nil => intro l i u hr hu; cases l with
            | nil => simp at hu
            | cons _ _ => exact hr.elim
          | cons v vs ih => intro l i u hr hu; cases l with
            | nil => exact hr.elim
            | cons u' l => cases i with
              | zero => simp at hu; subst hu; exact ⟨v, rfl, hr.1⟩
              | succ i => exact ih l i u hr.2 (by simpa using hu)
        obtain ⟨v', h1, h2⟩ := key vs l i v hr hv
        refine ⟨v', fun w' _ => ?_, h2⟩
        simp only [execOp, hop, hvs, Instr.extract]
        rw [List.getElem?_toArray, h1]
        rfl
      · cases hev
    · rename_i l hx
      have key : ∀ (vs : List Value) (l : List TR) (i : Nat) (u : TR), repTRs w (Mut cx m st.ids) m vs l → l[i]? = some u → ∃ v, vs[i]? = some v ∧ (match u with | .v u => repV w (Mut cx m st.ids) v u.t u.x | .r r => v = m r) := by
        intro vs
        induction vs with
        | nil => intro l i u hr hu; cases l with
          | nil => simp at hu
          | cons _ _ => exact hr.elim
        | cons v vs ih => intro l i u hr hu; cases l with
          | nil => exact hr.elim
          | cons u' l => cases i with
            | zero => simp at hu; subst hu; cases u' with
              | v _ => exact ⟨v, rfl, hr.1⟩
              | r _ => exact ⟨v, rfl, hr.1⟩
            | succ i => cases u' with
              | v _ => exact ih l i u hr.2 (by simpa using hu)
              | r _ => exact ih l i u hr.2 (by simpa using hu)
      obtain ⟨vs, hvs, hr⟩ := getSV_sound h hx
      split at hev
      · rename_i v hv
        cases hev
        obtain ⟨v', h1, h2⟩ := key vs l i _ hr hv
        refine ⟨v', fun w' _ => ?_, h2⟩
        simp only [execOp, hop, hvs, Instr.extract]
        rw [List.getElem?_toArray, h1]
        rfl
      · rename_i r hv
        cases hev
        obtain ⟨v', h1, h2⟩ := key vs l i _ hr hv
        refine ⟨v', fun w' _ => ?_, by cases (look st.bx r).isSome <;> exact h2⟩
        simp only [execOp, hop, hvs, Instr.extract]
        rw [List.getElem?_toArray, h1]
        rfl
      · cases hev
    · cases hev
  case nilCheck x =>
    simp only [evP] at hev
    split at hev
    · rename_i b off hx
      cases hev
      have hv := getSV_sound h hx
      obtain ⟨g, h1, h2⟩ := hv
      exact ⟨_, fun w' _ => by simp only [execOp, hop, h2]; rfl, g, h1, h2⟩
    · rename_i t y hx
      cases hev
      have hv := getSV_sound h hx
      obtain ⟨a, h1, h2⟩ := vptr_holds hv
      exact ⟨_, fun w' _ => by simp only [execOp, hop, h1]; rfl, h1 ▸ hv⟩
    · rename_i r i off sz hx
      cases hev
      have hv := getSV_sound h hx
      obtain ⟨g, n, cap, h1, h2⟩ := hv
      exact ⟨_, fun w' _ => by simp only [execOp, hop, h2]; rfl, g, n, cap, h1, h2⟩
    · rename_i b p hx
      cases hev
      have hv := getSV_sound h hx
      obtain ⟨g, h1, h2⟩ := hv
      exact ⟨_, fun w' _ => by simp only [execOp, hop, h2]; rfl, g, h1, h2⟩
    · cases hev
  case fieldAddr t x f =>
    simp only [evP] at hev
    split at hev
    · rename_i b off fo fu hx hf
      cases hev
      obtain ⟨g, h1, h2⟩ := getSV_sound h hx
      refine ⟨.pointer (some ⟨g, off + fo, none⟩), Does.of (by simp only [execOp, hop]) (s := Instr.fieldAt t (Act.eval ⟨T, []⟩ x) f) ?_, g, h1, rfl⟩
      intro w' _
      rw [h2, fieldAt_run hf, add_mk]
    · rename_i u y fo fu hx hf
      split at hev
      · rename_i z hz
        cases hev
        obtain ⟨a, h1, h2⟩ := vptr_holds (getSV_sound h hx)
        refine ⟨.pointer (some (a.add fo)), Does.of (by simp only [execOp, hop]) (s := Instr.fieldAt t (Act.eval ⟨T, []⟩ x) f) ?_, holds_vptr (h2.part hz)⟩
        intro w' _
        rw [h1, fieldAt_run hf]
      · cases hev
    · rename_i r i off sz fo fu hx hf
      cases hev
      obtain ⟨g, n, cap, h1, h2⟩ := getSV_sound h hx
      refine ⟨.pointer (some ⟨g, i.toNat * sz + (off + fo), none⟩), Does.of (by simp only [execOp, hop]) (s := Instr.fieldAt t (Act.eval ⟨T, []⟩ x) f) ?_, g, n, cap, h1, rfl⟩
      intro w' _
      rw [h2, fieldAt_run hf, add_mk, Nat.add_assoc]
    · rename_i b p fo fu hx hf
      cases hev
      obtain ⟨g, h1, h2⟩ := getSV_sound h hx
      refine ⟨.pointer (some ⟨g, poff (p ++ [.f fo fu]), none⟩), Does.of (by simp only [execOp, hop]) (s := Instr.fieldAt t (Act.eval ⟨T, []⟩ x) f) ?_, g, h1, rfl⟩
      intro w' _
      rw [h2, fieldAt_run hf, add_mk, poff_append]
      rfl
    · cases hev
  case indexAddr t x i =>
    simp only [evP] at hev
    split at hev
    · rename_i u xs n u' v orc' hx hi ht
      split at hev
      · rename_i y hb hy
        cases hev
        obtain ⟨k, hk⟩ := intOf?_sound h hi
        obtain ⟨h0, h1, h2⟩ := at?_some hob.1
        obtain ⟨a, cap, cells, hc, hcap, _, hnil, hL, hcell⟩ := (repV_plain (t := .sl u) rfl).1 (getSV_sound h hx)
        simp only [List.cons.injEq, and_true] at hc
        obtain ⟨c1, c2, c3, rfl, hl, hr⟩ := repL_nth hL h2
        obtain ⟨_, _, _, te, d', hte, hty⟩ := tyOf_facts ht
        obtain rfl := Ty.eq_of_beq hb
        have hne : ∃ b, a = some b := by
          cases a with
          | some b => exact ⟨b, rfl⟩
          | none =>
            have h3 : cap = 0 := hnil rfl
            have h4 : (List.length xs : Int) ≤ cap := by exact_mod_cast hcap
            have h5 : n < ((List.length xs : Nat) : Int) := h1
            omega
        obtain ⟨b, rfl⟩ := hne
        refine ⟨.pointer (some (b.add (n.toNat * u.cells))), Does.of (by simp only [execOp, hop]) (s := Instr.indexAt t (Act.eval ⟨T, []⟩ x) (Act.eval ⟨T, []⟩ i)) ?_, ?_⟩
        · intro w' _
          have hlt : n < ((List.length xs : Nat) : Int) := h1
          simp only [hc, hk, Instr.indexAt, asIntOf, Sem.run_bind, Sem.run_pure, Result.andThen_ok, run_underlying hte]
          rw [if_pos ⟨h0, hlt⟩]
          simp only [Sem.run_bind, ty_sizeOf hty, Result.andThen_ok, Sem.run_pure]
        · refine holds_vptr ⟨c2, hr, fun j v hj => ?_⟩
          have hj2 := (List.getElem?_eq_some_iff.1 hj).1
          have hk2 : (c1 ++ c2 ++ c3)[n.toNat * u.cells + j]? = some v := by
            rw [List.append_assoc, List.getElem?_append_right (by omega), List.getElem?_append_left (by omega), ← hj]
            congr 1
            omega
          obtain ⟨b', hb1, hb2, hb3⟩ := hcell _ _ hk2
          cases hb1
          exact ⟨by rw [add_add]; exact hb2, by rw [add_block]; exact hb3⟩
      · cases hev
    · rename_i r n u' v orc' hx hi ht
      split at hev
      · rename_i c hc
        split at hev
        · rename_i y hb hy
          cases hev
          obtain ⟨k, hk⟩ := intOf?_sound h hi
          obtain ⟨h0, h1, h2⟩ := at?_some hob.1
          obtain ⟨_, _, _, te, d', hte, hty⟩ := tyOf_facts ht
          have hty' : tyOf cx.P d' te = some c.t := by rw [Ty.eq_of_beq hb]; exact hty
          have hv : Act.eval ⟨T, []⟩ x = m r := getSV_sound h hx
          obtain ⟨cells, hown, _⟩ := h.rows r c (look_mem hc)
          rcases hown.2 with ⟨hn, hz⟩ | ⟨g, cap, cur, hn, _⟩
          · omega
          · refine ⟨.pointer (some ⟨g, n.toNat * c.t.cells + 0, none⟩), Does.of (by simp only [execOp, hop]) (s := Instr.indexAt t (Act.eval ⟨T, []⟩ x) (Act.eval ⟨T, []⟩ i)) ?_, g, _, cap, hn, rfl⟩
            intro w' _
            simp only [hv, hn, hk, Instr.indexAt, asIntOf, Sem.run_bind, Sem.run_pure, Result.andThen_ok, run_underlying hte]
            rw [if_pos ⟨h0, h1⟩]
            simp only [Sem.run_bind, ty_sizeOf hty', Result.andThen_ok, Sem.run_pure, add_mk, Nat.zero_add, Nat.add_zero]
        · cases hev
      · cases hev
    · rename_i k u xs n k' u' v orc' hx hi ht
      split at hev
      · rename_i y hb hy
        cases hev
        simp only [Bool.and_eq_true] at hb
        obtain rfl := Nat.eq_of_beq_eq_true hb.1
        obtain rfl := Ty.eq_of_beq hb.2
        obtain ⟨q, hq⟩ := intOf?_sound h hi
        obtain ⟨h0, h1, h2⟩ := at?_some hob.1
        obtain ⟨_, _, _, e, d', hu, hu'⟩ := tyOf_facts ht
        obtain ⟨a, hv, cs, ⟨hr1, hr2⟩, hcell⟩ := vptr_holds (getSV_sound h hx)
        obtain ⟨c1, c2, c3, rfl, hl, hr⟩ := repL_nth hr2 h2
        refine ⟨.pointer (some (a.add (n.toNat * u.cells))), Does.of (by simp only [execOp, hop]) (s := Instr.indexAt t (Act.eval ⟨T, []⟩ x) (Act.eval ⟨T, []⟩ i)) (fun w' _ => ?_), ?_⟩
        · rw [hv, hq]
          exact indexAt_arr hu hu' h0 (by rw [← hr1]; exact h1) w'
        · refine holds_vptr ⟨c2, hr, fun j v hj => ?_⟩
          have hj2 := (List.getElem?_eq_some_iff.1 hj).1
          have hk2 : (c1 ++ c2 ++ c3)[n.toNat * u.cells + j]? = some v := by
            rw [List.append_assoc, List.getElem?_append_right (by omega), List.getElem?_append_left (by omega), ← hj]
            congr 1
            omega
          obtain ⟨hb2, hb3⟩ := hcell _ _ hk2
          exact ⟨by rw [add_add]; exact hb2, by rw [add_block]; exact hb3⟩
      · cases hev
    · rename_i b p n len u hx hi ht
      cases hev
      obtain ⟨q, hq⟩ := intOf?_sound h hi
      obtain ⟨_, _, _, e, d', hu, hu'⟩ := tyOf_facts ht
      obtain ⟨g, hg1, hg2⟩ := getSV_sound h hx
      refine ⟨.pointer (some ⟨g, poff (p ++ [.x n u.cells]), none⟩), Does.of (by simp only [execOp, hop]) (s := Instr.indexAt t (Act.eval ⟨T, []⟩ x) (Act.eval ⟨T, []⟩ i)) (fun w' _ => ?_), g, hg1, rfl⟩
      rw [hg2, hq, indexAt_arr hu hu' hob.1.1 hob.1.2 w', add_mk, poff_append]
      rfl
    · rename_i b off n len u hx hi ht
      cases hb : (decide (0 ≤ n) && decide (n < (len : Int))) <;> rw [hb] at hev <;> cases hev
      simp only [Bool.and_eq_true, decide_eq_true_eq] at hb
      obtain ⟨q, hq⟩ := intOf?_sound h hi
      obtain ⟨_, _, _, e, d', hu, hu'⟩ := tyOf_facts ht
      obtain ⟨g, hg1, hg2⟩ := getSV_sound h hx
      refine ⟨.pointer (some ⟨g, off + n.toNat * u.cells, none⟩), Does.of (by simp only [execOp, hop]) (s := Instr.indexAt t (Act.eval ⟨T, []⟩ x) (Act.eval ⟨T, []⟩ i)) (fun w' _ => ?_), g, hg1, rfl⟩
      rw [hg2, hq, indexAt_arr hu hu' hb.1 hb.2 w', add_mk]
    · rename_i r i0 off0 sz n len u hx hi ht
      split at hev
      · rename_i c hc
        split at hev
        · rename_i v orc2 hb
          split at hev
          · rename_i y hy
            cases hev
            simp only [Bool.and_eq_true, beq_iff_eq] at hb
            obtain ⟨hb1, hb2, hb3, hb4⟩ := hb
            have hb3 := Nat.eq_of_beq_eq_true hb3
            have hb4 := Nat.eq_of_beq_eq_true hb4
            obtain ⟨k, hk⟩ := intOf?_sound h hi
            obtain ⟨h0, h1, h2⟩ := at?_some hob.1
            have hlen : c.xs.length = len := hob.2.1
            obtain ⟨_, _, _, e, d', hu, hu'⟩ := tyOf_facts ht
            obtain rfl := Ty.eq_of_beq hb1
            obtain ⟨g, n0, cap, hn, hv⟩ := getSV_sound h hx
            have hv : Act.eval ⟨T, []⟩ x = .pointer (some ⟨g, 0, none⟩) := by rw [hv, hb2, hb3]; simp
            refine ⟨.pointer (some ⟨g, n.toNat * c.t.cells + 0, none⟩), Does.of (by simp only [execOp, hop]) (s := Instr.indexAt t (Act.eval ⟨T, []⟩ x) (Act.eval ⟨T, []⟩ i)) (fun w' _ => ?_), g, _, cap, hn, rfl⟩
            have hlt : n < (len : Int) := by rw [← hlen]; exact h1
            rw [hv, hk, indexAt_arr hu hu' h0 hlt w', add_mk, Nat.zero_add, Nat.add_zero]
          · cases hev
        · cases hev
        · rename_i orc2 hb0
          cases hb : (decide (0 ≤ n) && decide (n < (len : Int))) <;> rw [hb] at hev <;> cases hev
          simp only [Bool.and_eq_true, decide_eq_true_eq] at hb
          obtain ⟨q, hq⟩ := intOf?_sound h hi
          obtain ⟨_, _, _, e, d', hu, hu'⟩ := tyOf_facts ht
          obtain ⟨g, n0, cap, hn, hv⟩ := getSV_sound h hx
          refine ⟨.pointer (some ⟨g, i0.toNat * sz + (off0 + n.toNat * u.cells), none⟩), Does.of (by simp only [execOp, hop]) (s := Instr.indexAt t (Act.eval ⟨T, []⟩ x) (Act.eval ⟨T, []⟩ i)) (fun w' _ => ?_), g, _, cap, hn, rfl⟩
          rw [hv, hq, indexAt_arr hu hu' hb.1 hb.2 w', add_mk, Nat.add_assoc]
      · cases hev
    · cases hev
  case load t x =>
    simp only [evP] at hev
    split at hev
    · rename_i u y u' hx ht
      split at hev
      · rename_i hb hz
        cases hev
        obtain ⟨a, h1, h2⟩ := vptr_holds (getSV_sound h hx)
        have hp : 0 < u.cells := Nat.pos_of_ne_zero (beq_false hz)
        obtain rfl := Ty.eq_of_beq hb
        obtain ⟨v, h3, h4⟩ := load_sound ht h2 hp
        refine ⟨v, Does.of (by simp only [execOp, hop]) (s := Instr.loadAt t (Act.eval ⟨T, []⟩ x)) ?_, h4⟩
        intro w' he
        simp only [Instr.loadAt, h1, Instr.sureAddr, Sem.run_bind, Sem.run_pure, Result.andThen_ok]
        exact h3 w' he
      · cases hev
    · cases hev
  case slice t x lo hi mx =>
    cases mx with
    | some _ => simp only [evP] at hev; cases hev
    | none =>
      simp only [evP] at hev
      split at hev
      · rename_i s r orc' hx
        split at hev
        · rename_i l hh ht hl hhi
          cases hev
          obtain ⟨hv, hlen⟩ := repV_str.1 (getSV_sound h hx)
          have hs := slice_str ht (loSV_sound h hl) (hiSV_sound h hhi) hob.1
          refine ⟨.string (bytesOf r), Does.of (by simp only [execOp, hop, hv]; rfl) hs.steady, repV_str.2 ⟨rfl, ?_⟩⟩
          exact Nat.le_trans (sub?_len hob.1) hlen
        · cases hev
      · rename_i u xs v orc' hx
        split at hev
        · rename_i u' l hh r ht hl hhi hr
          cases hb : u.beq u' with
          | false => rw [hb] at hev; cases hev
          | true =>
            rw [hb] at hev
            cases hev
            obtain rfl := Ty.eq_of_beq hb
            obtain ⟨_, _, _, te, d', hte, hty⟩ := tyOf_facts ht
            obtain ⟨v', h1, h2⟩ := slice_val hte hty ((repV_plain (t := .sl u) rfl).1 (getSV_sound h hx)) (loSV_sound h hl) (hiSV_sound h hhi) hob.1
            exact ⟨v', Does.of (by simp only [execOp, hop]; rfl) h1.steady, (repV_plain (t := .sl u) rfl).2 h2⟩
        · cases hev
      · cases hev
  case call c =>
    simp only [evP] at hev
    split at hev
    · rename_i c' args ts
      split at hev
      · rename_i x t hx ht
        split at hev
        · rename_i s hs
          split at hev
          · rename_i n hn
            cases hev
            have hl := lenOf_sound h (getSV_sound h hs) hn (ty' := o.type)
            have ea : args = #[x] := by rw [← Array.toArray_toList (xs := args), hx]
            have et : ts = #[t] := by rw [← Array.toArray_toList (xs := ts), ht]
            subst ea
            subst et
            refine ⟨.int .i64 n, fun w' he => ?_, repV_int.2 rfl⟩
            simp only [execOp, hop, resolve, invoke, builtin, Sem.run_bind, Sem.run_pure, Result.andThen_ok, List.map_toArray, List.map_cons, List.map_nil, hl w' he]
          · cases hev
        · cases hev
      · cases hev
    · rename_i args ts
      split at hev
      · rename_i r hr
        cases hev
        obtain ⟨x, y, k, a, b, ea, hx, hy, e⟩ := mx2_sound h hr
        subst ea
        subst e
        refine ⟨.int k (mxI a b), fun w' he => ?_, repV_int.2 rfl⟩
        simp only [execOp, hop, resolve, invoke, builtin, Sem.run_bind, Sem.run_pure, Result.andThen_ok, List.map_toArray, List.map_cons, List.map_nil, hx, hy, run_max_int2]
        rfl
      · cases hev
    · rename_i args ts
      split at hev
      · rename_i r hr
        cases hev
        obtain ⟨x, y, k, a, b, ea, hx, hy, e⟩ := mx2_sound h hr
        subst ea
        subst e
        refine ⟨.int k (mnI a b), fun w' he => ?_, repV_int.2 rfl⟩
        simp only [execOp, hop, resolve, invoke, builtin, Sem.run_bind, Sem.run_pure, Result.andThen_ok, List.map_toArray, List.map_cons, List.map_nil, hx, hy, run_min_int2]
        rfl
      · cases hev
    · cases hev
  case makeInterface t x =>
    simp only [evP] at hev
    cases hc : cx.P.concrete t with
    | false => rw [hc] at hev; cases hev
    | true =>
      rw [hc, cond_true] at hev
      cases hev
      refine ⟨_, Does.of (by simp only [execOp, hop]) (s := Instr.makeInterface t (Act.eval ⟨T, []⟩ x)) (fun w' _ => run_makeInterface w' t _ hc), (repV_plain (t := .err) rfl).2 ?_⟩
      unfold mkErr
      split
      · rename_i k n hx
        cases hk : kbeq k .i64 with
        | true =>
          obtain rfl := keq hk
          have := repV_int.1 (getTV_sound h hx)
          exact .inr (.inr ⟨t, n, rfl, by rw [this]⟩)
        | false => exact .inr (.inl ⟨rfl, _, _, rfl⟩)
      · exact .inr (.inl ⟨rfl, _, _, rfl⟩)
  case lookup mt x k ok =>
    simp only [evP] at hev
    unfold evLk at hev
    split at hev
    · rename_i mv kt et key hx hmt hk
      split at hev
      · rename_i ku vu ky hku hvu hky
        obtain ⟨s, hs, hmv⟩ := Option.bind_eq_some_iff.1 hx
        have hkv := getTV_sound h hk
        have ekey := TV.as_some hky
        subst ekey
        obtain ⟨z, _, hz, hzr'⟩ := zeroV_facts hvu
        have fin : (ku.beq mv.k && vu.beq mv.v && eqOK cx.P 16 kt) = true → ∃ r, repV w (Mut cx m st.ids) r mv.v ((mget (eqEl mv.k) mv.ps ky).getD (zeroEl mv.v)) ∧ ∀ w', Ext w w' → ∀ ok, (Instr.lookup mt (Act.eval ⟨T, []⟩ x) (Act.eval ⟨T, []⟩ k) ok).run cx.P w' = .ok (if ok then .tuple #[r, .bool (mget (eqEl mv.k) mv.ps ky).isSome] else r) w' := by
          intro hb
          simp only [Bool.and_eq_true] at hb
          have e1 := Ty.eq_of_beq hb.1.1
          have e2 := Ty.eq_of_beq hb.1.2
          subst e1
          subst e2
          rcases mapOf_sound h (getSV_sound h hs) hmv with ⟨hn, hp⟩ | ⟨g, es, clock, hn, hg, hr⟩
          · obtain ⟨r, h1, h2⟩ := lookup_val (w' := w) (M' := Mut cx m st.ids) (d := dep) (d' := 16) hmt hku hb.2 (by decide) hz hzr' hkv (es := #[]) (ps := mv.ps) (by rw [hp]; trivial)
            exact ⟨r, h1, fun w' _ => h2 w' _ (.inl ⟨hn, rfl⟩)⟩
          · obtain ⟨r, h1, h2⟩ := lookup_val (d := dep) (d' := 16) hmt hku hb.2 (by decide) hz hzr' hkv hr
            exact ⟨r, h1, fun w' he => h2 w' _ (.inr ⟨g, clock, hn, by rw [he.block g (heap_some_lt hg)]; exact hg⟩)⟩
        split at hev
        · rename_i hb
          cases hev
          obtain ⟨r, h1, h2⟩ := fin hb
          exact ⟨.tuple #[r, .bool (mget (eqEl mv.k) mv.ps ky).isSome], Does.of (by simp only [execOp, hop]) (fun w' he => h2 w' he true), [r, .bool (mget (eqEl mv.k) mv.ps ky).isSome], rfl, h1, repV_bool.2 rfl, trivial⟩
        · rename_i hb
          cases hev
          obtain ⟨r, h1, h2⟩ := fin hb
          exact ⟨r, Does.of (by simp only [execOp, hop]) (fun w' he => h2 w' he false), h1⟩
        · cases hev
      · cases hev
    · cases hev
  all_goals (simp only [evP] at hev; cases hev)

end Go.Ev
