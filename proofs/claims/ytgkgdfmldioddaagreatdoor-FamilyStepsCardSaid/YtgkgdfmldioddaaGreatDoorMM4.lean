/- Owned slices whose elements hold owned slices: pointers, lengths; given up; all of these operations. -/
import Derived.Test.YtgkgdfmldioddaaGreatDoorMM3
import Derived.Lib.Repeat
import Derived.Shelf.Unicode.DecodeAny
import Derived.Test.YtgkgdfmldioddaaGreatDoorMM1
import Derived.Lib.LaidU8
import Derived.StillTail
import Derived.Laws.IdiomRangeMap
set_option linter.unusedSectionVars false
set_option linter.unusedVariables false
set_option linter.unusedSimpArgs false
namespace Go.Ev
open Go Go.RowKit
variable [Dr]
variable {cx : Cx} {m m' : Nat -> Value} {st st' : St} {T : Array Value} {w w' : World}
def trOf : List SV -> Option (List TR)
 | [] => some []
 | .val t x :: l => match trOf l with
  | some r => some (.v ⟨t, x⟩ :: r)
  | none => none
 | .row b :: l => match trOf l with
  | some r => some (.r b :: r)
  | none => none
 | _ => none
theorem trOf_rep {M : Nat -> Prop} : ∀ {cs : List Value} {l : List SV} {r : List TR}, trOf l = some r -> repSs w M m cs l -> repTRs w M m cs r
 | [], [], r, h, _ => by cases h; trivial
 | [], _ :: _, _, _, h => h.elim
 | _ :: _, [], _, _, h => h.elim
 | c :: cs, s :: l, r, h, ⟨h1, h2⟩ => by
  unfold trOf at h
  split at h
  ·rename_i e; cases e
  ·rename_i t x l' e
   cases e
   split at h
   ·rename_i r' hr; cases h; exact ⟨h1, trOf_rep hr h2⟩
   ·cases h
  ·rename_i b l' e
   cases e
   split at h
   ·rename_i r' hr; cases h; exact ⟨h1, trOf_rep hr h2⟩
   ·cases h
  ·cases h
def TR.isRow : TR -> Bool
 | .r _ => true
 | _ => false
def saLoad (P : Program) (st : St) (t : TypeId) (x : Operand) (orc : List TV) : Option PR :=
 match getSV st x, ty P t with
 | some (.ptr b off), some u => match look st.bx b, u.agg with
  | some (.cells l _), true => match trOf ((l.drop off).take u.cells), Nat.beq ((l.drop off).take u.cells).length u.cells with
   | some r, true => bif r.any TR.isRow then some ⟨.sa r, orc, []⟩ else none
   | _, _ => none
  | _, _ => none
 | _, _ => none
theorem saLoad_sound (h : Rm cx m st T w) {t : TypeId} {x : Operand} {orc : List TV} {pr : PR} (hev : saLoad cx.P st t x orc = some pr) :
  ∃ v, (∀ w', Ext w w' -> (Instr.loadAt t (Act.eval ⟨T, []⟩ x)).run cx.P w' = .ok v w') /\ repS w (Mut cx m st.ids) m v pr.sv := by
 unfold saLoad at hev
 split at hev
 case h_2 => cases hev
 rename_i b off u hx ht
 split at hev
 case h_2 => cases hev
 rename_i l e hb hag
 split at hev
 case h_2 => cases hev
 rename_i r hr hl
 have hev : some (⟨.sa r, orc, []⟩ : PR) = some pr := by
  cases hany : r.any TR.isRow with
  | false => rw [hany] at hev; cases hev
  | true => rw [hany] at hev; exact hev
 cases hev
 have hl := Nat.eq_of_beq_eq_true hl
 obtain ⟨g, hg1, hg2⟩ := za6 h hx
 obtain ⟨g', e1, _, cells, e3, e4⟩ := h.box (zak hb)
 have : g' = g := by rw [hg1] at e1; cases e1; rfl
 subst this
 have e5 := (zbh u.cells (zbh off e4).2).1
 have hlen := zbg e5
 obtain ⟨v, hv1, hv2⟩ := load_raw (P := cx.P) (c := (cells.toList.drop off).take u.cells) (off := off) ht e3 (fun j v hj => by
  have hj0 := (List.getElem?_eq_some_iff.1 hj).1
  rw [List.getElem?_take_of_lt (by rw [List.length_take] at hj0; omega), List.getElem?_drop] at hj
  simpa using hj) (by rw [hlen, hl]) (fun hh => by rw [hag] at hh; cases hh)
 rw [hag, if_pos rfl] at hv2
 refine ⟨v, fun w' he => ?_, _, hv2, trOf_rep hr e5⟩
 rw [hg2]
 exact hv1 w' he
def rrQ (P : Program) (st : St) (o : Oper) (orc : List TV) : Option PR :=
 match o.op with
 | .indexAddr t x i => match getSV st x, intOf? (getSV st i), ty P t with
  | some (.osl b), some n, some (.sl u) => match look st.bx b with
   | some (.rr _ k xs _) => bif u.beq k.u then some ⟨.rrp b n 0 k.u.cells, orc, [0 <= n /\ n < (xs.length : Int)]⟩ else none
   | _ => none
  | some (.sub b i0), some n, some (.sl u) => match look st.bx b, orc with
   | some (.rr _ k xs none), a :: orc' => match a.as k.u, u.beq k.t with
    | some x1, true => match getT k.u x1 k.off (.sl k.t) with
     | some ys => some ⟨.ssp b i0 n 0 k.t.cells, orc', [at? xs i0 = some x1, 0 <= n /\ n < ((lst ys).length : Int)]⟩
     | none => none
    | _, _ => none
   | _, _ => none
  | _, _, _ => none
 | .fieldAddr t x f => match getSV st x, zbb P t f with
  | some (.rrp b i off sz), some (fo, _) => some ⟨.rrp b i (off + fo) sz, orc, []⟩
  | some (.ssp b i j off sz), some (fo, _) => some ⟨.ssp b i j (off + fo) sz, orc, []⟩
  | _, _ => none
 | .load t x => match rrLoad P st t x orc with
  | some r => some r
  | none => saLoad P st t x orc
 | .call c => match c.callee, c.args.toList, c.argTypes.toList with
  | .builtin .len, [x], [t] => match getSV st x, ty P t with
   | some (.osl b), some (.sl _) => match look st.bx b with
    | some (.rr _ _ xs _) => some ⟨.val (.int .i64) (xs.length : Int), orc, []⟩
    | _ => none
   | some (.sub b i), some (.sl _) => match look st.bx b, orc with
    | some (.rr _ k xs none), a :: orc' => match a.as k.u with
     | some x1 => match getT k.u x1 k.off (.sl k.t) with
      | some ys => some ⟨.val (.int .i64) ((lst ys).length : Int), orc', [at? xs i = some x1]⟩
      | none => none
     | none => none
    | _, _ => none
   | _, _ => none
  | _, _, _ => none
 | _ => none
def saCells (st : St) : List TR -> Option (List SV)
 | [] => some []
 | .v u :: l => match saCells st l, u.t.agg with
  | some r, false => some (.val u.t u.x :: r)
  | _, _ => none
 | .r b :: l => match saCells st l, look st.rw b with
  | some r, some _ => some (.row b :: r)
  | _, _ => none
 | .a :: _ => none
theorem saCells_rep (h : Rm cx m st T w) {M : Nat -> Prop} : ∀ {vs : List Value} {l : List TR} {r : List SV}, saCells st l = some r -> repTRs w M m vs l -> repSs w M m vs r /\ (∀ v ∈ vs, v.oneCell' = true) /\ r.length = l.length
 | [], [], r, hs, _ => by cases hs; exact ⟨trivial, (fun v hv => by cases hv), rfl⟩
 | [], x :: _, _, _, h => by cases x <;> exact h.elim
 | _ :: _, [], _, _, h => h.elim
 | v :: vs, .v u :: l, r, hs, ⟨h1, h2⟩ => by
  unfold saCells at hs
  split at hs
  ·rename_i r' hr hag
   cases hs
   obtain ⟨k1, k2, k3⟩ := saCells_rep h hr h2
   refine ⟨⟨h1, k1⟩, fun x hx => ?_, by simp [k3]⟩
   rcases List.mem_cons.1 hx with rfl | hx
   ·exact zah u.t ((za3 hag).1 h1) _ (by simp)
   ·exact k2 x hx
  ·cases hs
 | v :: vs, .r b :: l, r, hs, ⟨h1, h2⟩ => by
  unfold saCells at hs
  split at hs
  ·rename_i r' c hr hc
   cases hs
   obtain ⟨k1, k2, k3⟩ := saCells_rep h hr h2
   refine ⟨⟨h1, k1⟩, fun x hx => ?_, by simp [k3]⟩
   rcases List.mem_cons.1 hx with rfl | hx
   ·rw [h1]; exact row_one h (zak hc)
   ·exact k2 x hx
  ·cases hs
 | v :: vs, .a :: l, r, hs, _ => by cases hs
def saStore (P : Program) (st : St) (t : TypeId) (x y : Operand) (orc : List TV) : Option (St × List TV × List Prop) :=
 match getSV st x, ty P t, getSV st y with
 | some (.ptr b off), some u, some (.sa l) => match look st.bx b, saCells st l, Nat.beq l.length u.cells with
  | some (.cells c e), some sv, true => bif Nat.ble (off + u.cells) c.length then some (st.setBox b (.cells (c.take off ++ sv ++ c.drop (off + u.cells)) e), orc, []) else none
  | _, _, _ => none
 | _, _, _ => none
theorem saStore_sound (h : Rm cx m st T w) {t : TypeId} {x y : Operand} {orc orc' : List TV} {st' : St} {ob : List Prop} (hev : saStore cx.P st t x y orc = some (st', orc', ob)) :
  ∃ w', (Instr.storeAt t (Act.eval ⟨T, []⟩ x) (Act.eval ⟨T, []⟩ y)).run cx.P w = .ok () w' /\ Rm cx m st' T w' := by
 unfold saStore at hev
 split at hev
 case h_2 => cases hev
 rename_i b off u l hx ht hy
 obtain ⟨g, hg1, hg2⟩ := za6 h hx
 split at hev
 case h_2 => cases hev
 rename_i c e sv hc hsv hl
 cases hb : Nat.ble (off + u.cells) c.length with
 | false => rw [hb] at hev; cases hev
 | true =>
  rw [hb] at hev
  cases hev
  have hle := Nat.le_of_ble_eq_true hb
  have hl := Nat.eq_of_beq_eq_true hl
  have hcm := zak hc
  obtain ⟨g', e1, _, cells, e3, e4⟩ := h.box hcm
  have : g' = g := by rw [hg1] at e1; cases e1; rfl
  subst this
  have hri : b ∈ st.ids := List.mem_append.2 (.inl (List.mem_map.2 ⟨_, hcm, rfl⟩))
  have hclen := zbg e4
  obtain ⟨vs, hv, hts⟩ := za6 h hy
  obtain ⟨k1, k2, k3⟩ := saCells_rep h hsv hts
  have hvl : vs.length = u.cells := by rw [zbg k1, k3, hl]
  have hcs : (Act.eval ⟨T, []⟩ y).cells = vs.toArray := by rw [hv]; rfl
  have hfit : off + u.cells <= cells.size := by rw [<- Array.length_toList, hclen]; exact hle
  have hrun := store_run (P := cx.P) (v := Act.eval ⟨T, []⟩ y) ht e3 (by rw [hcs]; simpa using hvl) hfit (by rw [hcs]; exact k2)
  refine ⟨_, by rw [hg2]; exact hrun, ?_⟩
  have hn : Touch m w b (w.setRow g' (cells.toList.take off ++ (Act.eval ⟨T, []⟩ y).cells.toList ++ cells.toList.drop (off + u.cells)).toArray) :=
   ⟨zbi _ _ _, fun k hk hne => setRow_other _ _ _ _ (fun e => hne (by rw [hg1, e]; rfl))⟩
  obtain ⟨hids, _⟩ := zar hcm h.keys (.cells (c.take off ++ sv ++ c.drop (off + u.cells)) e)
  obtain ⟨q1, q2⟩ := Rm.touch_keeps (cx := cx) hri hn hids
  refine h.setBox hcm hn (g := g') hg1 ⟨_, setRow_heap _ _ _ _ _ _ e3, ?_⟩
  simp only []
  have k1' : repSs w (Mut cx m st.ids) m (Act.eval ⟨T, []⟩ y).cells.toList sv := by rw [hcs]; exact k1
  exact zbf (zbf (repSs_ext q1 q2 (zbh off e4).1) (repSs_ext q1 q2 k1')) (repSs_ext q1 q2 (zbh (off + u.cells) e4).2)
def rrstep (E : Env) (st : St) (o : Oper) (orc : List TV) : Option (St × List TV × List Prop) :=
 match o.dst with
 | none => match o.op with
  | .store t x y => match rrStore E.P E.n st t x y orc with
   | some r => some r
   | none => saStore E.P st t x y orc
  | _ => none
 | some d => match Nat.blt d E.n with
  | false => none
  | true => match rrQ E.P st o orc with
   | some r => some (st.put d r.sv, r.orc, r.ob)
   | none => match o.op with
    | .call c => match c.callee, c.args.toList with
     | .builtin .append, [.tmp a, _] => match look st.sl a with
      | some (.sub b i) => match rrTake E.n st b i a d orc with
       | some (s, orc2, ob1) => match evO1 E s o orc2 with
        | some (s2, orc3, ob2) => some (s2, orc3, ob1 ++ ob2)
        | none => none
       | none => none
      | _ => none
     | _, _ => none
    | _ => none
theorem allP_app : ∀ {a b : List Prop}, allP (a ++ b) -> allP a /\ allP b
 | [], _, h => ⟨trivial, h⟩
 | _ :: _, _, ⟨h1, h2⟩ => ⟨⟨h1, (allP_app h2).1⟩, (allP_app h2).2⟩
theorem rrStore_sound (h : Rm cx m st T w) {t : TypeId} {x y : Operand} {orc orc' : List TV} {ob : List Prop} (hev : rrStore cx.P cx.n st t x y orc = some (st', orc', ob)) (hob : allP ob) :
  ∃ w' m', (Instr.storeAt t (Act.eval ⟨T, []⟩ x) (Act.eval ⟨T, []⟩ y)).run cx.P w = .ok () w' /\ Rm cx m' st' T w' := by
 unfold rrStore at hev
 split at hev
 ·rename_i b i off sz u' t' z hx ht hy
  split at hev
  case h_2 => cases hev
  rename_i e k xs a orc2 hb
  split at hev
  case h_2 => cases hev
  rename_i x1 _ hq
  simp only [Bool.and_eq_true, Bool.or_eq_true] at hq
  obtain ⟨⟨q1, q2⟩, q3⟩ := hq
  split at hev
  case h_2 => cases hev
  rename_i x2 x0 h2 h0
  split at hev
  case h_2 => cases hev
  rename_i x3 h3
  cases hev
  have q1 := Nat.eq_of_beq_eq_true q1
  subst q1
  obtain rfl := Ty.eq_of_beq q2
  obtain ⟨w', h1, h2⟩ := rrStore_plain h hb hx ht hy (q3.elim (fun h => .inl (Nat.le_of_ble_eq_true h)) fun h => .inr (zax h)) h2 h0 h3 hob.1 hob.2.1 hob.2.2.1
  exact ⟨w', m, h1, h2⟩
 ·rename_i b i j off sz u' t' z hx ht hy
  split at hev
  case h_2 => cases hev
  rename_i e k xs a c orc2 hb
  split at hev
  case h_2 => cases hev
  rename_i x1 z0 _ _ hq
  simp only [Bool.and_eq_true] at hq
  obtain ⟨q1, q2⟩ := hq
  split at hev
  case h_2 => cases hev
  rename_i ys z1 hys hz1
  split at hev
  case h_2 => cases hev
  rename_i x2 hx2
  cases hev
  have q1 := Nat.eq_of_beq_eq_true q1
  subst q1
  obtain rfl := Ty.eq_of_beq q2
  obtain ⟨w', h1, h2⟩ := rrStore_in h hb hx ht hy hys hz1 hob.1 hob.2.1 hob.2.2.1 hob.2.2.2.1
  exact ⟨w', m, h1, h2⟩
 ·rename_i b i off sz u' r hx ht hy
  split at hev
  case h_2 => cases hev
  rename_i e k xs hh c a orc2 hb hr
  split at hev
  case h_2 => cases hev
  rename_i x1 ys _ hq hys
  simp only [Bool.and_eq_true, Bool.not_eq_true'] at hq
  obtain ⟨q1, q2, q3, q4, q6⟩ := hq
  split at hev
  case h_2 => cases hev
  rename_i x2 hx2
  cases hev
  have q1 := Nat.eq_of_beq_eq_true q1
  subst q1
  have q2 := Nat.eq_of_beq_eq_true q2
  subst q2
  obtain rfl := Ty.eq_of_beq q3
  have hc := rowC_eq (Nat.eq_of_beq_eq_true q4) hys
  rw [hc] at hr
  obtain ⟨⟨o1, o2, o3, _⟩, o4⟩ := allP_app hob
  exact rrStore_put h hb hr (zao q6) hx ht hy o1 o2 o3 (fun i0 hi => by subst hi; exact o4.1)
 ·cases hev
theorem rrQ_sound (h : Rm cx m st T w) {o : Oper} {orc : List TV} {r : PR} (hev : rrQ cx.P st o orc = some r) (hob : allP r.ob) :
  ∃ v, (∀ w', Ext w w' -> (execOp (Act.eval ⟨T, []⟩) o).run cx.P w' = .ok (.value v) w') /\ repS w (Mut cx m st.ids) m v r.sv := by
 have hm := h
 unfold rrQ at hev
 have fin : ∀ (v : Value) (sv : SV), (∀ w', (execOp (Act.eval ⟨T, []⟩) o).run cx.P w' = .ok (.value v) w') -> repS w (Mut cx m st.ids) m v sv -> sv = r.sv -> ∃ v, (∀ w', Ext w w' -> (execOp (Act.eval ⟨T, []⟩) o).run cx.P w' = .ok (.value v) w') /\ repS w (Mut cx m st.ids) m v r.sv :=
  fun v sv h1 h2 h3 => ⟨v, fun w' _ => h1 w', h3 ▸ h2⟩
 split at hev
 ·rename_i t x i hop
  split at hev
  ·rename_i b n u hx hi ht
   split at hev
   case h_2 => cases hev
   rename_i e k xs hh hb
   cases hq : u.beq k.u with
   | false => rw [hq] at hev; cases hev
   | true =>
    rw [hq] at hev
    cases hev
    obtain rfl := Ty.eq_of_beq hq
    obtain ⟨h0, h1⟩ := hob.1
    obtain ⟨hd0, us, cells, e1, e2, e3, e4⟩ := hm.rr hb
    have hpos : 0 < xs.length := by omega
    obtain ⟨g, cap, cur, hv, _⟩ := ownsRow_some e2 hpos
    subst hv
    obtain ⟨us2, e5⟩ := za6 hm hx
    have hxe : Act.eval ⟨T, []⟩ x = .slice (some ⟨g, 0, none⟩) xs.length cap := (tup_hd (e5.symm.trans e1)).1
    obtain ⟨kk, hkk⟩ := intOf?_sound hm hi
    obtain ⟨_, _, _, te, d2, hte, hty⟩ := zav ht
    refine fin (.pointer (some ⟨g, n.toNat * k.u.cells + 0, none⟩)) (.rrp b n 0 k.u.cells) (fun w' => zbk (s := Instr.indexAt t (Act.eval ⟨T, []⟩ x) (Act.eval ⟨T, []⟩ i)) (by simp only [execOp, hop]) ?_) ⟨g, _, cap, us, e1, rfl⟩ rfl
    have ea : (⟨g, 0, none⟩ : Addr).add (n.toNat * k.u.cells) = ⟨g, n.toNat * k.u.cells + 0, none⟩ := by rw [add_mk]; simp
    rw [hxe, hkk]
    simp only [Instr.indexAt, asIntOf, Sem.run_bind, Sem.run_pure, Result.andThen_ok, run_underlying hte]
    rw [if_pos ⟨h0, h1⟩]
    simp only [Sem.run_bind, zaw hty, Result.andThen_ok, Sem.run_pure, ea]
  ·rename_i b i0 n u hx hi ht
   split at hev
   case h_2 => cases hev
   rename_i e k xs a orc2 hb
   split at hev
   case h_2 => cases hev
   rename_i x1 _ hq
   split at hev
   case h_2 => cases hev
   rename_i ys hys
   cases hev
   obtain rfl := Ty.eq_of_beq hq
   obtain ⟨h0, h1⟩ := hob.2.1
   obtain ⟨g, cap, cur, us, c1, c, c2, u1, v, u2, f1, f2, f3, f4, f5, f6, f7, f8, f9, f10, f11, f12, f13, f14, f15⟩ := hm.rrAt hb (at?_get hob.1)
   obtain ⟨ys', cells, q1, q2, q3, q4⟩ := elR_in f13
   rw [hys] at q1
   cases q1
   have hpos : 0 < (lst ys).length := by omega
   obtain ⟨g2, cap2, cur2, hv, _⟩ := ownsRow_some q2 hpos
   obtain ⟨r0, us0, t2, t3⟩ := za6 hm hx
   have hxe : Act.eval ⟨T, []⟩ x = v := by
    rw [f1] at t2
    rw [<- (tup_hd t2).2, f10, <- f11] at t3
    simpa using t3.symm
   obtain ⟨kk, hkk⟩ := intOf?_sound hm hi
   obtain ⟨_, _, _, te, d2, hte, hty⟩ := zav ht
   refine fin (.pointer (some ⟨g2, n.toNat * k.t.cells + 0, none⟩)) (.ssp b i0 n 0 k.t.cells) (fun w' => zbk (s := Instr.indexAt t (Act.eval ⟨T, []⟩ x) (Act.eval ⟨T, []⟩ i)) (by simp only [execOp, hop]) ?_) ⟨r0, us0, g2, _, cap2, t2, by rw [t3, hxe, hv], rfl⟩ rfl
   have ea : (⟨g2, 0, none⟩ : Addr).add (n.toNat * k.t.cells) = ⟨g2, n.toNat * k.t.cells + 0, none⟩ := by rw [add_mk]; simp
   rw [hxe, hv, hkk]
   simp only [Instr.indexAt, asIntOf, Sem.run_bind, Sem.run_pure, Result.andThen_ok, run_underlying hte]
   rw [if_pos ⟨h0, h1⟩]
   simp only [Sem.run_bind, zaw hty, Result.andThen_ok, Sem.run_pure, ea]
  ·cases hev
 ·rename_i t x f hop
  split at hev
  ·rename_i b i off sz fo fu hx hf
   cases hev
   obtain ⟨g, n, cap, us, e1, e2⟩ := za6 hm hx
   refine fin (.pointer (some ⟨g, i.toNat * sz + (off + fo), none⟩)) (.rrp b i (off + fo) sz) (fun w' => zbk (s := Instr.fieldAt t (Act.eval ⟨T, []⟩ x) f) (by simp only [execOp, hop]) ?_) ⟨g, n, cap, us, e1, rfl⟩ rfl
   rw [e2, zbc hf, add_mk, Nat.add_assoc]
  ·rename_i b i j off sz fo fu hx hf
   cases hev
   obtain ⟨r0, us, g, n, cap, e1, e2, e3⟩ := za6 hm hx
   refine fin (.pointer (some ⟨g, j.toNat * sz + (off + fo), none⟩)) (.ssp b i j (off + fo) sz) (fun w' => zbk (s := Instr.fieldAt t (Act.eval ⟨T, []⟩ x) f) (by simp only [execOp, hop]) ?_) ⟨r0, us, g, n, cap, e1, e2, rfl⟩ rfl
   rw [e3, zbc hf, add_mk, Nat.add_assoc]
  ·cases hev
 ·rename_i t x hop
  split at hev
  ·rename_i r' hr
   cases hev
   obtain ⟨v, hrun, hv⟩ := rrLoad_sound hm hr hob
   exact ⟨v, fun w' he => zbk (by simp only [execOp, hop]) (hrun w' he), hv⟩
  ·obtain ⟨v, hrun, hv⟩ := saLoad_sound hm hev
   exact ⟨v, fun w' he => zbk (by simp only [execOp, hop]) (hrun w' he), hv⟩
 ·rename_i c hop
  split at hev
  ·rename_i x t hc ha hts
   obtain ⟨callee, args, ts⟩ := c
   simp only at hc ha hts
   subst hc
   have ea : args = #[x] := by rw [<- Array.toArray_toList (xs := args), ha]
   have et : ts = #[t] := by rw [<- Array.toArray_toList (xs := ts), hts]
   subst ea
   subst et
   have len : ∀ (a : Option Addr) (n cap : Nat) (k2 : TypeId), Act.eval ⟨T, []⟩ x = .slice a n cap -> cx.P.underlying t = some (.slice k2) -> ∀ w', (execOp (Act.eval ⟨T, []⟩) o).run cx.P w' = .ok (.value (.int .i64 (n : Int))) w' := by
    intro a n cap k2 hv hu w'
    simp only [execOp, hop, resolve, invoke, builtin, Sem.run_bind, Sem.run_pure, Result.andThen_ok, List.map_toArray, List.map_cons, List.map_nil, hv]
    simp [Builtin.len_, run_underlying hu, goInt]
   split at hev
   ·rename_i b u hx ht
    split at hev
    case h_2 => cases hev
    rename_i e k xs hh hb
    cases hev
    obtain ⟨hd0, us, cells, e1, e2, e3, e4⟩ := hm.rr hb
    obtain ⟨us2, e5⟩ := za6 hm hx
    have hxe : Act.eval ⟨T, []⟩ x = hd0 := (tup_hd (e5.symm.trans e1)).1
    obtain ⟨_, _, _, te, d2, hte, hty⟩ := zav ht
    rcases e2.2 with ⟨hv, hz⟩ | ⟨g, cap, cur, hv, _⟩
    ·refine fin (.int .i64 (xs.length : Int)) (.val (.int .i64) (xs.length : Int)) ?_ (za0.2 rfl) rfl
     intro w'
     rw [hz]
     exact len none 0 0 te (by rw [hxe, hv]) hte w'
    ·exact fin (.int .i64 (xs.length : Int)) (.val (.int .i64) (xs.length : Int)) (len _ _ _ te (by rw [hxe, hv]) hte) (za0.2 rfl) rfl
   ·rename_i b i u hx ht
    split at hev
    case h_2 => cases hev
    rename_i e k xs a orc2 hb
    split at hev
    case h_2 => cases hev
    rename_i x1 _
    split at hev
    case h_2 => cases hev
    rename_i ys hys
    cases hev
    obtain ⟨g, cap, cur, us, c1, c, c2, u1, v, u2, f1, f2, f3, f4, f5, f6, f7, f8, f9, f10, f11, f12, f13, f14, f15⟩ := hm.rrAt hb (at?_get hob.1)
    obtain ⟨ys', cells, q1, q2, q3, q4⟩ := elR_in f13
    rw [hys] at q1
    cases q1
    obtain ⟨r0, us0, t2, t3⟩ := za6 hm hx
    have hxe : Act.eval ⟨T, []⟩ x = v := by
     rw [f1] at t2
     rw [<- (tup_hd t2).2, f10, <- f11] at t3
     simpa using t3.symm
    obtain ⟨_, _, _, te, d2, hte, hty⟩ := zav ht
    rcases q2.2 with ⟨hv, hz⟩ | ⟨g, cap, cur, hv, _⟩
    ·refine fin (.int .i64 ((lst ys).length : Int)) (.val (.int .i64) ((lst ys).length : Int)) ?_ (za0.2 rfl) rfl
     intro w'
     rw [show (lst ys).length = 0 from hz]
     exact len none 0 0 te (by rw [hxe, hv]) hte w'
    ·exact fin (.int .i64 ((lst ys).length : Int)) (.val (.int .i64) ((lst ys).length : Int)) (len _ _ _ te (by rw [hxe, hv]) hte) (za0.2 rfl) rfl
   ·cases hev
  ·cases hev
 ·cases hev
theorem rrstep_sound {E : Env} (hE : EnvOK E cx) (h : R cx st T w) {o : Oper} {orc : List TV} {st' : St} {orc' : List TV} {ob : List Prop} (hev : rrstep E st o orc = some (st', orc', ob)) (hob : allP ob)
  {K : Act -> World -> Prop} {Q : Exit -> Act -> World -> Prop} (hK : ∀ T' w', R cx st' T' w' -> K ⟨T', []⟩ w') : o.wp cx.P ⟨T, []⟩ w K Q := by
 obtain ⟨m, hm⟩ := h
 unfold rrstep at hev
 split at hev
 ·rename_i hd
  split at hev
  case h_2 => cases hev
  rename_i t x y hop
  rw [<- hE.P, <- hE.n] at hev
  obtain ⟨w', m', hrun, hR⟩ : ∃ w' m', (Instr.storeAt t (Act.eval ⟨T, []⟩ x) (Act.eval ⟨T, []⟩ y)).run cx.P w = .ok () w' /\ Rm cx m' st' T w' := by
   split at hev
   ·rename_i r hr
    cases hev
    exact rrStore_sound hm hr hob
   ·obtain ⟨w', k1, k2⟩ := saStore_sound hm hev
    exact ⟨w', m, k1, k2⟩
  unfold Oper.wp
  have hr : (execOp (Act.eval ⟨T, []⟩) o).run cx.P w = .ok .skip w' := by
   simp only [execOp, hop, Sem.run_bind, hrun, Result.andThen_ok, Sem.run_pure]
  rw [hr]
  show K (Act.put ⟨T, []⟩ o.dst undef) w'
  rw [hd]
  exact hK T w' ⟨m', hR⟩
 ·rename_i d hd
  split at hev
  case h_1 => cases hev
  rename_i hdn
  have hlt : d < cx.n := by rw [hE.n]; exact zax hdn
  split at hev
  ·rename_i r hr
   cases hev
   rw [<- hE.P] at hr
   obtain ⟨v, hrun, hv⟩ := rrQ_sound hm hr hob
   refine zbn (hrun w (Ext.refl w)) ?_
   rw [hd]
   exact hK _ _ ⟨m, hm.put hlt hv⟩
  split at hev
  ·rename_i c hop
   split at hev
   ·rename_i a y hc ha
    split at hev
    case h_2 => cases hev
    rename_i b i hs
    split at hev
    case h_2 => cases hev
    rename_i s1 orc2 ob1 ht
    split at hev
    case h_2 => cases hev
    rename_i s2 orc3 ob2 ho
    cases hev
    obtain ⟨h1, h2⟩ := allP_app hob
    rw [<- hE.n] at ht
    obtain ⟨m', hm'⟩ := rrTake_sound hm hs ht h1
    exact evO1_sound hE ⟨m', hm'⟩ ho h2 hK
   ·cases hev
  ·cases hev
end Go.Ev
namespace Go.Ev
open Go Go.RowKit
variable [Dr]
variable {cx : Cx} {m m' : Nat -> Value} {st st' : St} {T : Array Value} {w w' : World}
theorem sl_val {M : Nat -> Prop} {e : Nat} {t : Ty} {v : Value} {cells : List Value} {xs : List t.el} (h : w.ownsRow 0 e t.cells v xs.length cells) (hr : repL (rep w M t) cells xs) (hno : ∀ g, blk v = some g -> ¬ M g) : rep w M (.sl t) [v] xs := by
 rcases h.2 with ⟨hv, hn⟩ | ⟨g, cap, cur, hv, _, hh, hle, hmax, hsz, htk⟩
 ·have hx : xs = [] := List.eq_nil_of_length_eq_zero hn
  rw [hx, hv]
  exact ⟨none, 0, [], rfl, Nat.le_refl _, by decide, fun _ => rfl, rfl, fun j u hj => by simp at hj⟩
 ·exact ⟨some ⟨g, 0, none⟩, cap, cells, by rw [hv], hle, hmax, (fun e => by cases e), hr, fun j u hj => ⟨_, rfl, h.cells (g := g) (by rw [hv]; rfl) j u hj, hno g (by rw [hv]; rfl)⟩⟩
theorem TV.as_of {t : Ty} {a x y : t.el} (h : TV.as ⟨t, a⟩ t = some y) : TV.as ⟨t, x⟩ t = some x := by
 have hb : t.beq t = true := by
  unfold TV.as at h
  split at h
  ·assumption
  ·cases h
 unfold TV.as
 split
 ·rfl
 ·rename_i hb2; rw [hb] at hb2; cases hb2
theorem setT_back : ∀ (t : Ty) {x x0 : t.el} {off : Nat} {e : Ty} {a ys : List e.el}, setT t x off ⟨.sl e, a⟩ = some x0 -> getT t x off (.sl e) = some ys -> setT t x0 off ⟨.sl e, ys⟩ = some x := by
 intro t
 induction t with
 | sl t ih =>
  intro x x0 off e a ys h1 h2
  obtain ⟨rfl, e1⟩ := zaz (t := .sl t) h1
  obtain ⟨_, e2⟩ := zay (t := .sl t) h2
  cases e1
  cases e2
  exact TV.as_of (t := .sl t) h1
 | int k => intro x x0 off e a ys h1; obtain ⟨_, e1⟩ := zaz (t := .int k) h1; cases e1
 | bool => intro x x0 off e a ys h1; obtain ⟨_, e1⟩ := zaz (t := .bool) h1; cases e1
 | str => intro x x0 off e a ys h1; obtain ⟨_, e1⟩ := zaz (t := .str) h1; cases e1
 | ptr t ih => intro x x0 off e a ys h1; obtain ⟨_, e1⟩ := zaz (t := .ptr t) h1; cases e1
 | fn f t ih => intro x x0 off e a ys h1; obtain ⟨_, e1⟩ := zaz (t := .fn f t) h1; cases e1
 | err => intro x x0 off e a ys h1; obtain ⟨_, e1⟩ := zaz (t := .err) h1; cases e1
 | opq => intro x x0 off e a ys h1; obtain ⟨_, e1⟩ := zaz (t := .opq) h1; cases e1
 | map p q _ _ => intro x x0 off e a ys h1; obtain ⟨_, e1⟩ := zaz (t := .map p q) h1; cases e1
 | unit => intro x x0 off e a ys h1; obtain ⟨_, e1⟩ := zaz (t := .unit) h1; cases e1
 | arr n t ih =>
  intro x x0 off e a ys h1 h2
  unfold setT at h1 ⊢
  unfold getT at h2
  split at h1
  ·rename_i y hb hy; have := TV.as_some hy; cases this
  ·split at h2
   ·rename_i y hb hy; obtain ⟨_, e2⟩ := zay (t := .arr n t) (off := 0) (by rw [show Nat.beq 0 0 = true from rfl, cond_true]; exact hy); cases e2
   split
   ·rename_i y hb hy; have := TV.as_some hy; cases this
   cases hz : Nat.beq t.cells 0 with
   | true => rw [hz] at h1; cases h1
   | false =>
    rw [hz, cond_false] at h1 h2
    rw [cond_false]
    split at h1
    ·rename_i z hx
     rw [hx] at h2
     split at h1
     ·rename_i z' hz'
      cases h1
      have hlt := (List.getElem?_eq_some_iff.1 hx).1
      have hget : (List.set (show List t.el from x) (off / t.cells) z')[off / t.cells]? = some z' := by rw [List.getElem?_set_self hlt]
      simp only [] at h2
      have := ih hz' h2
      split
      ·rename_i z2 hz2
       have e2 : z2 = z' := by rw [hget] at hz2; cases hz2; rfl
       subst e2
       rw [this]
       exact congrArg some ((List.set_set ..).trans (set_same hx))
      ·rename_i hz2
       rw [hget] at hz2
       cases hz2
     ·cases h1
    ·cases h1
 | pair p q ihp ihq =>
  intro x x0 off e a ys h1 h2
  unfold setT at h1 ⊢
  unfold getT at h2
  split at h1
  ·rename_i y hb hy; have := TV.as_some hy; cases this
  ·split at h2
   ·rename_i y hb hy; obtain ⟨_, e2⟩ := zay (t := .pair p q) (off := 0) (by rw [show Nat.beq 0 0 = true from rfl, cond_true]; exact hy); cases e2
   split
   ·rename_i y hb hy; have := TV.as_some hy; cases this
   cases hl : Nat.blt off p.cells with
   | true =>
    rw [hl, cond_true] at h1 h2
    rw [cond_true]
    split at h1
    ·rename_i y hy
     cases h1
     rw [ihp hy h2]
     rfl
    ·cases h1
   | false =>
    rw [hl, cond_false] at h1 h2
    rw [cond_false]
    split at h1
    ·rename_i y hy
     cases h1
     rw [ihq hy h2]
     rfl
    ·cases h1
theorem rrIn_val {M M' : Nat -> Prop} {k : RK} (hM : ∀ b, b < w.heap.size -> M' b -> M b) : ∀ {xs : List k.u.el} {n : Nat} {cs us : List Value}, (∀ u, u ∈ us -> ∀ g, blk u = some g -> ¬ M' g) -> rrIn w M k none n xs cs us -> repL (rep w M' k.u) cs xs
 | [], _, cs, us, _, ⟨h, _⟩ => h
 | x :: xs, n, cs, us, hno, ⟨c, d, v, vs, e1, e2, e3, e4, e5⟩ => by
  subst e3
  refine ⟨c, d, e1, ?_, rrIn_val hM (fun u hu => hno u (List.mem_cons_of_mem _ hu)) e5⟩
  obtain ⟨L, v1, x0, q1, q2, q3, q4, q5, q6, q7⟩ := e4
  obtain ⟨rfl, ys, cells, r1, r2, r3⟩ := q7 fun ⟨_, h, _⟩ => by cases h
  have hv : rep w M' (.sl k.t) [v] ys := sl_val r2 (zab (fun _ _ => rep_ext (fun _ _ _ => rfl) hM k.t) r3) (hno v List.mem_cons_self)
  obtain ⟨c1, c2, c3, a1, a2, a3, a4⟩ := setT_rep (v := ⟨.sl k.t, ys⟩) hv k.u (rep_ext (fun _ _ _ => rfl) hM k.u q5) (setT_back k.u q4 r1)
  obtain ⟨z, rfl⟩ := List.length_eq_one_iff.1 (show c2.length = 1 from a3)
  rw [q1, a1, <- a2]
  have : (c1 ++ [z] ++ c3).set c1.length v = c1 ++ [v] ++ c3 := by simp
  rw [this]
  exact a4
def SV.freezeR (b : Nat) (k : RK) (xs : List k.u.el) : SV -> SV
 | .osl c => bif Nat.beq c b then .val (.sl k.u) xs else .osl c
 | s => s.scrubL [b]
def St.freezeRr (st : St) (b : Nat) (k : RK) (xs : List k.u.el) : St := st.exch [b] [] [] (SV.freezeR b k xs)
theorem Rm.freezeRr (h : Rm cx m st T w) {b e : Nat} {k : RK} {xs : List k.u.el} (hb : look st.bx b = some (.rr e k xs none)) : Rm cx m (st.freezeRr b k xs) T w := by
 obtain ⟨hd, us, cells, e1, e2, e3, e4⟩ := h.rr hb
 have hbi : b ∈ st.ids := List.mem_append.2 (.inl (List.mem_map.2 ⟨_, zak hb, rfl⟩))
 have X : Exch cx m m st w w [b] [] [] := ⟨⟨rfl, rfl, rfl, Nat.le_refl _, fun _ => Nat.le_refl _⟩, fun _ _ _ => rfl, fun _ _ _ => rfl, fun i hi => (by rcases hi with hi | hi <;> cases hi), fun i j hi => (by rcases hi with hi | hi <;> cases hi), List.nodup_nil, fun i hi => (by rcases hi with hi | hi <;> cases hi), fun _ _ hi _ => (by cases hi), fun _ _ hi => (by cases hi)⟩
 have hno : ∀ g, own (m b) g -> ¬ Mut cx m (st.freezeRr b k xs).ids g := by
  rintro g hg (hA | ⟨i, hi, hgi⟩)
  ·have h1 := h.outer g hA
   rcases (h.lt hbi hg).2 with h2 | h2
   ·omega
   ·exact h1.2 h2
  ·rcases exch_ids.1 hi with (hi | hi) | ⟨hi, hn⟩
   ·cases hi
   ·cases hi
   ·exact h.apart i b hi hbi (fun e => hn (by rw [e]; exact List.mem_singleton.2 rfl)) g hgi hg
 refine h.exchM X (fun v s hs => ?_) (fun _ _ hi => (by cases hi)) (fun _ _ hi => (by cases hi))
 have dflt : repS w (Mut cx m (st.freezeRr b k xs).ids) m v (s.scrubL [b]) := scrubL_rep (fun _ _ => rfl) hs
 cases s with
 | osl c =>
  show repS _ _ _ _ (bif Nat.beq c b then .val (.sl k.u) xs else .osl c)
  cases hc : Nat.beq c b with
  | false => exact hs
  | true =>
   have e := Nat.eq_of_beq_eq_true hc
   subst e
   obtain ⟨us2, e5⟩ := hs
   have e6 := (tup_hd (e5.symm.trans e1)).1
   subst e6
   refine sl_val e2 (rrIn_val (fun _ _ hm => X.mut _ ‹_› hm) (fun u hu g hg => hno g ?_) e3) fun g hg => hno g ?_
   ·rw [e1]; exact own_tup.2 (.inr ⟨u, hu, hg⟩)
   ·rw [e1]; exact own_tup.2 (.inl hg)
 | _ => exact dflt
def rrFz : St -> List Operand -> St
 | st, [] => st
 | st, x :: l => rrFz (match getSV st x with
  | some (.osl b) => match look st.bx b with
   | some (.rr _ k xs none) => st.freezeRr b k xs
   | _ => st
  | _ => st) l
theorem rrFz_sound : ∀ {l : List Operand} {st : St}, Rm cx m st T w -> Rm cx m (rrFz st l) T w
 | [], _, h => h
 | x :: l, st, h => by
  refine rrFz_sound (l := l) ?_
  split
  ·split
   ·rename_i hb; exact h.freezeRr hb
   ·exact h
  ·exact h
def freezeRs : List (Nat × BX) -> St -> St
 | [], st => st
 | (b, _) :: l, st => freezeRs l (match look st.bx b with | some (.rr _ k xs none) => st.freezeRr b k xs | _ => st)
theorem freezeRs_sound : ∀ {l : List (Nat × BX)} {st : St}, Rm cx m st T w -> Rm cx m (freezeRs l st) T w
 | [], _, h => h
 | (b, c) :: l, st, h => by
  refine freezeRs_sound (l := l) ?_
  split
  ·rename_i hb; exact h.freezeRr hb
  ·exact h
def svOf (off : Nat) (t : Ty) : Nat -> List TR -> Option (List SV)
 | _, [] => some []
 | n, .v u :: l => match svOf off t (n + 1) l with
  | some r => some (.val u.t u.x :: r)
  | none => none
 | n, .r _ :: l => match Nat.beq n off, svOf off t (n + 1) l with
  | true, some r => some (.val (.sl t) [] :: r)
  | _, _ => none
 | _, _ => none
theorem svOf_rep {M : Nat -> Prop} {off b : Nat} {t : Ty} : ∀ {n : Nat} {cs : List Value} {l : List TR} {r : List SV}, svOf off t n l = some r -> repTRs w M m cs l ->
  (n <= off -> l[off - n]? = some (.r b) -> repSs w M m (cs.set (off - n) (.slice none 0 0)) r) /\ (off < n -> repSs w M m cs r)
 | n, [], [], r, h, _ => by cases h; exact ⟨fun _ h => by simp at h, fun _ => trivial⟩
 | n, [], x :: _, _, _, h => by cases x <;> exact h.elim
 | n, _ :: _, [], _, _, h => h.elim
 | n, c :: cs, .v u :: l, r, h, ⟨h1, h2⟩ => by
  unfold svOf at h
  split at h
  ·rename_i r' hr
   cases h
   obtain ⟨k1, k2⟩ := svOf_rep (b := b) hr h2
   refine ⟨fun hn hl => ?_, fun hn => ⟨h1, k2 (by omega)⟩⟩
   by_cases he : n = off
   ·subst he; simp at hl
   ·have e : off - n = (off - (n + 1)) + 1 := by omega
    rw [e] at hl ⊢
    exact ⟨h1, k1 (by omega) (by simpa using hl)⟩
  ·cases h
 | n, c :: cs, .r b' :: l, r, h, ⟨h1, h2⟩ => by
  unfold svOf at h
  split at h
  ·rename_i r' hb hr
   cases h
   have e := Nat.eq_of_beq_eq_true hb
   subst e
   obtain ⟨k1, k2⟩ := svOf_rep (b := b) hr h2
   refine ⟨fun _ _ => ?_, fun hn => absurd hn (Nat.lt_irrefl _)⟩
   rw [Nat.sub_self]
   exact ⟨(za3 (t := .sl t) rfl).2 ⟨none, 0, [], rfl, Nat.le_refl _, by decide, fun _ => rfl, rfl, fun j v hj => by simp at hj⟩, k2 (Nat.lt_succ_self _)⟩
  ·cases h
 | n, _ :: _, .a :: _, _, h, _ => by cases h
theorem repTRs_get {M : Nat -> Prop} : ∀ {cs : List Value} {l : List TR} {i b : Nat}, repTRs w M m cs l -> l[i]? = some (.r b) -> cs[i]? = some (m b)
 | [], [], i, b, _, h => by simp at h
 | [], x :: _, _, _, h, _ => by cases x <;> exact h.elim
 | _ :: _, [], _, _, h, _ => h.elim
 | c :: cs, x :: l, 0, b, h, hi => by
  simp at hi
  subst hi
  rw [h.1]
  rfl
 | c :: cs, x :: l, i + 1, b, h, hi => by
  have h2 : repTRs w M m cs l := by cases x with
   | v u => exact h.2
   | r r => exact h.2
   | a => exact h
  have := repTRs_get (i := i) h2 (by simpa using hi)
  simpa using this
end Go.Ev
namespace Go.Ev
open Go Go.RowKit
variable [Dr]
variable {cx : Cx} {m m' : Nat -> Value} {st st' : St} {T : Array Value} {w w' : World}
def rrLit (P : Program) (st : St) (o : Oper) (d : Nat) : Option (St × List Prop) :=
 match o.op with
 | .buildSlice t n ps => match ps.toList, n with
  | [(0, x)], 1 => match getSV st x, elemOf? P t with
   | some (.sa l), some (e, u) => match rkOf P e, zeroOf P e with
    | some k, some _ => match l[k.off]?, svOf k.off k.t 0 l, u.beq k.u && Nat.ble u.cells 16777216 with
     | some (.r r), some svs, true => match look st.rw r, pack k.u svs with
      | some c, some (x0, []) => match TV.as ⟨.sl c.t, c.xs⟩ (.sl k.t), Nat.beq c.e k.e with
       | some ys, true => match setT k.u x0 k.off ⟨.sl k.t, ys⟩ with
        | some x1 => some ((st.exch [d, r] [(d, .rr e k [x1] none)] [] (SV.scrubL [d, r])).put d (.osl d), [setT k.u x1 k.off ⟨.sl k.t, []⟩ = some x0, getT k.u x1 k.off (.sl k.t) = some ys])
        | none => none
       | _, _ => none
      | _, _ => none
     | _, _, _ => none
    | _, _ => none
   | _, _ => none
  | _, _ => none
 | _ => none
theorem rrLit_sound (h : Rm cx m st T w) {o : Oper} {d : Nat} (hd : d < cx.n) {ob : List Prop} (hev : rrLit cx.P st o d = some (st', ob)) (hob : allP ob) :
  ∃ v w' m', (execOp (Act.eval ⟨T, []⟩) o).run cx.P w = .ok (.value v) w' /\ Rm cx m' st' (T.setIfInBounds d v) w' := by
 unfold rrLit at hev
 split at hev
 case h_2 => cases hev
 rename_i t n ps ho
 split at hev
 case h_2 => cases hev
 rename_i x hps
 split at hev
 case h_2 => cases hev
 rename_i l e u hx he
 split at hev
 case h_2 => cases hev
 rename_i k uz hk hz
 split at hev
 case h_2 => cases hev
 rename_i r svs hr hsv hq
 split at hev
 case h_2 => cases hev
 rename_i c x0 hc hp
 split at hev
 case h_2 => cases hev
 rename_i ys hys hce
 split at hev
 case h_2 => cases hev
 rename_i x1 hx1
 cases hev
 simp only [Bool.and_eq_true] at hq
 obtain rfl := Ty.eq_of_beq hq.1
 have hcap := Nat.le_of_ble_eq_true hq.2
 obtain ⟨ob1, ob2, _⟩ := hob
 have hcc := rowC_eq (Nat.eq_of_beq_eq_true hce) hys
 subst hcc
 obtain ⟨vs, hv, hts⟩ := za6 h hx
 have hvr := repTRs_get hts hr
 have hsr := (svOf_rep (b := r) hsv hts).1 (Nat.zero_le _) hr
 rw [Nat.sub_zero] at hsr
 obtain ⟨c1, c2, hc1, hrep, hc2⟩ := pack_rep k.u hsr hp
 have hc2 : c2 = [] := List.eq_nil_of_length_eq_zero (zbg hc2)
 subst hc2
 rw [List.append_nil] at hc1
 subst hc1
 have hlen : vs.length = k.u.cells := by rw [<- zag k.u hrep, List.length_set]
 obtain ⟨cells, hown, hout, hL⟩ := h.rows r _ (zak hc)
 have hri : r ∈ st.ids := List.mem_append.2 (.inr (List.mem_map.2 ⟨_, zak hc, rfl⟩))
 have hone := row_one h (zak hc)
 obtain ⟨hu, hty, hpos⟩ := elemOf?_facts he
 obtain ⟨iz, zz, _, hiz, _, hzz, hzr⟩ := zbd hz
 -- the run
 have hrun : (execOp (Act.eval ⟨T, []⟩) o).run cx.P w = .ok (.value (.slice (some ⟨w.heap.size, 0, none⟩) 1 1)) (w.alloc (.cells vs.toArray e)) := by
  refine zbk (s := Instr.buildSlice t 1 (ps.map fun p => (p.1, Act.eval ⟨T, []⟩ p.2))) (by simp only [execOp, ho]) ?_
  have hcap' : ¬ (1 * k.u.cells > 2 ^ 24) := by omega
  have h0 : ¬ (1 * k.u.cells = 0) := by omega
  have hzv : (zeroValue e).run cx.P w = .ok zz w := by simp [zeroValue, typeInfo, hiz, hzz]
  have hpl : (ps.map fun p => (p.1, Act.eval ⟨T, []⟩ p.2)).toList = [(0, Value.agg vs.toArray)] := by rw [Array.toList_map, hps]; simp [hv]
  have hf : ∀ z : Array Value, z.size = k.u.cells -> Instr.fill (fun i => some (i * k.u.cells, k.u.cells)) z [(0, Value.agg vs.toArray)] = some vs.toArray := by
   intro z hzs
   rw [Instr.fill]
   simp only []
   have hcs : (Value.agg vs.toArray).cells = vs.toArray := rfl
   rw [hcs, if_neg (by simp [hlen, hzs]), Instr.fill]
   have := lay_part0 vs [] [] z.toList (by rw [Array.length_toList, hzs, hlen])
   simp at this
   simp [this]
  simp only [Instr.buildSlice, Sem.run_bind, run_underlying hu, Result.andThen_ok, zaw hty, if_neg hcap', if_neg h0, hzv, Sem.run_pure, hpl]
  rw [hf _ (by simp)]
  simp only [Sem.run_bind, Sem.run_pure, Result.andThen_ok, newRow, run_newObj_alloc]
 have hrow : (w.alloc (.cells vs.toArray e)).ownsRow 0 e k.u.cells (.slice (some ⟨w.heap.size, 0, none⟩) 1 1) [x1].length vs :=
  ⟨by simp [hlen], .inr ⟨w.heap.size, 1, vs.toArray, rfl, Nat.zero_le _, heap_alloc_new w _, Nat.le_refl _, by decide, by simp [hlen], by simp [<- hlen]⟩⟩
 obtain ⟨v2, hv2⟩ : ∃ v2, v2 = Value.tuple (.slice (some ⟨w.heap.size, 0, none⟩) 1 1 :: [m r]).toArray := ⟨_, rfl⟩
 have hex : Ext w (w.alloc (.cells vs.toArray e)) := zbj _ _
 have hrb : ∀ b, blk (m r) = some b -> b < w.heap.size := fun b hb => (h.lt hri (zal hb)).1
 have X : Exch cx m (upd m d v2) st w (w.alloc (.cells vs.toArray e)) [d, r] [(d, .rr e k [x1] none)] [] := {
  same := hex.toSame
  block := fun kk hk _ => hex.block kk hk
  old := fun j _ hj => zan _ _ fun e => hj (by simp [e])
  new := fun j hj kk hk => by
   have : j = d := by simpa using hj
   subst this
   rw [zam, hv2] at hk
   rcases own_tup.1 hk with hk | ⟨u, hu, hk⟩
   ·cases hk; exact .inr ⟨Nat.le_refl _, by simp⟩
   ·have : u = m r := by simpa using hu
    subst this
    exact .inl ⟨r, by simp, hri, zal hk⟩
  apart := fun j j' hj hj' hne => by
   have : j = d := by simpa using hj
   have : j' = d := by simpa using hj'
   omega
  keys := by simp
  disj := fun j hj _ => by
   have : j = d := by simpa using hj
   simp [this]
  bn := fun b' c' hb' h1 => by simp at hb'; rw [hb'.2] at h1; cases h1
  rn := fun r' c' hr' => by cases hr' }
 refine ⟨_, _, upd m d v2, hrun, (h.exch X (fun M v s hs => scrubL_rep (fun j hj => zan _ _ fun e => hj (by simp [e])) hs) (fun b' c' hb' => ?_) (fun r' c' hr' => by cases hr')).put hd ⟨[m r], by rw [zam, hv2]⟩⟩
 simp only [List.mem_cons, Prod.mk.injEq, List.not_mem_nil, or_false] at hb'
 obtain ⟨rfl, rfl⟩ := hb'
 rw [zam]
 have km := X.mut (f := SV.scrubL [b', r])
 have kw := X.keeps
 refine ⟨0, ⟨_, _, hv2⟩, _, [m r], vs, hv2, hrow, ⟨vs, [], m r, [], by simp, hlen, rfl, ?_, rfl, rfl⟩, ?_⟩
 ·refine ⟨vs.set k.off (.slice none 0 0), m r, x0, ?_, ?_, hone, ob1, rep_ext kw km k.u hrep, (fun ⟨_, h1, _⟩ => by cases h1), fun _ => ⟨rfl, ys, cells, ob2, ownsRow_same hown fun b hb => hex.block b (hrb b hb), zab (fun _ _ => rep_ext kw km k.t) hL⟩⟩
  ·rw [List.set_set, set_same hvr]
  ·rw [List.getElem?_set_self (List.getElem?_eq_some_iff.1 hvr).1]
 ·have hbk : blk (Value.slice (some ⟨w.heap.size, 0, none⟩) 1 1) = some w.heap.size := rfl
  cases hbm : blk (m r) with
  | none => rw [List.filterMap_cons_some hbk, List.filterMap_cons_none hbm]; exact List.nodup_cons.2 ⟨by simp, List.nodup_nil⟩
  | some b =>
   have := hrb b hbm
   rw [List.filterMap_cons_some hbk, List.filterMap_cons_some hbm]
   exact List.nodup_cons.2 ⟨by simp; omega, List.nodup_cons.2 ⟨by simp, List.nodup_nil⟩⟩
def rkEq (k k2 : RK) : Bool := k2.u.beq k.u && (Nat.beq k2.off k.off && (Nat.beq k2.e k.e && k2.t.beq k.t))
theorem rkEq_eq {k k2 : RK} (h : rkEq k k2 = true) : k2 = k := by
 obtain ⟨u, off, e, t⟩ := k
 obtain ⟨u2, off2, e2, t2⟩ := k2
 simp only [rkEq, Bool.and_eq_true] at h
 obtain ⟨h1, h2, h3, h4⟩ := h
 obtain rfl := Ty.eq_of_beq h1
 obtain rfl := Ty.eq_of_beq h4
 rw [Nat.eq_of_beq_eq_true h2, Nat.eq_of_beq_eq_true h3]
theorem isOut_none {n : Nat} : ¬ isOut none n := fun ⟨_, h, _⟩ => by cases h
theorem rrIn_app {M : Nat -> Prop} {k : RK} : ∀ {xs ys : List k.u.el} {n n2 : Nat} {cs cs2 us us2 : List Value}, rrIn w M k none n xs cs us -> rrIn w M k none n2 ys cs2 us2 -> rrIn w M k none n (xs ++ ys) (cs ++ cs2) (us ++ us2)
 | [], ys, n, n2, cs, cs2, us, us2, ⟨h1, h2⟩, hy => by
  subst h1
  subst h2
  have key : ∀ {ys : List k.u.el} {n n2 : Nat} {cs us : List Value}, rrIn w M k none n2 ys cs us -> rrIn w M k none n ys cs us := by
   intro ys
   induction ys with
   | nil => intro n n2 cs us h; exact h
   | cons y ys ih =>
    rintro n n2 cs us ⟨c, d, v, vs, e1, e2, e3, e4, e5⟩
    exact ⟨c, d, v, vs, e1, e2, e3, elR_map (fun _ _ _ => rfl) (fun _ _ h => h) ⟨fun h => absurd h isOut_none, fun h => absurd h isOut_none⟩ (fun _ _ => rfl) e4, ih e5⟩
  exact key hy
 | x :: xs, ys, n, n2, cs, cs2, us, us2, ⟨c, d, v, vs, e1, e2, e3, e4, e5⟩, hy => by
  subst e1
  subst e3
  exact ⟨c, d ++ cs2, v, vs ++ us2, by simp, e2, rfl, e4, rrIn_app e5 hy⟩
theorem rrIn_one {M : Nat -> Prop} {k : RK} : ∀ {xs : List k.u.el} {n : Nat} {cs us : List Value}, rrIn w M k none n xs cs us -> ∀ v ∈ cs, v.oneCell' = true
 | [], n, cs, us, ⟨h, _⟩, v, hv => by subst h; cases hv
 | x :: xs, n, cs, us, ⟨c, d, u, vs, e1, e2, e3, e4, e5⟩, v, hv => by
  subst e1
  rcases List.mem_append.1 hv with hv | hv
  ·obtain ⟨L, v1, x0, q1, q2, q3, q4, q5, _⟩ := e4
   rw [q1] at hv
   rcases List.mem_or_eq_of_mem_set hv with hv | rfl
   ·exact zah k.u q5 v hv
   ·exact q3
  ·exact rrIn_one e5 v hv
def rrApp (P : Program) (st : St) (c : Call) (d : Nat) : Option (St × List Prop) :=
 match c.callee, c.args.toList, c.argTypes.toList with
 | .builtin .append, [.tmp a, y], [t, t'] => match look st.sl a, getSV st y with
  | some (.osl b), some (.osl b2) => match look st.bx b, look st.bx b2, elemOf? P t, elemOf? P t' with
   | some (.rr e k xs none), some (.rr e2 k2 xs2 none), some (e', u), some _ => match rkEq k k2 && (Nat.beq e e2 && (Nat.beq e e' && (u.beq k.u && (!(Nat.beq b b2) && bytesOK P e)))), TV.as ⟨.sl k2.u, xs2⟩ (.sl k.u), zeroOf P e with
    | true, some ys, some uz => match uz.beq k.u with
     | true => some ((st.exch [b, b2] [(b, .rr e k (xs ++ lst ys) none)] [] (SV.scrubL [b, b2])).put d (.osl b), [xs.length + (lst ys).length <= lim])
     | false => none
    | _, _, _ => none
   | _, _, _, _ => none
  | _, _ => none
 | _, _, _ => none
theorem rrApp_sound (h : Rm cx m st T w) {o : Oper} {c : Call} {d : Nat} (ho : o.op = .call c) (hd : d < cx.n) {ob : List Prop} (hev : rrApp cx.P st c d = some (st', ob)) (hob : allP ob) :
  ∃ v w' m', (execOp (Act.eval ⟨T, []⟩) o).run cx.P w = .ok (.value v) w' /\ Rm cx m' st' (T.setIfInBounds d v) w' := by
 unfold rrApp at hev
 split at hev
 case h_2 => cases hev
 rename_i a y t t' hc ha hts
 split at hev
 case h_2 => cases hev
 rename_i b b2 hsa hsy
 split at hev
 case h_2 => cases hev
 rename_i e k xs e2 k2 xs2 e' u eu2 hb hb2 he he2
 split at hev
 case h_2 => cases hev
 rename_i ys uz hq hys hz
 split at hev
 case h_2 => cases hev
 rename_i huz
 cases hev
 simp only [Bool.and_eq_true, Bool.not_eq_true'] at hq
 obtain ⟨q1, q2, q3, q4, q5, q6⟩ := hq
 have q1 := rkEq_eq q1
 subst q1
 have e0 := TV.as_some hys
 cases e0
 have q2 := Nat.eq_of_beq_eq_true q2
 subst q2
 have q3 := Nat.eq_of_beq_eq_true q3
 subst q3
 obtain rfl := Ty.eq_of_beq q4
 obtain rfl := Ty.eq_of_beq huz
 have hbb := zao q5
 have hob := hob.1
 obtain ⟨hu, hty, hp⟩ := elemOf?_facts he
 obtain ⟨e3, u3⟩ := eu2
 obtain ⟨hu2, _, _⟩ := elemOf?_facts he2
 obtain ⟨i, z, _, hi, hsz, hzz, hzr⟩ := zbd hz
 obtain ⟨i2, hi2, hbytes⟩ := bytesOK_facts q6
 rw [hi] at hi2
 cases hi2
 obtain ⟨hd1, us, cells, a1, a2, a3, a4⟩ := h.rr hb
 obtain ⟨hd2, us2, cells2, b1, b2', b3, b4⟩ := h.rr hb2
 have hbi : b ∈ st.ids := List.mem_append.2 (.inl (List.mem_map.2 ⟨_, zak hb, rfl⟩))
 have hbi2 : b2 ∈ st.ids := List.mem_append.2 (.inl (List.mem_map.2 ⟨_, zak hb2, rfl⟩))
 have hxe : Act.eval ⟨T, []⟩ (.tmp a) = hd1 := by
  obtain ⟨v, t1, us3, t2⟩ := h.slots a _ (zak hsa)
  rw [eval_tmp t1]
  exact (tup_hd (t2.symm.trans a1)).1
 have hye : Act.eval ⟨T, []⟩ y = hd2 := by
  obtain ⟨us3, t2⟩ := za6 h hsy
  exact (tup_hd (t2.symm.trans b1)).1
 have hzs : z.cells.size = i.size := by rw [hsz, <- zag k2.u (hzr w (Mut cx m st.ids))]; simp
 have hl2 := (rrIn_len b3).2
 have hle : xs.length + xs2.length <= maxLen := Nat.le_trans hob lim_max
 have hby : (xs.length + xs2.length) * i.bytes <= 140737488355328 := by
  have h1 : xs.length + xs2.length <= 2147483648 := hob
  calc (xs.length + xs2.length) * i.bytes <= 2147483648 * 65536 := Nat.mul_le_mul h1 hbytes
   _ = 140737488355328 := by decide
 have hlen2 : Builtin.lenOf hd2 = pure xs2.length := by
  rcases b2'.2 with ⟨hv, hn⟩ | ⟨g, cap, cur, hv, _⟩
  ·rw [hv, hn]; rfl
  ·rw [hv]; rfl
 have hnews : ∀ w', (∀ b, b < w.heap.size -> w'.heap[b]? = w.heap[b]?) -> (Builtin.firstCells i.size xs2.length hd2).run cx.P w' = .ok cells2.toArray w' := by
  intro w' hw
  rw [hsz]
  rcases b2'.2 with ⟨hv, hn⟩ | ⟨g, cap, cur, hv, _⟩
  ·have hx2 : xs2 = [] := List.eq_nil_of_length_eq_zero hn
   subst hx2
   have : cells2 = [] := b3.1
   subst this
   rw [hv]; rfl
  ·rw [hv]
   exact cells_load (b2'.cells (g := g) (by rw [hv]; rfl)) b2'.1 w' hw
 obtain ⟨v', w', hrun, hown', hsame, hkeep, hplace⟩ := run_append_gen (P := cx.P) (w := w) t t' o.type e i z hu (.inl ⟨_, hu2⟩) hi hzz hzs hd2 xs2.length cells2 hlen2 hnews (by rw [hsz]; exact hl2) (rrIn_one b3) hd1 xs.length cells (by rw [hsz]; exact a2) hle hby
 have hrun' : (execOp (Act.eval ⟨T, []⟩) o).run cx.P w = .ok (.value v') w' := by
  obtain ⟨callee, args, ts⟩ := c
  simp only at hc ha hts
  subst hc
  have ea : args = #[.tmp a, y] := by rw [<- Array.toArray_toList (xs := args), ha]
  have et : ts = #[t, t'] := by rw [<- Array.toArray_toList (xs := ts), hts]
  subst ea
  subst et
  simp only [execOp, ho, resolve, invoke, builtin, Sem.run_bind, Sem.run_pure, Result.andThen_ok, List.map_toArray, List.map_cons, List.map_nil, hxe, hye]
  simp only [hrun, Sem.run_bind, Sem.run_pure, Result.andThen_ok]
 have hub : ∀ u, u ∈ us -> ∀ g, blk u = some g -> own (m b) g := fun u hu g hg => by rw [a1]; exact own_tup.2 (.inr ⟨u, hu, hg⟩)
 have hub2 : ∀ u, u ∈ us2 -> ∀ g, blk u = some g -> own (m b2) g := fun u hu g hg => by rw [b1]; exact own_tup.2 (.inr ⟨u, hu, hg⟩)
 have hd1o : ∀ g, blk hd1 = some g -> own (m b) g := fun g hg => by rw [a1]; exact own_tup.2 (.inl hg)
 have k1 : ∀ u, u ∈ us -> ∀ g, blk u = some g -> blk hd1 ≠ some g := by
  intro u hu g hg hh
  rw [List.filterMap_cons_some hh] at a4
  exact (List.nodup_cons.1 a4).1 (List.mem_filterMap.2 ⟨u, hu, hg⟩)
 have k2' : ∀ u, u ∈ us2 -> ∀ g, blk u = some g -> blk hd1 ≠ some g := fun u hu g hg hh => h.apart b b2 hbi hbi2 hbb g (hd1o g hh) (hub2 u hu g hg)
 have hin : ∀ u, u ∈ us \/ u ∈ us2 -> ∀ g, blk u = some g -> g < w.heap.size /\ w'.heap[g]? = w.heap[g]? := by
  rintro u (hu | hu) g hg
  ·exact ⟨(h.lt hbi (hub u hu g hg)).1, hkeep g (h.lt hbi (hub u hu g hg)).1 (k1 u hu g hg)⟩
  ·exact ⟨(h.lt hbi2 (hub2 u hu g hg)).1, hkeep g (h.lt hbi2 (hub2 u hu g hg)).1 (k2' u hu g hg)⟩
 obtain ⟨v2, hv2⟩ : ∃ v2, v2 = Value.tuple (v' :: (us ++ us2)).toArray := ⟨_, rfl⟩
 have X : Exch cx m (upd m b v2) st w w' [b, b2] [(b, .rr e k2 (xs ++ xs2) none)] [] := {
  same := hsame
  block := fun kk hk hn => hkeep kk hk fun hh => hn b (by simp) hbi (hd1o kk hh)
  old := fun j _ hj => zan _ _ fun e => hj (by simp [e])
  new := fun j hj kk hk => by
   have : j = b := by simpa using hj
   subst this
   rw [zam, hv2] at hk
   rcases own_tup.1 hk with hk | ⟨u, hu, hk⟩
   ·rcases hplace kk hk with h1 | h1
    ·exact .inl ⟨j, by simp, hbi, hd1o kk h1⟩
    ·exact .inr h1
   ·rcases List.mem_append.1 hu with hu | hu
    ·exact .inl ⟨j, by simp, hbi, hub u hu kk hk⟩
    ·exact .inl ⟨b2, by simp, hbi2, hub2 u hu kk hk⟩
  apart := fun j j' hj hj' hne => by
   have : j = b := by simpa using hj
   have : j' = b := by simpa using hj'
   omega
  keys := by simp
  disj := fun j hj _ => by
   have : j = b := by simpa using hj
   simp [this]
  bn := fun b' c' hb' h1 => by simp at hb'; rw [hb'.2] at h1; cases h1
  rn := fun r' c' hr' => by cases hr' }
 refine ⟨_, _, upd m b v2, hrun', (h.exch X (fun M v s hs => scrubL_rep (fun j hj => zan _ _ fun e => hj (by simp [e])) hs) (fun b' c' hb' => ?_) (fun r' c' hr' => by cases hr')).put hd ⟨us ++ us2, by rw [zam, hv2]⟩⟩
 simp only [List.mem_cons, Prod.mk.injEq, List.not_mem_nil, or_false] at hb'
 obtain ⟨rfl, rfl⟩ := hb'
 rw [zam]
 have km := X.mut (f := SV.scrubL [b', b2])
 have kw := X.keeps
 refine ⟨0, ⟨_, _, hv2⟩, v', us ++ us2, cells ++ cells2, hv2, by rw [List.length_append, <- hsz]; exact hown', ?_, ?_⟩
 ·exact rrIn_app (rrIn_map kw km (fun _ _ => Iff.rfl) (fun u hu g hg => (hin u (.inl hu) g hg).2) a3) (rrIn_map kw km (fun _ _ => Iff.rfl) (fun u hu g hg => (hin u (.inr hu) g hg).2) b3)
 ·have n1 : (us.filterMap blk).Nodup := by
   cases hh : blk hd1 with
   | none => rw [List.filterMap_cons_none hh] at a4; exact a4
   | some g => rw [List.filterMap_cons_some hh] at a4; exact (List.nodup_cons.1 a4).2
  have n2 : (us2.filterMap blk).Nodup := by
   cases hh : blk hd2 with
   | none => rw [List.filterMap_cons_none hh] at b4; exact b4
   | some g => rw [List.filterMap_cons_some hh] at b4; exact (List.nodup_cons.1 b4).2
  have n3 : ((us ++ us2).filterMap blk).Nodup := by
   rw [List.filterMap_append, List.nodup_append]
   refine ⟨n1, n2, fun g hg g' hg' e => ?_⟩
   subst e
   obtain ⟨u, hu, h1⟩ := List.mem_filterMap.1 hg
   obtain ⟨u', hu', h2⟩ := List.mem_filterMap.1 hg'
   exact h.apart b' b2 hbi hbi2 hbb g (hub u hu g h1) (hub2 u' hu' g h2)
  cases hh : blk v' with
  | none => rw [List.filterMap_cons_none hh]; exact n3
  | some g =>
   rw [List.filterMap_cons_some hh]
   refine List.nodup_cons.2 ⟨fun hg => ?_, n3⟩
   obtain ⟨u, hu, h1⟩ := List.mem_filterMap.1 hg
   have hu := List.mem_append.1 hu
   rcases hplace g hh with h2 | h2
   ·rcases hu with hu | hu
    ·exact k1 u hu g h1 h2
    ·exact k2' u hu g h1 h2
   ·have := (hin u hu g h1).1
    omega
def rrMore (E : Env) (st : St) (o : Oper) (orc : List TV) : Option (St × List TV × List Prop) :=
 match o.dst with
 | some d => match Nat.blt d E.n with
  | true => match o.op with
   | .call c => match rrApp E.P st c d with
    | some (s, ob) => some (s, orc, ob)
    | none => none
   | _ => match rrLit E.P st o d with
    | some (s, ob) => some (s, orc, ob)
    | none => none
  | false => none
 | none => none
theorem rrMore_sound {E : Env} (hE : EnvOK E cx) (h : R cx st T w) {o : Oper} {orc : List TV} {st' : St} {orc' : List TV} {ob : List Prop} (hev : rrMore E st o orc = some (st', orc', ob)) (hob : allP ob)
  {K : Act -> World -> Prop} {Q : Exit -> Act -> World -> Prop} (hK : ∀ T' w', R cx st' T' w' -> K ⟨T', []⟩ w') : o.wp cx.P ⟨T, []⟩ w K Q := by
 obtain ⟨m, hm⟩ := h
 unfold rrMore at hev
 split at hev
 case h_2 => cases hev
 rename_i d hd
 split at hev
 case h_2 => cases hev
 rename_i hlt
 have hlt : d < cx.n := by rw [hE.n]; exact zax hlt
 rw [<- hE.P] at hev
 have fin : ∀ v w' m', (execOp (Act.eval ⟨T, []⟩) o).run cx.P w = .ok (.value v) w' -> Rm cx m' st' (T.setIfInBounds d v) w' -> o.wp cx.P ⟨T, []⟩ w K Q := by
  intro v w' m' hr hR
  refine zbn hr ?_
  rw [hd]
  exact hK _ _ ⟨m', hR⟩
 split at hev
 ·rename_i c hop
  split at hev
  case h_2 => cases hev
  rename_i s ob1 hs
  cases hev
  obtain ⟨v, w', m', h1, h2⟩ := rrApp_sound hm hop hlt hs hob
  exact fin v w' m' h1 h2
 ·split at hev
  case h_2 => cases hev
  rename_i s ob1 hs
  cases hev
  obtain ⟨v, w', m', h1, h2⟩ := rrLit_sound hm hlt hs hob
  exact fin v w' m' h1 h2
def Ty.opqIn : Ty -> Bool
 | .opq => true
 | .pair a b => opqIn a || opqIn b
 | .arr _ a => opqIn a
 | _ => false
def opqB (P : Program) (o : Oper) : Bool := match o.op with
 | .build t _ => match ty P t with
  | some u => u.opqIn
  | none => false
 | _ => false
def o3first (E : Env) (st : St) (o : Oper) (orc : List TV) : Option (St × List TV × List Prop) := bif opqB E.P o then o3step E st o orc else none
def evO (E : Env) (st0 : St) (o : Oper) (orc : List TV) : Option (St × List TV × List Prop) :=
 match rrNew E st0 o orc with
 | some r => some r
 | none => match o3first E st0 o orc with
 | some r => some r
 | none => match evOb E (rrFz st0 (prepOps E o.op)) o orc with
  | some r => some r
  | none => match rrstep E st0 o orc with
   | some r => some r
   | none => rrMore E st0 o orc
theorem evO_sound {E : Env} (hE : EnvOK E cx) (h : R cx st T w) {o : Oper} {orc : List TV} {st' : St} {orc' : List TV} {ob : List Prop} (hev : evO E st o orc = some (st', orc', ob)) (hob : allP ob)
  {K : Act -> World -> Prop} {Q : Exit -> Act -> World -> Prop} (hK : ∀ T' w', R cx st' T' w' -> K ⟨T', []⟩ w') : o.wp cx.P ⟨T, []⟩ w K Q := by
 unfold evO at hev
 split at hev
 ·rename_i r hr
  cases hev
  exact rrNew_sound hE h hr hob hK
 ·split at hev
  ·rename_i r hr
   cases hev
   unfold o3first at hr
   cases hb : opqB E.P o with
   | false => rw [hb] at hr; cases hr
   | true => rw [hb] at hr; exact o3step_sound hE h hr hob hK
  split at hev
  ·rename_i r hr
   cases hev
   obtain ⟨m, hm⟩ := h
   exact evOb_sound hE ⟨m, rrFz_sound hm⟩ hr hob hK
  ·split at hev
   ·rename_i r hr
    cases hev
    exact rrstep_sound hE h hr hob hK
   ·exact rrMore_sound hE h hev hob hK
end Go.Ev
namespace Go.Ev
open Go Go.RowKit
variable [Dr]
abbrev Post := Exit -> Act -> World -> Prop
def W (cx : Cx) (Q : Post) (c : Code) (st : St) : Prop := ∀ T w, R cx st T w -> c.wp cx.P Q ⟨T, []⟩ w
def WL (cx : Cx) (ops : Array Oper) (Q : Post) (l : List Oper) (st : St) : Prop := ∀ T w, R cx st T w -> wpList cx.P ops Q l ⟨T, []⟩ w
def N (cx : Cx) (Q : Post) (e : Exit) (st : St) : Prop := ∀ T w, R cx st T w -> Q e ⟨T, []⟩ w
def wantSV (ops : Array Oper) (st : St) (o : Oper) : Option Bool :=
 match o.guard with
 | none => some true
 | some (j, b) => match (ops[j]?).bind (·.dst) with
  | some d => match look st.sl d with
   | some (.val .bool true) => some b
   | some (.val .bool false) => some (!b)
   | some .undef => some false
   | _ => none
  | none => none
def evL (E : Env) (ops : Array Oper) : List Oper -> St -> List TV -> Option (St × List TV × List Prop)
 | [], st, orc => some (st, orc, [])
 | o :: l, st, orc => match wantSV ops st o with
  | some true => match evO E st o orc with
   | some (st1, orc1, ob) => match evL E ops l st1 orc1 with
    | some (st2, orc2, ob2) => some (st2, orc2, ob ++ ob2)
    | none => none
   | none => none
  | some false => match o.dst with
   | some d => match Nat.blt d E.n with
    | true => evL E ops l (st.put d .undef) orc
    | false => none
   | none => evL E ops l st orc
  | none => none
variable {cx : Cx} {st st' : St} {T : Array Value} {w : World} {E : Env} {Q : Post} {ops : Array Oper} {l : List Oper}
theorem allP_append : ∀ {a b : List Prop}, allP (a ++ b) -> allP a /\ allP b
 | [], _, h => ⟨trivial, h⟩
 | _ :: _, _, ⟨h1, h2⟩ => ⟨⟨h1, (allP_append h2).1⟩, (allP_append h2).2⟩
theorem zbo (h : R cx st T w) {o : Oper} {b : Bool} (hb : wantSV ops st o = some b) : Region.wanted o (yielded ops T) = b := by
 obtain ⟨m, hm⟩ := h
 unfold wantSV at hb
 unfold Region.wanted
 split at hb
 ·rename_i hg
  cases hb
  rw [hg]
 ·rename_i j b' hg
  rw [hg]
  simp only []
  split at hb
  ·rename_i d hd
   have key : ∀ s, look st.sl d = some s -> ∃ v, T[d]? = some v /\ repS w (Mut cx m st.ids) m v s := fun s hs => hm.slots d s (zak hs)
   unfold yielded
   rw [hd]
   simp only [Option.bind_some]
   split at hb
   ·rename_i hl
    obtain ⟨v, h1, h2⟩ := key _ hl
    rw [h1, za1.1 h2]
    cases hb
    cases b <;> rfl
   ·rename_i hl
    obtain ⟨v, h1, h2⟩ := key _ hl
    rw [h1, za1.1 h2]
    cases hb
    cases b' <;> rfl
   ·rename_i hl
    obtain ⟨v, h1, h2⟩ := key _ hl
    have h2' : v = undef := h2
    rw [h1, h2']
    cases hb
    cases b' <;> rfl
   ·cases hb
  ·cases hb
theorem evL_sound (hE : EnvOK E cx) : ∀ {l : List Oper} {st : St} {T : Array Value} {w : World} {orc orc' : List TV} {st' : St} {ob : List Prop}, R cx st T w -> evL E ops l st orc = some (st', orc', ob) -> allP ob ->
  (∀ T' w', R cx st' T' w' -> Q .normal ⟨T', []⟩ w') -> wpList cx.P ops Q l ⟨T, []⟩ w
 | [], st, T, w, _, _, _, _, h, hev, _, hQ => by
  cases hev
  exact hQ T w h
 | o :: l, st, T, w, orc, orc', st', ob, h, hev, hob, hQ => by
  unfold evL at hev
  refine wpList_step fun K hK => ?_
  split at hev
  ·rename_i hw
   rw [zbo h hw]
   simp only [if_true]
   split at hev
   ·rename_i st1 orc1 ob1 ho
    split at hev
    ·rename_i st2 orc2 ob2 hl
     cases hev
     obtain ⟨ha, hb⟩ := allP_append hob
     exact evO_sound hE h ho ha fun T' w' hR => hK _ _ (evL_sound hE hR hl hb hQ)
    ·cases hev
   ·cases hev
  ·rename_i hw
   rw [zbo h hw]
   simp only [Bool.false_eq_true, if_false]
   split at hev
   ·rename_i d hd
    split at hev
    ·rename_i hdn
     obtain ⟨m, hm⟩ := h
     have hput := hm.put (d := d) (s := .undef) (v := undef) (by rw [hE.n]; exact zax hdn) rfl
     refine hK _ _ ?_
     rw [hd]
     exact evL_sound hE ⟨m, hput⟩ hev hob hQ
    ·cases hev
   ·rename_i hd
    refine hK _ _ ?_
    rw [hd]
    exact evL_sound hE h hev hob hQ
  ·cases hev
theorem wpList_append {P : Program} {Q : Post} : ∀ {l1 l2 : List Oper} {a : Act} {w : World}, wpList P ops (Exit.then (wpList P ops Q l2) Q) l1 a w -> wpList P ops Q (l1 ++ l2) a w
 | [], l2, a, w, h => h
 | o :: l1, l2, a, w, h => by
  simp only [List.cons_append, wpList] at h ⊢
  split
  ·rename_i hw
   rw [if_pos hw] at h
   rcases h with h | ⟨h1, h2⟩
   ·refine .inl ?_
    have hm : ∀ a w, wpList P ops (Exit.then (wpList P ops Q l2) Q) l1 a w -> wpList P ops Q (l1 ++ l2) a w := fun a w => wpList_append
    unfold Oper.wp Oper.upon at h ⊢
    split at h
    ·exact hm _ _ h
    ·exact hm _ _ h
    ·exact hm _ _ h
    ·refine Calls.mono h ?_
     intro e w' hh
     cases e with
     | returned v => exact hm _ _ hh
     | panicked c => exact hh
     | outgrown => exact hh
    ·exact Rows.mono h fun v w' hh => hm _ _ hh
    ·exact h
    ·exact h.elim
   ·exact .inr ⟨h1, h2⟩
  ·rename_i hw
   rw [if_neg hw] at h
   exact wpList_append h
/-! The rules. -/
theorem W_skip (h : N cx Q .normal st) : W cx Q .skip st := fun T w hR => wp_skip (h T w hR)
theorem W_seq {x y : Code} (h : W cx (Exit.then (y.wp cx.P Q) Q) x st) : W cx Q (.seq x y) st := fun T w hR => wp_seq (h T w hR)
theorem W_block {id : Nat} {c : Code} (h : W cx (Exit.inBlock id Q) c st) : W cx Q (.block id c) st := fun T w hR => wp_block (h T w hR)
theorem W_exit {id : Nat} (h : N cx Q (.exit id) st) : W cx Q (.exit id) st := fun T w hR => wp_exit (h T w hR)
theorem W_ret (h : N cx Q .ret st) : W cx Q .ret st := fun T w hR => wp_ret (h T w hR)
theorem W_cond {c : Operand} {x y : Code} {b : Bool} (hc : getSV st c = some (.val .bool b)) (ht : b = true -> W cx Q x st) (hf : b = false -> W cx Q y st) : W cx Q (.cond c x y) st := fun T w hR => by
 obtain ⟨m, hm⟩ := hR
 have hv := za1.1 (za6 hm hc)
 cases b with
 | true => exact wp_cond_true hv (ht rfl T w ⟨m, hm⟩)
 | false => exact wp_cond_false hv (hf rfl T w ⟨m, hm⟩)
theorem W_cond_true {c : Operand} {x y : Code} (hc : getSV st c = some (.val .bool true)) (ht : W cx Q x st) : W cx Q (.cond c x y) st := W_cond hc (fun _ => ht) (fun h => by cases h)
theorem W_cond_false {c : Operand} {x y : Code} (hc : getSV st c = some (.val .bool false)) (ht : W cx Q y st) : W cx Q (.cond c x y) st := W_cond hc (fun h => by cases h) (fun _ => ht)
theorem exists_least (p : Nat -> Prop) : ∀ n, p n -> ∃ n, p n /\ ∀ m, p m -> n <= m := by
 intro n
 induction n using Nat.strongRecOn with
 | _ n ih =>
  intro hn
  by_cases h : ∃ m, m < n /\ p m
  ·obtain ⟨m, hm, hp⟩ := h
   exact ih m hm hp
  ·exact ⟨n, hn, fun m hm => by
    rcases Nat.lt_or_ge m n with h1 | h1
    ·exact absurd ⟨m, h1, hm⟩ h
    ·exact h1⟩
theorem least_of {p : Nat -> Prop} (h : ∃ n, p n) : ∃ n, p n /\ ∀ m, p m -> n <= m := let ⟨n, hn⟩ := h; exists_least p n hn
open Classical in
theorem wp_loop_fuel {P : Program} {c : Code} {Q : Post} (J : Nat -> Act -> World -> Prop) (step : ∀ k a w, J k a w -> c.wp P (Exit.then (fun a' w' => ∃ k', k' < k /\ J k' a' w') Q) a w) {k : Nat} {a : Act} {w : World} (h : J k a w) :
  (Code.loop c).wp P Q a w := by
 refine wp_loop (fun a w => ∃ k, J k a w) (fun a w => if h : ∃ k, J k a w then Classical.choose (least_of h) else 0) ⟨k, h⟩ ?_
 intro a w hI
 have hk := Classical.choose_spec (least_of hI)
 refine Code.wp_mono ?_ (step _ a w hk.1)
 intro e a' w' q
 cases e with
 | normal =>
  obtain ⟨k', hlt, hJ⟩ := q
  refine ⟨⟨k', hJ⟩, ?_⟩
  have hI' : ∃ k, J k a' w' := ⟨k', hJ⟩
  rw [dif_pos hI, dif_pos hI']
  exact Nat.lt_of_le_of_lt ((Classical.choose_spec (least_of hI')).2 k' hJ) hlt
 | _ => exact q
def Back {α : Type} (cx : Cx) (F : Nat -> α -> Prop) (S : α -> St) (k : Nat) : Act -> World -> Prop := fun a' w' => ∃ k' x', k' < k /\ F k' x' /\ a'.defers = [] /\ R cx (S x') a'.tmps w'
theorem W_loop {α : Type} (F : Nat -> α -> Prop) (S : α -> St) {c : Code} (step : ∀ k x, F k x -> W cx (Exit.then (Back cx F S k) Q) c (S x)) {k : Nat} {x : α} (h : F k x) : W cx Q (.loop c) (S x) := by
 intro T w hR
 refine wp_loop_fuel (fun k a w => ∃ x, F k x /\ a.defers = [] /\ R cx (S x) a.tmps w) ?_ ⟨x, h, rfl, hR⟩
 rintro k ⟨T, d⟩ w ⟨x, hF, hd, hR⟩
 simp only at hd hR
 subst hd
 refine Code.wp_mono ?_ (step k x hF T w hR)
 intro e a' w' q
 cases e with
 | normal => obtain ⟨k', x', h1, h2, h3, h4⟩ := q; exact ⟨k', h1, x', h2, h3, h4⟩
 | _ => exact q
theorem N_round {α : Type} {F : Nat -> α -> Prop} {S : α -> St} {k k' : Nat} (x' : α) (hk : k' < k) (hF : F k' x') : N cx (Exit.then (Back cx F S k) Q) .normal (S x') :=
 fun _ _ hR => ⟨k', x', hk, hF, rfl, hR⟩
theorem N_then {y : Code} (h : W cx Q y st) : N cx (Exit.then (y.wp cx.P Q) Q) .normal st := h
theorem N_thenL {l : List Oper} (h : WL cx ops Q l st) : N cx (Exit.then (wpList cx.P ops Q l) Q) .normal st := h
theorem zbp {K : Act -> World -> Prop} {id : Nat} (h : N cx Q (.exit id) st) : N cx (Exit.then K Q) (.exit id) st := h
theorem zbq {K : Act -> World -> Prop} (h : N cx Q .ret st) : N cx (Exit.then K Q) .ret st := h
theorem N_block {id : Nat} (h : N cx Q .normal st) : N cx (Exit.inBlock id Q) .normal st := h
theorem zbr {id : Nat} (h : N cx Q .ret st) : N cx (Exit.inBlock id Q) .ret st := h
theorem zbs {id : Nat} (h : N cx Q .normal st) : N cx (Exit.inBlock id Q) (.exit id) st := fun T w hR => by
 show (if id = id then _ else _ : Prop)
 rw [if_pos rfl]
 exact h T w hR
theorem N_block_out {id id' : Nat} (hne : Nat.beq id' id = false) (h : N cx Q (.exit id') st) : N cx (Exit.inBlock id Q) (.exit id') st := fun T w hR => by
 show (if id' = id then _ else _ : Prop)
 rw [if_neg (zao hne)]
 exact h T w hR
theorem zbt {id : Nat} {l : List Oper} (h : WL cx l.toArray Q l st) : W cx Q (.region id l.toArray false) st := fun T w hR => wp_region_lit (h T w hR)
theorem WL_ev (hE : EnvOK E cx) {orc : List TV} {ob : List Prop} (hev : evL E ops l st orc = some (st', [], ob)) (hob : allP ob) (h : N cx Q .normal st') : WL cx ops Q l st :=
 fun _ _ hR => evL_sound hE hR hev hob h
theorem WL_take (hE : EnvOK E cx) (n : Nat) {orc : List TV} {ob : List Prop} (hev : evL E ops (l.take n) st orc = some (st', [], ob)) (hob : allP ob) (h : WL cx ops Q (l.drop n) st') : WL cx ops Q l st := by
 intro T w hR
 have := wpList_append (P := cx.P) (ops := ops) (Q := Q) (l1 := l.take n) (l2 := l.drop n) (evL_sound hE hR hev hob h)
 rwa [List.take_append_drop] at this
theorem WL_nil (h : N cx Q .normal st) : WL cx ops Q [] st := h
theorem R.norm (h : R cx st T w) {ks bs rs : List Nat} (hn : st.norm ks bs rs = some st') : R cx st' T w := let ⟨m, hm⟩ := h; ⟨m, hm.norm hn⟩
def evK (E : Env) (ops : Array Oper) (l : List Oper) (st : St) (orc : List TV) (ks bs rs : List Nat) : Option (St × List TV × List Prop) :=
 match evL E ops l st orc with
 | some (s, o, p) => match s.norm ks bs rs with
  | some s' => some (s', o, p)
  | none => none
 | none => none
theorem evK_some {orc orc' : List TV} {ob : List Prop} {ks bs rs : List Nat} (h : evK E ops l st orc ks bs rs = some (st', orc', ob)) : ∃ s, evL E ops l st orc = some (s, orc', ob) /\ s.norm ks bs rs = some st' := by
 unfold evK at h
 split at h
 ·rename_i s o p hl
  split at h
  ·rename_i s' hn
   cases h
   exact ⟨s, hl, hn⟩
  ·cases h
 ·cases h
theorem N.norm {e : Exit} {ks bs rs : List Nat} (h : N cx Q e st') (hs : st.norm ks bs rs = some st') : N cx Q e st := fun T w hR => h T w (hR.norm hs)
theorem WL.norm {ks bs rs : List Nat} (h : WL cx ops Q l st') (hs : st.norm ks bs rs = some st') : WL cx ops Q l st := fun T w hR => h T w (hR.norm hs)
theorem W.norm {c : Code} {ks bs rs : List Nat} (h : W cx Q c st') (hs : st.norm ks bs rs = some st') : W cx Q c st := fun T w hR => h T w (hR.norm hs)
end Go.Ev
namespace Go.Ev
open Go Go.RowKit
variable [Dr]
variable {cx : Cx} {m : Nat -> Value} {st st' : St} {T : Array Value} {w w' : World} {P : Program}
theorem idx_born {l : List MapEntry} {n : Nat} {e : MapEntry} (hn : (l.map (·.born)).Nodup) (h : l[n]? = some e) : l.findIdx? (fun x => (x.born : Int) == (e.born : Int)) = some n := by
 induction l generalizing n with
 | nil => simp at h
 | cons x l ih =>
  rw [List.map_cons, List.nodup_cons] at hn
  rw [List.findIdx?_cons]
  cases n with
  | zero =>
   simp at h
   subst h
   simp
  | succ n =>
   simp at h
   have hne : ((x.born : Int) == (e.born : Int)) = false := by
    rw [beq_eq_false_iff_ne]
    intro hc
    exact hn.1 (List.mem_map.2 ⟨e, List.mem_of_getElem? h, by omega⟩)
   rw [hne, ih hn.2 h]
   simp
theorem findIdx_arr {p : MapEntry -> Bool} (es : Array MapEntry) : es.findIdx? p = es.toList.findIdx? p := by
 conv => lhs; rw [show es = es.toList.toArray from by simp]
 rw [List.findIdx?_toArray]
theorem modify_end {α : Type} (f : α -> α) (a : α) : ∀ l : List α, (l ++ [a]).modify l.length f = l ++ [f a]
 | [] => rfl
 | x :: l => by
  show x :: ((l ++ [a]).modify l.length f) = _
  rw [modify_end f a l]
  rfl
theorem modify_kb (kv : Value) : ∀ (es : List MapEntry) (n : Nat), (es.modify n fun e => { e with key := kv }).map (·.born) = es.map (·.born)
 | [], n => by cases n <;> rfl
 | e :: es, 0 => rfl
 | e :: es, n + 1 => by
  have := modify_kb kv es n
  simp only [List.modify_succ_cons, List.map_cons, this]
theorem run_mapEntry {mt kt et : TypeId} {d d' : Nat} {u v : Ty} {M : Nat -> Prop} (hm : P.underlying mt = some (.map kt et)) (ht : tyOf P d kt = some u) (hok : eqOK P d' kt = true) (hd : d' <= 10000) (hfl : u.flat = true)
  {z : Value} (hz : ∀ w, (zeroValue et).run P w = .ok z w)
  {kv vv : Value} {key : u.el} {val : v.el} (hk : repV w M kv u key) (hv : repV w M vv v val) {g : Nat} {es : Array MapEntry} {clock : Nat} {ps : List (u.el × v.el)}
  (hg : w.heap[g]? = some (.map es clock)) (hb : ∀ e ∈ es.toList, e.born < clock) (hn : (es.toList.map (·.born)).Nodup) (hr : repM (repV' w M u) (repV' w M v) es.toList ps) :
  ∃ (es' : Array MapEntry) (clock' : Nat) (v0 : Value) (s : Int) (w1 : World), (Instr.mapEntry mt (.map (some g)) kv).run P w = .ok (.tuple #[v0, .int .i64 s]) w1 /\
   (∀ mt2, (Instr.entryStore mt2 (.map (some g)) (.int .i64 s) vv).run P w1 = .ok () { w with heap := w.heap.setIfInBounds g (.map es' clock') }) /\
   (∀ e ∈ es'.toList, e.born < clock') /\ (es'.toList.map (·.born)).Nodup /\ repM (repV' w M u) (repV' w M v) es'.toList (mset (eqEl u) ps key val) := by
 have hc := zbe (P := P) false d kt u ht d' hok 10000 hd w w M kv key hk
 have hf := findKey_sound ht hok hd hk w hr
 have hlt := zad hg
 have hobj : (getObj g).run P w = .ok (.map es clock) w := by simp [getObj, Sem.run, hg]
 have hset : ∀ o, (setObj g o).run P w = .ok () { w with heap := w.heap.setIfInBounds g o } := fun o => by simp [setObj, Sem.run, hg]
 have store : ∀ (es1 : Array MapEntry) (clock1 : Nat) (s : Int) (n : Nat), es1.findIdx? (fun e => (e.born : Int) == s) = some n -> ∀ mt2,
   (Instr.entryStore mt2 (.map (some g)) (.int .i64 s) vv).run P { w with heap := w.heap.setIfInBounds g (.map es1 clock1) } = .ok () { w with heap := w.heap.setIfInBounds g (.map (es1.modify n fun e => { e with val := vv }) clock1) } := by
  intro es1 clock1 s n hi mt2
  have h1 : (getObj g).run P { w with heap := w.heap.setIfInBounds g (.map es1 clock1) } = .ok (.map es1 clock1) { w with heap := w.heap.setIfInBounds g (.map es1 clock1) } := by
   simp [getObj, Sem.run, Array.getElem?_setIfInBounds_self_of_lt hlt]
  have h2 : ∀ o, (setObj g o).run P { w with heap := w.heap.setIfInBounds g (.map es1 clock1) } = .ok () { w with heap := w.heap.setIfInBounds g o } := fun o => by
   simp [setObj, Sem.run, Array.getElem?_setIfInBounds_self_of_lt hlt, Array.setIfInBounds_setIfInBounds]
  unfold Instr.entryStore
  simp only [Sem.run_bind, Result.andThen_ok, h1, asInt, asIntOf, Sem.run_pure, hi, h2]
 rcases fkx_set (kv := kv) (vv := vv) (val := val) (eq := eqEl u) (key := key) hk hv es.toList ps 0 hr with ⟨e1, e2⟩ | ⟨n, e, q, e1, e2, e3, e4, e5⟩
 ·rw [e1] at hf
  have hfind : (es.push { key := kv, val := z, born := clock }).findIdx? (fun e => (e.born : Int) == ((clock : Nat) : Int)) = some es.size := by
   rw [findIdx_arr]
   refine idx_born (e := { key := kv, val := z, born := clock }) ?_ (by simp)
   rw [Array.toList_push, List.map_append, List.nodup_append]
   refine ⟨hn, by simp, ?_⟩
   intro a ha b hb' hab
   simp at hb'
   obtain ⟨e, he, rfl⟩ := List.mem_map.1 ha
   have := hb e he
   omega
  have hmod : (es.push { key := kv, val := z, born := clock }).modify es.size (fun e => { e with val := vv }) = es.push { key := kv, val := vv, born := clock } := by
   apply Array.ext'
   rw [Array.toList_modify, Array.toList_push, Array.toList_push, <- Array.length_toList, modify_end]
  refine ⟨es.push { key := kv, val := vv, born := clock }, clock + 1, z, clock, _, ?_, fun mt2 => by rw [store _ _ _ _ hfind mt2, hmod], ?_, ?_, ?_⟩
  ·unfold Instr.mapEntry
   simp only [Sem.run_bind, run_underlying hm, Result.andThen_ok, hobj, hc, hf, hset, hz, Sem.run_pure]
   rfl
  ·intro e he
   rw [Array.toList_push] at he
   rcases List.mem_append.1 he with he | he
   ·exact Nat.lt_succ_of_lt (hb e he)
   ·simp at he; subst he; exact Nat.lt_succ_self _
  ·rw [Array.toList_push, List.map_append, List.nodup_append]
   refine ⟨hn, by simp, ?_⟩
   intro a ha b hb' hab
   simp at hb'
   obtain ⟨e, he, rfl⟩ := List.mem_map.1 ha
   have := hb e he
   omega
  ·rw [Array.toList_push, e2]
   exact repM_app hr ⟨hk, hv, trivial⟩
 ·rw [e1, Nat.zero_add] at hf
  have heq : key = q := eqEl_eq u e4
  subst heq
  have hkk : e.key = kv := flat_detV hfl e3 hk
  have hget : es[n]? = some e := by rw [<- Array.getElem?_toList]; exact e2
  have hold : ((es[n]?).map (·.key)).getD kv = kv := by rw [hget]; simp [hkk]
  have hborn : ((es[n]?).map (fun x => (x.born : Int))).getD 0 = e.born := by rw [hget]; rfl
  have hst : ∀ w2, (Instr.keyThatStays kv kv).run P w2 = .ok kv w2 := fun w2 => by
   unfold Instr.keyThatStays
   rw [if_pos (flat_same hfl hk)]
   rfl
  have hlist1 : (es.modify n fun e => { e with key := kv }).toList = es.toList.modify n fun e => { e with key := kv } := by simp
  have hlist : (es.modify n fun e => { e with key := kv, val := vv }).toList = es.toList.modify n fun e => { e with key := kv, val := vv } := by simp
  have hmb : (es.toList.modify n fun e => { e with key := kv }).map (·.born) = es.toList.map (·.born) := by
   exact modify_kb kv es.toList n
  have hfind : (es.modify n fun e => { e with key := kv }).findIdx? (fun x => (x.born : Int) == (e.born : Int)) = some n := by
   rw [findIdx_arr, hlist1]
   refine idx_born (e := { e with key := kv }) (by rw [hmb]; exact hn) ?_
   rw [List.getElem?_modify_eq, e2]
   rfl
  have hmod : (es.modify n fun e => { e with key := kv }).modify n (fun e => { e with val := vv }) = es.modify n fun e => { e with key := kv, val := vv } := by
   apply Array.ext'
   rw [Array.toList_modify, hlist1, hlist, List.modify_modify_eq]
   rfl
  refine ⟨es.modify n fun e => { e with key := kv, val := vv }, clock, e.val, e.born, _, ?_, fun mt2 => by rw [store _ _ _ _ hfind mt2, hmod], ?_, ?_, ?_⟩
  ·unfold Instr.mapEntry
   simp only [Sem.run_bind, run_underlying hm, Result.andThen_ok, hobj, hc, hf, hold, hst, hset, Sem.run_pure, hborn]
   rfl
  ·intro x hx
   rw [hlist] at hx
   have h1 : x.born ∈ (es.toList.modify n fun e => { e with key := kv, val := vv }).map (·.born) := List.mem_map.2 ⟨x, hx, rfl⟩
   rw [modify_born] at h1
   obtain ⟨y, hy, e⟩ := List.mem_map.1 h1
   rw [<- e]; exact hb y hy
  ·rw [hlist, modify_born]; exact hn
  ·rw [hlist]; exact e5
def opNe (x : Operand) (d : Nat) : Bool := match x with
 | .tmp t => !(Nat.beq t d)
 | _ => true
theorem zbu {x : Operand} {d : Nat} {v : Value} (h : opNe x d = true) : Act.eval ⟨T.setIfInBounds d v, []⟩ x = Act.eval ⟨T, []⟩ x := by
 cases x with
 | tmp t =>
  have hne : t ≠ d := by
   intro e
   subst e
   simp [opNe] at h
  show (T.setIfInBounds d v).getD t undef = T.getD t undef
  rw [Array.getD_eq_getD_getElem?, Array.getD_eq_getD_getElem?, Array.getElem?_setIfInBounds_ne (fun e => hne e.symm)]
 | _ => rfl
theorem eval_put {d : Nat} {v : Value} (h : d < T.size) : Act.eval ⟨T.setIfInBounds d v, []⟩ (.tmp d) = v := by
 show (T.setIfInBounds d v).getD d undef = v
 rw [Array.getD_eq_getD_getElem?, Array.getElem?_setIfInBounds_self_of_lt h]
 rfl
def evEnt (P : Program) (st : St) (t : TypeId) (x k v : Operand) : Option St :=
 match P.underlying t with
 | some (.map _ et) => match zeroOf P et with
  | some _ => evUp P st t x k v
  | none => none
 | _ => none
theorem evEnt_sound (h : Rm cx m st T w) {t : TypeId} {x k v : Operand} {st' : St} (hev : evEnt cx.P st t x k v = some st') :
  ∃ v0 s w1 w', (Instr.mapEntry t (Act.eval ⟨T, []⟩ x) (Act.eval ⟨T, []⟩ k)).run cx.P w = .ok (.tuple #[v0, .int .i64 s]) w1 /\
   (∀ mt2, (Instr.entryStore mt2 (Act.eval ⟨T, []⟩ x) (.int .i64 s) (Act.eval ⟨T, []⟩ v)).run cx.P w1 = .ok () w') /\ Rm cx m st' T w' := by
 unfold evEnt at hev
 split at hev
 case h_2 => cases hev
 rename_i kt0 et0 hmt0
 split at hev
 case h_2 => cases hev
 rename_i uz hz0
 obtain ⟨iz, zz, _, hiz, _, hzz, _⟩ := zbd hz0
 unfold evUp at hev
 split at hev
 ·rename_i b kt et ky vl hx hmt hk hv
  rw [hmt0] at hmt
  cases hmt
  split at hev
  ·rename_i ku vu ps ku' vu' hb hku hvu
   split at hev
   ·rename_i y z hy hz hh
    cases hev
    simp only [Bool.and_eq_true] at hh
    obtain ⟨⟨⟨hh1, hh2⟩, hh3⟩, hh4⟩ := hh
    obtain rfl := Ty.eq_of_beq hh1
    obtain rfl := Ty.eq_of_beq hh2
    have ey := TV.as_some hy
    subst ey
    have ez := TV.as_some hz
    subst ez
    have hbm := zak hb
    obtain ⟨g, e1, _, es, clock, h1, h2, h3, h4⟩ := h.box hbm
    have e1 : m b = .map (some g) := e1
    have hxv : Act.eval ⟨T, []⟩ x = .map (some g) := by have : Act.eval ⟨T, []⟩ x = m b := za6 h hx; rw [this, e1]
    have hzv : ∀ w', (zeroValue et0).run cx.P w' = .ok zz w' := fun w' => by simp [zeroValue, typeInfo, hiz, hzz]
    obtain ⟨es', clock', v0, s, w1, hrun1, hrun2, r1, r2, r3⟩ := run_mapEntry (d := dep) (d' := 16) hmt0 hku hh4 (by decide) hh3 hzv (za7 h hk) (za7 h hv) h1 h2 h3 h4
    have hn : Touch m w b { w with heap := w.heap.setIfInBounds g (.map es' clock') } :=
     ⟨⟨rfl, rfl, rfl, by simp, fun _ => Nat.le_refl _⟩, fun k _ hne => by
      show (w.heap.setIfInBounds g _)[k]? = _
      rw [Array.getElem?_setIfInBounds_ne]
      intro e
      exact hne (by rw [e1, e]; rfl)⟩
    rw [hxv]
    refine ⟨v0, s, w1, _, hrun1, hrun2, h.setBox hbm hn (g := g) e1 ?_⟩
    have hbi : b ∈ st.ids := List.mem_append.2 (.inl (List.mem_map.2 ⟨_, hbm, rfl⟩))
    obtain ⟨kk1, kk2⟩ := Rm.touch_keeps (cx := cx) hbi hn (ids := (st.setBox b (.mp ku' vu' (mset (eqEl ku') ps y z))).ids) (zar hbm h.keys _).1
    refine ⟨es', clock', ?_, r1, r2, zac (fun _ _ h => zaj kk1 kk2 h) (fun _ _ h => zaj kk1 kk2 h) r3⟩
    show (w.heap.setIfInBounds g _)[g]? = _
    rw [Array.getElem?_setIfInBounds_self_of_lt (zad h1)]
   ·cases hev
  ·cases hev
 ·cases hev
def upd3 (E : Env) (st : St) : List Oper -> Option (St × List Oper)
 | o1 :: o2 :: o3 :: l => match o1.guard, o2.guard, o3.guard, o1.dst, o2.dst, o3.dst with
  | none, none, none, some d1, some d2, none => match o1.op, o2.op, o3.op with
   | .mapEntry t (.tmp xa) k, .extract (.tmp a) i, .entryStore _ (.tmp xb) (.tmp c) v =>
    match Nat.beq a d1 && (Nat.beq i 1 && (Nat.beq c d2 && (Nat.beq xa xb && (opNe (.tmp xa) d1 && (opNe (.tmp xa) d2 && (opNe v d1 && (opNe v d2 && (Nat.blt d1 E.n && Nat.blt d2 E.n)))))))) with
    | true => match evEnt E.P st t (.tmp xa) k v with
     | some st1 => some ((st1.put d1 .any).put d2 .any, l)
     | none => none
    | false => none
   | _, _, _ => none
  | _, _, _, _, _, _ => none
 | _ => none
theorem upd3_sound {E : Env} (hE : EnvOK E cx) {Q : Post} {ops : Array Oper} {l l' : List Oper} (hu : upd3 E st l = some (st', l')) (h : WL cx ops Q l' st') : WL cx ops Q l st := by
 unfold upd3 at hu
 split at hu
 case h_2 => cases hu
 rename_i o1 o2 o3 l
 split at hu
 case h_2 => cases hu
 rename_i d1 d2 g1 g2 g3 k1 k2 k3
 split at hu
 case h_2 => cases hu
 rename_i t xa k a i t2 xb c v p1 p2 p3
 split at hu
 case h_2 => cases hu
 rename_i hh
 simp only [Bool.and_eq_true] at hh
 obtain ⟨q1, q2, q3, q4, q5, q6, q7, q8, q9, q10⟩ := hh
 have q1 := Nat.eq_of_beq_eq_true q1
 have q2 := Nat.eq_of_beq_eq_true q2
 have q3 := Nat.eq_of_beq_eq_true q3
 have q4 := Nat.eq_of_beq_eq_true q4
 subst q1
 subst q2
 subst q3
 subst q4
 split at hu
 case h_2 => cases hu
 rename_i st1 he
 cases hu
 intro T w ⟨m, hR⟩
 rw [<- hE.P] at he
 obtain ⟨v0, s, w1, w', r1, r2, hR1⟩ := evEnt_sound hR he
 have hn1 : a < cx.n := by rw [hE.n]; exact zax q9
 have hn2 : c < cx.n := by rw [hE.n]; exact zax q10
 have ha : a < T.size := by rw [hR.size]; exact hn1
 refine wpList_step fun K hK => ?_
 rw [show Region.wanted o1 (yielded ops T) = true from by unfold Region.wanted; rw [g1]]
 simp only [if_true]
 refine zbn (w' := w1) (v := .tuple #[v0, .int .i64 s]) (zbk (by simp only [execOp, p1]) r1) ?_
 refine hK _ _ ?_
 rw [k1]
 refine wpList_step fun K2 hK2 => ?_
 rw [show ∀ y, Region.wanted o2 y = true from fun y => by unfold Region.wanted; rw [g2]]
 simp only [if_true]
 have ev1 : Act.eval ⟨T.setIfInBounds a (.tuple #[v0, .int .i64 s]), []⟩ (.tmp a) = .tuple #[v0, .int .i64 s] := eval_put ha
 refine zbn (w' := w1) (v := .int .i64 s) (by simp [execOp, p2, ev1, Instr.extract]) ?_
 refine hK2 _ _ ?_
 rw [k2]
 refine wpList_step fun K3 hK3 => ?_
 rw [show ∀ y, Region.wanted o3 y = true from fun y => by unfold Region.wanted; rw [g3]]
 simp only [if_true]
 have ec : Act.eval ⟨(T.setIfInBounds a (.tuple #[v0, .int .i64 s])).setIfInBounds c (.int .i64 s), []⟩ (.tmp c) = .int .i64 s := eval_put (by rw [Array.size_setIfInBounds, hR.size]; exact hn2)
 have ex : Act.eval ⟨(T.setIfInBounds a (.tuple #[v0, .int .i64 s])).setIfInBounds c (.int .i64 s), []⟩ (.tmp xa) = Act.eval ⟨T, []⟩ (.tmp xa) := (zbu q6).trans (zbu q5)
 have ev : Act.eval ⟨(T.setIfInBounds a (.tuple #[v0, .int .i64 s])).setIfInBounds c (.int .i64 s), []⟩ v = Act.eval ⟨T, []⟩ v := (zbu q8).trans (zbu q7)
 have hr : (execOp (Act.eval ⟨(T.setIfInBounds a (.tuple #[v0, .int .i64 s])).setIfInBounds c (.int .i64 s), []⟩) o3).run cx.P w1 = .ok .skip w' := by
  simp only [execOp, p3, Sem.run_bind, ec, ex, ev, r2, Result.andThen_ok, Sem.run_pure]
 show o3.wp cx.P ⟨(T.setIfInBounds a (.tuple #[v0, .int .i64 s])).setIfInBounds c (.int .i64 s), []⟩ w1 K3 _
 unfold Oper.wp
 rw [hr]
 show K3 (Act.put ⟨(T.setIfInBounds a (.tuple #[v0, .int .i64 s])).setIfInBounds c (.int .i64 s), []⟩ o3.dst undef) w'
 rw [k3]
 exact hK3 _ _ (h _ _ ⟨m, (hR1.put hn1 (s := .any) trivial).put hn2 (s := .any) trivial⟩)
end Go.Ev
namespace Go.Ev
open Go Go.RowKit
variable [Dr]
variable {cx : Cx} {m : Nat -> Value} {st st' : St} {T : Array Value} {w w' : World} {E : Env} {Q : Post}
def tvSV : TV -> SV
 | ⟨.ptr t, x⟩ => .vptr t x
 | ⟨t, x⟩ => .val t x
theorem tvSV_rep {M : Nat -> Prop} {m : Nat -> Value} {v : Value} {u : TV} (h : repV w M v u.t u.x) : repS w M m v (tvSV u) := by
 obtain ⟨t, x⟩ := u
 cases t with
 | ptr t =>
  obtain ⟨a, cells, e, r⟩ := (za3 (t := .ptr t) rfl).1 h
  simp only [List.cons.injEq, and_true] at e
  exact ⟨a, cells, e, r⟩
 | _ => exact h
def argSl : Nat -> List TV -> List (Nat × SV)
 | _, [] => []
 | k, u :: us => (k, tvSV u) :: argSl (k + 1) us
theorem repVs_len {M : Nat -> Prop} : ∀ {vs : List Value} {l : List TV}, repVs w M vs l -> vs.length = l.length
 | [], [], _ => rfl
 | [], _ :: _, h => h.elim
 | _ :: _, [], h => h.elim
 | _ :: _, _ :: _, ⟨_, h⟩ => by simp [repVs_len h]
theorem argSl_slots {M : Nat -> Prop} {m : Nat -> Value} : ∀ {vs : List Value} {as0 : List TV} (k : Nat) {T : Array Value}, repVs w M vs as0 -> (∀ i v, vs[i]? = some v -> T[k + i]? = some v) ->
  ∀ i sv, (i, sv) ∈ argSl k as0 -> ∃ v, T[i]? = some v /\ repS w M m v sv
 | [], [], k, T, _, _, i, sv, hi => by simp [argSl] at hi
 | [], _ :: _, _, _, h, _, _, _, _ => h.elim
 | _ :: _, [], _, _, h, _, _, _, _ => h.elim
 | v :: vs, a :: as0, k, T, ⟨h1, h2⟩, hT, i, sv, hi => by
  rcases List.mem_cons.1 hi with hi | hi
  ·cases hi
   exact ⟨v, by have := hT 0 v rfl; simpa using this, tvSV_rep h1⟩
  ·exact argSl_slots (k + 1) h2 (fun j u hj => by have := hT (j + 1) u (by simpa using hj); rw [<- this]; congr 1; omega) i sv hi
theorem entry {P : Program} {n : Nat} {M : Nat -> Prop} {vs : List Value} {as0 : List TV} (hM : ∀ b, M b -> b < w.heap.size) (hargs : repVs w M vs as0) (hn : as0.length <= n) :
  R ⟨P, n, w, M, fun _ => False, fun _ => undef⟩ ⟨argSl 0 as0, [], []⟩ (vs.toArray ++ Array.replicate (n - vs.toArray.size) undef) w := by
 have hl := repVs_len hargs
 refine ⟨fun _ => undef, ?_⟩
 have hmut : ∀ b, Mut ⟨P, n, w, M, fun _ => False, fun _ => undef⟩ (fun _ => undef) (St.ids ⟨argSl 0 as0, [], []⟩) b -> M b := by
  rintro b (h | ⟨i, hi, _⟩)
  ·exact h
  ·simp [St.ids] at hi
 refine { size := ?_, frame := Frame.refl _ _, outer := fun b hb => ⟨hM b hb, fun h => h⟩, kept := (fun r c hr => absurd hr List.not_mem_nil), slots := ?_, boxes := fun b c hb => by simp at hb, rows := fun b c hb => by simp at hb, apart := fun i j hi => by simp [St.ids] at hi, keys := by simp [St.ids], fixed := fun b c hb => by simp at hb }
 ·show (vs.toArray ++ Array.replicate (n - vs.toArray.size) undef).size = n
  simp only [Array.size_append, List.size_toArray, Array.size_replicate]
  omega
 ·have hs := argSl_slots (m := fun _ => undef) (T := vs.toArray ++ Array.replicate (n - vs.toArray.size) undef) 0 hargs (fun i v hi => by
   rw [Nat.zero_add, Array.getElem?_append_left (by have := (List.getElem?_eq_some_iff.1 hi).1; simpa using this)]
   simpa using hi)
  intro i sv hi
  obtain ⟨v, h1, h2⟩ := hs i sv hi
  exact ⟨v, h1, zap (fun _ _ _ => rfl) (fun b _ hb => hmut b hb) h2⟩
def freezeL : List (Nat × RowC) -> St -> St
 | [], st => st
 | (r, c) :: l, st => freezeL l (match look st.rw r with | some c' => st.freeze r c' | none => st)
def freezeMs : List (Nat × BX) -> St -> St
 | [], st => st
 | (r, _) :: l, st => freezeMs l (match look st.bx r with | some (.mp k v ps) => st.freezeMp r k v ps | _ => st)
theorem freezeMs_sound : ∀ {l : List (Nat × BX)} {st : St}, Rm cx m st T w -> Rm cx m (freezeMs l st) T w
 | [], _, h => h
 | (r, c) :: l, st, h => by
  refine freezeMs_sound (l := l) ?_
  split
  ·rename_i k v ps hc; exact h.freezeMp (zak hc)
  ·exact h
def freezeAll (st : St) : St := freezeRs st.bx (freezeMs st.bx (freezeL st.rw st))
theorem freezeL_sound : ∀ {l : List (Nat × RowC)} {st : St}, Rm cx m st T w -> Rm cx m (freezeL l st) T w
 | [], _, h => h
 | (r, c) :: l, st, h => by
  refine freezeL_sound (l := l) ?_
  split
  ·rename_i c' hc; exact h.freeze (zak hc)
  ·exact h
def evRes (P : Program) (st : St) : List ResultVar -> Option (List TV)
 | [] => some []
 | .tmp t :: l => match look st.sl t, evRes P st l with
  | some (.val u x), some vs => some (⟨u, x⟩ :: vs)
  | _, _ => none
 | .cell a ty' :: l => match look st.sl a, ty P ty', evRes P st l with
  | some (.ptr b off), some u, some vs => match look st.bx b with
   | some (.cells c _) => match pack u (c.drop off) with
    | some (x, _) => some (⟨u, x⟩ :: vs)
    | none => none
   | _ => none
  | some (.bp b []), some u, some vs => match look st.bx b with
   | some (.blk t x _) => match TV.as ⟨t, x⟩ u, Nat.beq u.cells 0 with
    | some y, false => some (⟨u, y⟩ :: vs)
    | _, _ => none
   | _ => none
  | _, _, _ => none
def resOf (T : Array Value) : ResultVar -> Sem Value
 | .tmp t => pure (T.getD t undef)
 | .cell a t => do loadVar t (<- asAddr (T.getD a undef))
theorem evRes_sound (h : Rm cx m st T w) : ∀ {l : List ResultVar} {rs : List TV}, evRes cx.P st l = some rs ->
  ∃ vs, (l.mapM (resOf T)).run cx.P w = .ok vs w /\ repVs w (Mut cx m st.ids) vs rs
 | [], _, hs => by cases hs; exact ⟨[], by simp, trivial⟩
 | .tmp t :: l, rs, hs => by
  simp only [evRes] at hs
  split at hs
  ·rename_i u x vs' hl hr
   cases hs
   obtain ⟨vs, h1, h2⟩ := evRes_sound h hr
   obtain ⟨v, h3, h4⟩ := h.slots t _ (zak hl)
   refine ⟨v :: vs, ?_, h4, h2⟩
   have hg : T.getD t undef = v := by rw [Array.getD_eq_getD_getElem?, h3]; rfl
   have h5 : (resOf T (.tmp t)).run cx.P w = .ok v w := by show Sem.run cx.P (pure (T.getD t undef)) w = _; rw [hg, Sem.run_pure]
   rw [List.mapM_cons, Sem.run_bind, h5]
   simp only [Result.andThen_ok, Sem.run_bind, h1, Sem.run_pure]
  ·cases hs
 | .cell a t :: l, rs, hs => by
  simp only [evRes] at hs
  split at hs
  ·rename_i b off u vs' hl ht hr
   split at hs
   ·rename_i c hc
    split at hs
    ·rename_i x r hp
     cases hs
     obtain ⟨vs, h1, h2⟩ := evRes_sound h hr
     obtain ⟨v0, h3, g, hg1, hg2⟩ := h.slots a _ (zak hl)
     obtain ⟨g', e1, _, cells, e3, e4⟩ := h.box (zak hc)
     have : g' = g := by rw [hg1] at e1; cases e1; rfl
     subst this
     obtain ⟨_, hd⟩ := zbh (w := w) (m := m) off e4
     obtain ⟨c1, c2, hcs, hrep, _⟩ := pack_rep u hd hp
     have hag : u.agg = false -> 0 < u.cells := by
      intro hh
      cases u <;> first | (simp [Ty.cells]; done) | (simp [Ty.agg] at hh)
     obtain ⟨v, hv1, hv2⟩ := load_raw (c := c1) ht e3 (fun j v hj => by
      have : (cells.toList.drop off)[j]? = some v := by rw [hcs, List.getElem?_append_left (List.getElem?_eq_some_iff.1 hj).1]; exact hj
      rw [List.getElem?_drop] at this
      simpa using this) (zag u hrep) hag
     have hv : repV w (Mut cx m st.ids) v u x := by
      cases hh : u.agg with
      | true => rw [hh, if_pos rfl] at hv2; exact (za4 hh).2 ⟨c1, hv2, hrep⟩
      | false => rw [hh] at hv2; simp at hv2; subst hv2; exact (za3 hh).2 hrep
     refine ⟨v :: vs, ?_, hv, h2⟩
     have hgd : T.getD a undef = .pointer (some ⟨g', off, none⟩) := by rw [Array.getD_eq_getD_getElem?, h3, hg2]; rfl
     have h5 : (resOf T (.cell a t)).run cx.P w = .ok v w := by
      show Sem.run cx.P (do loadVar t (<- asAddr (T.getD a undef))) w = _
      rw [Sem.run_bind, hgd]
      exact hv1 w (Ext.refl w)
     rw [List.mapM_cons, Sem.run_bind, h5]
     simp only [Result.andThen_ok, Sem.run_bind, h1, Sem.run_pure]
    ·cases hs
   ·cases hs
  ·rename_i b u vs' hl ht hr
   split at hs
   ·rename_i t' x e hc
    split at hs
    ·rename_i y hy hz
     cases hs
     have ey := TV.as_some hy
     cases ey
     obtain ⟨vs, h1, h2⟩ := evRes_sound h hr
     obtain ⟨v0, h3, g, hg1, hg2⟩ := h.slots a _ (zak hl)
     obtain ⟨g', e1, _, cells, e3, e4⟩ := h.box (zak hc)
     have : g' = g := by rw [hg1] at e1; cases e1; rfl
     subst this
     have hpos : 0 < u.cells := Nat.pos_of_ne_zero (zao hz)
     obtain ⟨v, hv1, hv2⟩ := load_raw (off := 0) (c := cells.toList) ht e3 (fun j v hj => by rw [Nat.zero_add, <- Array.getElem?_toList]; exact hj) (zag u e4) (fun _ => hpos)
     have hv : repV w (Mut cx m st.ids) v u y := by
      cases hag : u.agg with
      | true => rw [hag, if_pos rfl] at hv2; exact (za4 hag).2 ⟨_, hv2, e4⟩
      | false => rw [hag] at hv2; simp only [Bool.false_eq_true, if_false] at hv2; rw [hv2] at e4; exact (za3 hag).2 e4
     refine ⟨v :: vs, ?_, hv, h2⟩
     have hgd : T.getD a undef = .pointer (some ⟨g', 0, none⟩) := by rw [Array.getD_eq_getD_getElem?, h3, hg2]; rfl
     have h5 : (resOf T (.cell a t)).run cx.P w = .ok v w := by
      show Sem.run cx.P (do loadVar t (<- asAddr (T.getD a undef))) w = _
      rw [Sem.run_bind, hgd]
      exact hv1 w (Ext.refl w)
     rw [List.mapM_cons, Sem.run_bind, h5]
     simp only [Result.andThen_ok, Sem.run_bind, h1, Sem.run_pure]
    ·cases hs
   ·cases hs
  ·cases hs
theorem run_results {P : Program} {fn : Func} {T : Array Value} {vs : List Value} (h : (fn.results.toList.mapM (resOf T)).run P w = .ok vs w) :
  (results fn T).run P w = .ok (if h : vs.toArray.size = 1 then vs.toArray[0] else .tuple vs.toArray) w := by
 show Sem.run P (do let vs <- fn.results.mapM (resOf T); pure (if h : vs.size = 1 then vs[0] else .tuple vs)) w = _
 rw [Array.mapM_eq_mapM_toList, Sem.run_bind]
 have e : (Functor.map List.toArray (fn.results.toList.mapM (resOf T))).run P w = .ok vs.toArray w := by
  rw [map_eq_pure_bind, Sem.run_bind, h]
  rfl
 rw [e]
 rfl
def Owes (P : Program) (fn : Func) (M : Nat -> Prop) (w0 : World) (rs : List TV) : Post :=
 bodyPost P fn fun e w' => ∃ v, e = .returned v /\ repRes w' M v rs /\ Ext w0 w'
theorem N_end {P : Program} {n : Nat} {M : Nat -> Prop} {w0 : World} {fn : Func} {rs : List TV} {e : Exit} (he : e = .ret \/ e = .normal) (hev : evRes P (freezeAll st) fn.results.toList = some rs) :
  N ⟨P, n, w0, M, fun _ => False, fun _ => undef⟩ (Owes P fn M w0 rs) e st := by
 rintro T w ⟨m, hm⟩
 have hm' := freezeRs_sound (l := st.bx) (freezeMs_sound (l := st.bx) (freezeL_sound (l := st.rw) hm))
 obtain ⟨vs, h1, h2⟩ := evRes_sound hm' hev
 have hrun := run_results h1
 have hext : Ext w0 w := { os := hm.frame.os, tape := hm.frame.tape, output := hm.frame.output, size := hm.frame.size, drawn := hm.frame.drawn, block := fun b hb => hm.frame.block b hb (fun h => h) }
 have h3 : repVs w M vs rs := repVs_ext (fun _ _ _ => rfl) (fun b _ hb => .inl hb) h2
 have hres : repRes w M (if h : vs.toArray.size = 1 then vs.toArray[0] else .tuple vs.toArray) rs := by
  match vs, rs, h3 with
  | [], [], _ => trivial
  | [v], [u], ⟨h, _⟩ => exact h
  | v1 :: v2 :: vs, u1 :: u2 :: us, h =>
   have hne : ¬ (v1 :: v2 :: vs).toArray.size = 1 := by simp
   rw [dif_neg hne]
   exact ⟨_, rfl, h⟩
  | [], _ :: _, h => exact h.elim
  | _ :: _, [], h => exact h.elim
  | [_], _ :: _ :: _, ⟨_, h⟩ => exact h.elim
  | _ :: _ :: _, [_], ⟨_, h⟩ => exact h.elim
 rcases he with rfl | rfl <;> exact ⟨rfl, _, hrun, _, rfl, hres, hext⟩
theorem zbv {P : Program} {f : FuncId} {fn : Func} {c : Code} (hf : P.funcs[f]? = some fn) (hname : (fn.name == "runtime.NumGoroutine") = false) (hb : fn.body = some c) :
  ∀ args w, (callFunc f args).run P w = .ok (.enter f args) w := by
 intro args w
 have h1 : fn.name ≠ "runtime.NumGoroutine" := by simpa using hname
 simp [callFunc, hf, h1, hb, mark]
theorem contract_of {P : Program} {G : World -> Prop} (hst : ∀ w w', Frame w w' (fun _ => False) -> G w -> G w') {f : FuncId} {fn : Func} {c : Code} {F : FnC} (hf : P.funcs[f]? = some fn) (hname : (fn.name == "runtime.NumGoroutine") = false) (hb : fn.body = some c)
  (shape : ∀ as0 rs, F.rel as0 rs -> as0.length <= fn.ntmps /\ rs.length = F.nres /\ (F.flat = true -> ∀ u ∈ rs, u.t.flat = true))
  (body : ∀ (w0 : World) (M : Nat -> Prop) (as0 rs : List TV), (∀ w, Frame w0 w (fun _ => False) -> G w) -> F.rel as0 rs -> W ⟨P, fn.ntmps, w0, M, fun _ => False, fun _ => undef⟩ (Owes P fn M w0 rs) c ⟨argSl 0 as0, [], []⟩) : Contract P G f F where
 enters := zbv hf hname hb
 shape := fun as0 rs h => (shape as0 rs h).2
 calls := fun w M vs as0 rs hG hM hrel hargs => calls_of_wp hf hb (body w M as0 rs (fun w' h => hst w w' h hG) hrel _ _ (entry hM hargs (shape as0 rs hrel).1))
end Go.Ev
namespace Go.Ev
open Go Go.RowKit
variable [Dr]
variable {cx : Cx} {st st' : St} {E : Env} {Q : Post} {ops : Array Oper} {l : List Oper}
abbrev I64 (x : Int) : SV := .val (.int .i64) x
abbrev I32 (x : Int) : SV := .val (.int .i32) x
abbrev U32 (x : Int) : SV := .val (.int .u32) x
abbrev U8 (x : Int) : SV := .val (.int .u8) x
abbrev BB (x : Bool) : SV := .val .bool x
abbrev SS (x : List UInt8) : SV := .val .str x
abbrev tI64 (x : Int) : TV := ⟨.int .i64, x⟩
abbrev tI32 (x : Int) : TV := ⟨.int .i32, x⟩
abbrev tB (x : Bool) : TV := ⟨.bool, x⟩
abbrev tS (x : List UInt8) : TV := ⟨.str, x⟩
def wi64 (x : Int) : Int := IntKind.i64.wrap x
def wu32 (x : Int) : Int := IntKind.u32.wrap x
def wu8 (x : Int) : Int := IntKind.u8.wrap x
theorem WL_split (S : Bool -> St) {b : Bool} (ht : b = true -> WL cx ops Q l (S true)) (hf : b = false -> WL cx ops Q l (S false)) : WL cx ops Q l (S b) := by cases b with | true => exact ht rfl | false => exact hf rfl
theorem WL_tk (hE : EnvOK E cx) (n : Nat) (ks bs rs : List Nat) {orc : List TV} {ob : List Prop} (hev : evK E ops (l.take n) st orc ks bs rs = some (st', [], ob)) (hob : allP ob) (h : WL cx ops Q (l.drop n) st') : WL cx ops Q l st := by
 obtain ⟨s, h1, h2⟩ := evK_some hev
 exact WL_take hE n h1 hob (h.norm h2)
theorem WL_all (hE : EnvOK E cx) (ks bs rs : List Nat) {orc : List TV} {ob : List Prop} (hev : evK E ops l st orc ks bs rs = some (st', [], ob)) (hob : allP ob) (h : N cx Q .normal st') : WL cx ops Q l st := by
 obtain ⟨s, h1, h2⟩ := evK_some hev
 exact WL_ev hE h1 hob (h.norm h2)
theorem W_join {α : Type} (F : α -> Prop) (S : α -> St) {x y : Code} (hy : ∀ a, F a -> W cx Q y (S a)) (hx : (∀ a, F a -> N cx (Exit.then (y.wp cx.P Q) Q) .normal (S a)) -> W cx (Exit.then (y.wp cx.P Q) Q) x st) : W cx Q (.seq x y) st :=
 W_seq (hx fun a ha => N_then (hy a ha))
theorem WL_join {α : Type} (F : α -> Prop) (S : α -> St) (n : Nat) (hy : ∀ a, F a -> WL cx ops Q (l.drop n) (S a)) (hx : (∀ a, F a -> N cx (Exit.then (wpList cx.P ops Q (l.drop n)) Q) .normal (S a)) -> WL cx ops (Exit.then (wpList cx.P ops Q (l.drop n)) Q) (l.take n) st) : WL cx ops Q l st := by
 intro T w hR
 have := wpList_append (P := cx.P) (ops := ops) (Q := Q) (l1 := l.take n) (l2 := l.drop n) (hx (fun a ha => N_thenL (hy a ha)) T w hR)
 rwa [List.take_append_drop] at this
def chk (p : Prop) [Decidable p] : Option Unit := if p then some () else none
theorem zbw {p : Prop} [Decidable p] {x : Unit} (h : chk p = some x) : p := by
 unfold chk at h
 split at h
 ·assumption
 ·cases h
theorem or_t {g e : Bool} (h : g = true) : (g || e) = true := by rw [h, Bool.true_or]
theorem or_f {g e : Bool} (h : g = false) : (g || e) = e := by rw [h, Bool.false_or]
theorem bind_some {α β : Type} {o : Option α} {f : α -> Option β} {r : β} (h : o.bind f = some r) : ∃ x, o = some x /\ f x = some r := Option.bind_eq_some_iff.1 h
theorem ite_t {α : Type} {b : Bool} {x y : α} {r : α} (hb : b = true) (h : (if b then x else y) = r) : x = r := by rw [<- h, if_pos hb]
theorem ite_f {α : Type} {b : Bool} {x y : α} {r : α} (hb : b = false) (h : (if b then x else y) = r) : y = r := by rw [<- h, if_neg (by rw [hb]; decide)]
theorem EnvOK.nil {P : Program} {G : World -> Prop} {n : Nat} {cx : Cx} (h1 : cx.P = P) (h2 : cx.n = n) (h3 : ∀ w, Frame cx.w0 w cx.X -> G w) : EnvOK ⟨P, G, n, []⟩ cx := ⟨h1, h2, h3, fun _ _ h => by cases h⟩
theorem EnvOK.cons {P : Program} {G : World -> Prop} {n : Nat} {fns : List (Nat × FnC)} {cx : Cx} {f : Nat} {F : FnC} (hc : Contract P G f F) (h : EnvOK ⟨P, G, n, fns⟩ cx) : EnvOK ⟨P, G, n, (f, F) :: fns⟩ cx :=
 ⟨h.P, h.n, h.glob, fun g G hg => by rcases List.mem_cons.1 hg with hg | hg; cases hg; exact hc; exact h.fns g G hg⟩
/-! Slices of maps; maps of one entry at most. -/
def o2at {α : Type} (xs : List (Option (Option α))) (i : Int) : Option (Option α) :=
 match xs[i.toNat]? with
 | some (some y) => some y
 | _ => none
theorem o2at_some {α : Type} {xs : List (Option (Option α))} {i : Int} {y : Option α} (h : o2at xs i = some y) : xs[i.toNat]? = some (some y) := by
 unfold o2at at h
 split at h
 ·cases h; assumption
 ·cases h
def o2ps {α : Type} (xs : List (Option (Option α))) (i : Int) : Option α :=
 match xs[i.toNat]? with
 | some (some (some y)) => some y
 | _ => none
theorem o2ps_some {α : Type} {xs : List (Option (Option α))} {i : Int} {y : α} (h : o2ps xs i = some y) : xs[i.toNat]? = some (some (some y)) := by
 unfold o2ps at h
 split at h
 ·cases h; assumption
 ·cases h
theorem o2_new {α : Type} (z : α) {n : Int} (h : 0 < n) : List.replicate n.toNat z = List.replicate (List.length (List.replicate n.toNat z)) z /\ 0 < List.length (List.replicate n.toNat z) := by
 rw [List.length_replicate]
 exact ⟨rfl, by omega⟩
def mcase1 {α β : Type} (l : List α) (a : Option β) (f : α -> Option β) : Option β :=
 match l with
 | [] => a
 | [p] => f p
 | _ => none
theorem mcase1_some {α β : Type} {l : List α} {a : Option β} {f : α -> Option β} {y : β} (h : mcase1 l a f = some y) : (l = [] /\ a = some y) \/ ∃ p, l = [p] /\ f p = some y := by
 unfold mcase1 at h
 split at h
 ·exact .inl ⟨rfl, h⟩
 ·exact .inr ⟨_, rfl, h⟩
 ·cases h
end Go.Ev
namespace Go.Ev
open Go
def utf8_DecodeRuneInString (_k : Nat) (s : List UInt8) : Option (Int × Int) := some (((Lib.decodeGo ⟨s.toArray⟩).1 : Int), ((Lib.decodeGo ⟨s.toArray⟩).2 : Int))
/-! The builder. -/
def bld_copyCheck (_k : Nat) (_l : List Int) : Option Unit := some ()
def bld_String (_k : Nat) (l : List Int) : Option (List UInt8) := if bytesEl (za8 l) = l then some (za8 l) else none
def strings_Repeat (_k : Nat) (s : List UInt8) (n : Int) : Option (List UInt8) := if 0 <= n /\ n <= 9223372036854775807 /\ s.length * n.toNat <= 140737488355328 then some (Lib.repeatL s n.toNat) else none
end Go.Ev
namespace Go.Ev
open Go Go.RowKit
variable [Dr]
variable {cx : Cx} {m : Nat -> Value} {st st' : St} {T : Array Value} {w w' : World} {E : Env} {Q : Post} {ops : Array Oper} {l : List Oper}
theorem flat_detVs {w w' : World} {M M' : Nat -> Prop} : ∀ {vs vs' : List Value} {l : List TV}, (∀ u ∈ l, u.t.flat = true) -> repVs w M vs l -> repVs w' M' vs' l -> vs = vs'
 | [], [], [], _, _, _ => rfl
 | [], _, _ :: _, _, h, _ => h.elim
 | _ :: _, _, [], _, h, _ => h.elim
 | _, [], _ :: _, _, _, h => h.elim
 | _, _ :: _, [], _, _, h => h.elim
 | _ :: _, _ :: _, u :: _, hf, ⟨h1, h2⟩, ⟨h3, h4⟩ => by
  rw [flat_detV (hf u List.mem_cons_self) h1 h3, flat_detVs (fun x hx => hf x (List.mem_cons_of_mem _ hx)) h2 h4]
def flatRes : List TV -> Bool
 | [] => false
 | l => l.all fun u => u.t.flat
theorem resSV_det {w w' : World} {M M' : Nat -> Prop} {m m' : Nat -> Value} {v v' : Value} {l : List TV} (hf : flatRes l = true) (h : repS w M m v (resSV l)) (h' : repS w' M' m' v' (resSV l)) : v = v' := by
 match l, hf, h, h' with
 | [u], hf, h, h' => exact flat_detV (by simpa [flatRes] using hf) h h'
 | u1 :: u2 :: us, hf, ⟨vs, e, h⟩, ⟨vs', e', h'⟩ =>
  rw [e, e', flat_detVs (fun u hu => by simp only [flatRes, List.all_eq_true] at hf; exact hf u hu) h h']
def evD1 (E : Env) (st : St) (o : Oper) (orc : List TV) : Option PR :=
 match evP E.P st o.op orc with
 | some r => some r
 | none => match rrQ E.P st o orc with
 | some r => some r
 | none => match o.op with
  | .load t x => evLoad E.P st t x orc
  | .call c => match c.callee with
   | .value x => match calleeOf E st x with
    | some (_, F, _) => bif F.flat && flatRes (orc.take F.nres) then evCall E st c orc else none
    | none => none
   | _ => none
  | _ => none
def evD (E : Env) (ops : Array Oper) : List Oper -> St -> List TV -> Option (St × List TV × List Prop)
 | [], st, orc => some (st, orc, [])
 | o :: l, st, orc => match wantSV ops st o with
  | some true => match o.dst, evD1 E st o orc with
   | some d, some r => match Nat.blt d E.n, evD E ops l (st.put d r.sv) r.orc with
    | true, some (st2, orc2, ob2) => some (st2, orc2, r.ob ++ ob2)
    | _, _ => none
   | _, _ => none
  | some false => match o.dst with
   | some d => match Nat.blt d E.n with
    | true => evD E ops l (st.put d .undef) orc
    | false => none
   | none => evD E ops l st orc
  | none => none
theorem calls_exists {P : Program} {f : FuncId} {args : Array Value} {R : Ending -> World -> Prop} (h : Calls P f args w R) : ∃ e w', R e w' := by
 obtain ⟨e, w', fr, hR, _⟩ := h []
 exact ⟨e, w', hR⟩
theorem evD1_sound (hE : EnvOK E cx) (h : Rm cx m st T w) {o : Oper} {orc : List TV} {r : PR} (hev : evD1 E st o orc = some r) (hob : allP r.ob) :
  ∃ v, (∀ w', Ext w w' -> o.quietAt cx.P ⟨T, []⟩ (Ext w) w' v) /\ repS w (Mut cx m st.ids) m v r.sv := by
 unfold evD1 at hev
 split at hev
 ·rename_i r' hp
  cases hev
  rw [<- hE.P] at hp
  obtain ⟨v, hd, hv⟩ := evP_sound h hp hob
  refine ⟨v, fun w' he => ?_, hv⟩
  unfold Oper.quietAt
  rw [hd w' he]
  exact ⟨rfl, rfl⟩
 ·split at hev
  ·rename_i r' hp
   cases hev
   rw [<- hE.P] at hp
   obtain ⟨v, hs, hv⟩ := rrQ_sound h hp hob
   refine ⟨v, fun w' he => ?_, hv⟩
   unfold Oper.quietAt
   rw [hs w' he]
   exact ⟨rfl, rfl⟩
  split at hev
  ·rename_i t x hop
   rw [<- hE.P] at hev
   obtain ⟨v, hs, hv⟩ := evLoad_sound h hev hob
   refine ⟨v, fun w' he => ?_, hv⟩
   unfold Oper.quietAt
   rw [zbk (by simp only [execOp, hop]) (hs w' he)]
   exact ⟨rfl, rfl⟩
  ·rename_i c hop
   split at hev
   ·rename_i xo hc
    split at hev
    ·rename_i f F lc hF
     cases hb : F.flat && flatRes (orc.take F.nres) with
     | false => rw [hb] at hev; cases hev
     | true =>
      rw [hb, cond_true] at hev
      simp only [Bool.and_eq_true] at hb
      have hr : r.sv = resSV (orc.take F.nres) := by
       unfold evCall at hev
       rw [hc] at hev
       simp only [hF] at hev
       split at hev
       ·cases hn : Nat.ble F.nres orc.length with
        | false => rw [hn] at hev; cases hev
        | true => rw [hn] at hev; cases hev; rfl
       ·cases hev
      obtain ⟨f0, args, hrun, hcalls⟩ := evCall_sound hE h hop hev hob
      obtain ⟨e, w1, v, _, hext, hv⟩ := calls_exists hcalls
      refine ⟨v, fun w' he => ?_, ?_⟩
      ·obtain ⟨f1, args1, hrun1, hcalls1⟩ := evCall_sound hE (h.ext he) hop hev hob
       unfold Oper.quietAt
       rw [hrun1 w']
       refine ⟨rfl, hcalls1.mono ?_⟩
       rintro e' w2 ⟨v', he', hext', hv'⟩
       rw [hr] at hv hv'
       refine ⟨?_, he.trans hext'⟩
       rw [he', resSV_det hb.2 hv' hv]
      ·rw [hr] at hv ⊢
       have hfl : ∀ u ∈ orc.take F.nres, u.t.flat = true := by
        have h2 := hb.2
        intro u hu
        cases hl : orc.take F.nres with
        | nil => rw [hl] at hu; simp at hu
        | cons a as0 => rw [hl] at h2 hu; simp only [flatRes, List.all_eq_true] at h2; exact h2 u hu
       match hl : orc.take F.nres, hfl, hv with
       | [], _, _ => trivial
       | [u], hfl, hv => exact repV_flat (hfl u List.mem_cons_self) hv
       | _ :: _ :: _, hfl, ⟨vs, e, hvs⟩ => exact ⟨vs, e, repVs_flat hfl hvs⟩
    ·cases hev
   ·cases hev
  ·cases hev
theorem evD_sound (hE : EnvOK E cx) {Q' : Act -> Prop} : ∀ {l : List Oper} {st : St} {T : Array Value} {orc orc' : List TV} {st' : St} {ob : List Prop}, R cx st T w -> evD E ops l st orc = some (st', orc', ob) -> allP ob ->
  (∀ T', R cx st' T' w -> Q' ⟨T', []⟩) -> wpQuiet cx.P ops (Ext w) Q' l ⟨T, []⟩
 | [], st, T, _, _, _, _, h, hev, _, hQ => by
  cases hev
  exact hQ T h
 | o :: l, st, T, orc, orc', st', ob, h, hev, hob, hQ => by
  unfold evD at hev
  unfold wpQuiet
  split at hev
  ·rename_i hw
   rw [zbo h hw]
   simp only [if_true]
   split at hev
   ·rename_i d r hd hr
    split at hev
    ·rename_i st2 orc2 ob2 hdn hl
     cases hev
     obtain ⟨ha, hb⟩ := allP_append hob
     obtain ⟨m, hm⟩ := h
     obtain ⟨v, hq, hv⟩ := evD1_sound hE hm hr ha
     refine ⟨v, hq, ?_⟩
     rw [hd]
     exact evD_sound hE ⟨m, hm.put (by rw [hE.n]; exact zax hdn) hv⟩ hl hb hQ
    ·cases hev
   ·cases hev
  ·rename_i hw
   rw [zbo h hw]
   simp only [Bool.false_eq_true, if_false]
   split at hev
   ·rename_i d hd
    split at hev
    ·rename_i hdn
     obtain ⟨m, hm⟩ := h
     rw [hd]
     exact evD_sound hE ⟨m, hm.put (d := d) (s := .undef) (v := undef) (by rw [hE.n]; exact zax hdn) rfl⟩ hev hob hQ
    ·cases hev
   ·rename_i hd
    rw [hd]
    exact evD_sound hE h hev hob hQ
  ·cases hev
def WD (cx : Cx) (ops : Array Oper) (Q : Post) (l : List Oper) (st : St) : Prop := ∀ T w, R cx st T w -> wpQuiet cx.P ops (Ext w) (fun a => ∀ w', Ext w w' -> Q .normal a w') l ⟨T, []⟩
theorem W_draw {E : Env} (hE : EnvOK E cx) {id : Nat} {l : List Oper} (hm : E.P.follows .mixedOrders = true) (hB : Region.lexB .any l.toArray = true) (h : WD cx l.toArray Q l st) : W cx Q (.region id l.toArray true) st := fun T w hR =>
 wp_region_quiet (C := Ext w) (hE.P ▸ hm) hB { os := rfl, tape := rfl, output := rfl, size := Nat.le_refl _, drawn := fun _ => Nat.le_succ _, block := fun _ _ => rfl } (by simpa using h T w hR)
theorem R.ext (h : R cx st T w) (he : Ext w w') : R cx st T w' := let ⟨m, hm⟩ := h; ⟨m, hm.ext he⟩
theorem zbx {P : Program} {C : World -> Prop} {Q' : Act -> Prop} : ∀ {l1 l2 : List Oper} {a : Act}, wpQuiet P ops C (wpQuiet P ops C Q' l2) l1 a -> wpQuiet P ops C Q' (l1 ++ l2) a
 | [], _, _, h => h
 | o :: l1, l2, a, h => by
  simp only [List.cons_append, wpQuiet] at h ⊢
  split
  ·rename_i hw
   rw [if_pos hw] at h
   exact Oper.quiet_mono (fun a => zbx) h
  ·rename_i hw
   rw [if_neg hw] at h
   exact zbx h
def evDK (E : Env) (ops : Array Oper) (l : List Oper) (st : St) (orc : List TV) (ks bs rs : List Nat) : Option (St × List TV × List Prop) :=
 match evD E ops l st orc with
 | some (s, o, p) => match s.norm ks bs rs with
  | some s' => some (s', o, p)
  | none => none
 | none => none
theorem evDK_some {orc orc' : List TV} {ob : List Prop} {ks bs rs : List Nat} (h : evDK E ops l st orc ks bs rs = some (st', orc', ob)) : ∃ s, evD E ops l st orc = some (s, orc', ob) /\ s.norm ks bs rs = some st' := by
 unfold evDK at h
 split at h
 ·rename_i s o p hl
  split at h
  ·rename_i s' hn
   cases h
   exact ⟨s, hl, hn⟩
  ·cases h
 ·cases h
theorem WD_all (hE : EnvOK E cx) (ks bs rs : List Nat) {orc : List TV} {ob : List Prop} (hev : evDK E ops l st orc ks bs rs = some (st', [], ob)) (hob : allP ob) (h : N cx Q .normal st') : WD cx ops Q l st := by
 obtain ⟨s, h1, h2⟩ := evDK_some hev
 intro T w hR
 exact evD_sound hE hR h1 hob fun T' hR' w' he => h T' w' ((hR'.norm h2).ext he)
def ND (cx : Cx) (K : World -> Act -> Prop) (st : St) : Prop := ∀ T w, R cx st T w -> K w ⟨T, []⟩
def WDK (cx : Cx) (ops : Array Oper) (K : World -> Act -> Prop) (l : List Oper) (st : St) : Prop := ∀ T w, R cx st T w -> wpQuiet cx.P ops (Ext w) (K w) l ⟨T, []⟩
end Go.Ev
namespace Go.Ev
open Go Go.Proofs Go.Shelf
set_option maxRecDepth 100000
def Gl : World -> Prop := fun w => Lib.Utf8Tabs 1 2 w /\ (1 < w.heap.size /\ 2 < w.heap.size)
theorem cell_lt {w : World} {p : Addr} {v : Value} (h : w.cell? p = some v) : p.block < w.heap.size := by
 refine Nat.lt_of_not_le fun hn => ?_
 have : w.heap[p.block]? = none := Array.getElem?_eq_none hn
 simp [World.cell?, this] at h
theorem Gl_of {w : World} (h : Lib.Utf8Tabs 1 2 w) : Gl w :=
 ⟨h, cell_lt (h.1 0 (by decide)), cell_lt (h.2 0 (by decide)).1⟩
theorem zby : ∀ w w', Frame w w' (fun _ => False) -> Gl w -> Gl w' := by
 rintro w w' hf ⟨⟨h1, h2⟩, b1, b2⟩
 have k1 : ∀ c, w'.cell? ⟨1, c, none⟩ = w.cell? ⟨1, c, none⟩ := fun c => World.cell?_of_block (w := w) (hf.block _ b1 id)
 have k2 : ∀ c, w'.cell? ⟨2, c, none⟩ = w.cell? ⟨2, c, none⟩ := fun c => World.cell?_of_block (w := w) (hf.block _ b2 id)
 refine ⟨⟨fun c hc => by rw [k1]; exact h1 c hc, fun i hi => by rw [k2, k2]; exact h2 i hi⟩, Nat.lt_of_lt_of_le b1 hf.size, Nat.lt_of_lt_of_le b2 hf.size⟩
def zbz (k : Nat) : FnC := ⟨true, 2, [], fun | [⟨.str, s⟩], [⟨.int .i32, r⟩, ⟨.int .i64, n⟩] => utf8_DecodeRuneInString k s = some (r, n) | _, _ => False⟩
theorem c_unicode_utf8_DecodeRuneInString (k : Nat) : Contract Tryz.prog Gl 113 (zbz k) where
 enters := zbv Tryz.func113 (by kernel_rfl) rfl
 shape := fun xs rs h => by
  unfold zbz at h
  simp only at h
  split at h
  ·exact ⟨rfl, fun _ u hu => by simp at hu; (rcases hu with rfl | rfl) <;> rfl⟩
  ·exact h.elim
 calls := fun w M vs xs rs hG hM h hv => by
  unfold zbz at h
  simp only at h
  split at h
  case h_2 => exact h.elim
  rename_i s r n
  match vs, hv with
  | [v], ⟨hv, _⟩ =>
   have hs : v = .string ⟨s.toArray⟩ := by
    have := (show rep w M .str [v] s from hv).1
    simpa using this
   subst hs
   refine (Any.utf8_DecodeRuneInString Llays197 ⟨s.toArray⟩ w hG.1).mono ?_
   rintro e w' ⟨rfl, hb⟩
   cases h
   exact ⟨_, rfl, ⟨[_, _], rfl, rfl, rfl, trivial⟩, Ext.of_below hb fun h => h.elim⟩
theorem u8x : U8Extra Tryz.prog Llays260_ren := ⟨by kernel_rfl, by kernel_rfl, by kernel_rfl, by kernel_rfl, by kernel_rfl, by kernel_rfl, by kernel_rfl⟩
theorem Gl_of_reads {w : World} (h3 : Lib.VarReads Tryz.prog w "unicode/utf8.first" Lib.firstData) (h4 : Lib.VarReads Tryz.prog w "unicode/utf8.acceptRanges" Lib.acceptData) : Gl w :=
 Gl_of (utf8Tabs_of_reads Llays260 u8x h3 h4)
end Go.Ev
namespace Go.Ev
open Go Go.RowKit
variable [Dr]
variable {cx : Cx} {m : Nat -> Value} {st st' : St} {T : Array Value} {w w' : World} {E : Env} {Q : Post} {ops : Array Oper} {l : List Oper}
def renL (ρ : List (Nat × Nat)) : List Nat -> Option (List Nat)
 | [] => some []
 | b :: bs => match look ρ b, renL ρ bs with
  | some b', some bs' => some (b' :: bs')
  | _, _ => none
def renTRs (ρ : List (Nat × Nat)) : List TR -> Option (List TR)
 | [] => some []
 | .v u :: l => match renTRs ρ l with
  | some l' => some (.v u :: l')
  | none => none
 | .r b :: l => match look ρ b, renTRs ρ l with
  | some b', some l' => some (.r b' :: l')
  | _, _ => none
 | .a :: l => match renTRs ρ l with
  | some l' => some (.a :: l')
  | none => none
def SV.ren (ρ : List (Nat × Nat)) : SV -> SV
 | .ptr b off => match look ρ b with
  | some b' => .ptr b' off
  | none => .any
 | .selfp b => match look ρ b with
  | some b' => .selfp b'
  | none => .any
 | .row b => match look ρ b with
  | some b' => .row b'
  | none => .any
 | .rptr b i off sz => match look ρ b with
  | some b' => .rptr b' i off sz
  | none => .any
 | .iter b => match look ρ b with
  | some b' => .iter b'
  | none => .any
 | .osl b => match look ρ b with
  | some b' => .osl b'
  | none => .any
 | .optr b i => match look ρ b with
  | some b' => .optr b' i
  | none => .any
 | .sub b i => match look ρ b with
  | some b' => .sub b' i
  | none => .any
 | .rrp b i off sz => match look ρ b with
  | some b' => .rrp b' i off sz
  | none => .any
 | .ssp b i j off sz => match look ρ b with
  | some b' => .ssp b' i j off sz
  | none => .any
 | .bp b p => match look ρ b with
  | some b' => .bp b' p
  | none => .any
 | .clos f bs => match renL ρ bs with
  | some bs' => .clos f bs'
  | none => .any
 | .bclos f b => match look ρ b with
  | some b' => .bclos f b'
  | none => .any
 | .sa l => match renTRs ρ l with
  | some l' => .sa l'
  | none => .any
 | .tups l => match renTRs ρ l with
  | some l' => .tups l'
  | none => .any
 | s => s
def passBx (ρ : List (Nat × Nat)) (bx : List (Nat × BX)) : List (Nat × Nat) -> List (Nat × BX)
 | [] => []
 | (i, j) :: l => match look bx i with
  | some c => (j, c.map (SV.ren ρ)) :: passBx ρ bx l
  | none => passBx ρ bx l
def passRw (rw : List (Nat × RowC)) : List (Nat × Nat) -> List (Nat × RowC)
 | [] => []
 | (i, j) :: l => match look rw i with
  | some c => (j, c) :: passRw rw l
  | none => passRw rw l
theorem passBx_mem {ρ : List (Nat × Nat)} {bx : List (Nat × BX)} : ∀ {l : List (Nat × Nat)} {j : Nat} {c' : BX}, (j, c') ∈ passBx ρ bx l -> ∃ i c, (i, j) ∈ l /\ (i, c) ∈ bx /\ c' = c.map (SV.ren ρ)
 | [], _, _, h => by simp [passBx] at h
 | (i, j0) :: l, j, c', h => by
  unfold passBx at h
  split at h
  ·rename_i c hc
   rcases List.mem_cons.1 h with h | h
   ·cases h; exact ⟨i, c, List.mem_cons_self, zak hc, rfl⟩
   ·obtain ⟨i', c2, h1, h2⟩ := passBx_mem h; exact ⟨i', c2, List.mem_cons_of_mem _ h1, h2⟩
  ·obtain ⟨i', c2, h1, h2⟩ := passBx_mem h; exact ⟨i', c2, List.mem_cons_of_mem _ h1, h2⟩
theorem passRw_mem {rw : List (Nat × RowC)} : ∀ {l : List (Nat × Nat)} {j : Nat} {c : RowC}, (j, c) ∈ passRw rw l -> ∃ i, (i, j) ∈ l /\ (i, c) ∈ rw
 | [], _, _, h => by simp [passRw] at h
 | (i, j0) :: l, j, c', h => by
  unfold passRw at h
  split at h
  ·rename_i c hc
   rcases List.mem_cons.1 h with h | h
   ·cases h; exact ⟨i, List.mem_cons_self, zak hc⟩
   ·obtain ⟨i', h1, h2⟩ := passRw_mem h; exact ⟨i', List.mem_cons_of_mem _ h1, h2⟩
  ·obtain ⟨i', h1, h2⟩ := passRw_mem h; exact ⟨i', List.mem_cons_of_mem _ h1, h2⟩
def inv (ρ : List (Nat × Nat)) (j : Nat) : Option Nat := look (ρ.map fun p => (p.2, p.1)) j
theorem look_of_mem {α : Type} : ∀ {l : List (Nat × α)} {n : Nat} {v : α}, (l.map (·.1)).Nodup -> (n, v) ∈ l -> look l n = some v
 | [], _, _, _, h => by simp at h
 | (k, u) :: r, n, v, hn, h => by
  simp only [List.map_cons, List.nodup_cons] at hn
  unfold look
  rcases List.mem_cons.1 h with h | h
  ·cases h; simp [Nat.beq_refl]
  ·cases hb : Nat.beq k n with
   | true =>
    have e := Nat.eq_of_beq_eq_true hb
    subst e
    exact absurd (List.mem_map.2 ⟨_, h, rfl⟩) hn.1
   | false => exact look_of_mem hn.2 h
theorem inv_mem {ρ : List (Nat × Nat)} {i j : Nat} (hn : (ρ.map (·.2)).Nodup) (h : (i, j) ∈ ρ) : inv ρ j = some i := by
 refine look_of_mem ?_ (List.mem_map.2 ⟨_, h, rfl⟩)
 simpa [List.map_map, Function.comp_def] using hn
theorem mem_inv {ρ : List (Nat × Nat)} {i j : Nat} (h : inv ρ j = some i) : (i, j) ∈ ρ := by
 obtain ⟨p, hp, he⟩ := List.mem_map.1 (zak h)
 cases he
 exact hp
theorem renL_map {ρ : List (Nat × Nat)} {m m' : Nat -> Value} (hm : ∀ i j, (i, j) ∈ ρ -> m' j = m i) : ∀ {bs bs' : List Nat}, renL ρ bs = some bs' -> bs'.map m' = bs.map m
 | [], _, h => by cases h; rfl
 | b :: bs, bs', h => by
  unfold renL at h
  split at h
  ·rename_i b' bs2 h1 h2
   cases h
   rw [List.map_cons, List.map_cons, hm _ _ (zak h1), renL_map hm h2]
  ·cases h
theorem renTRs_rep {ρ : List (Nat × Nat)} {M : Nat -> Prop} {m m' : Nat -> Value} (hm : ∀ i j, (i, j) ∈ ρ -> m' j = m i) : ∀ {vs : List Value} {l l' : List TR}, renTRs ρ l = some l' -> repTRs w M m vs l -> repTRs w M m' vs l'
 | vs, [], _, h, hr => by cases h; cases vs <;> exact hr
 | [], .v _ :: _, _, _, hr => hr.elim
 | [], .r _ :: _, _, _, hr => hr.elim
 | [], .a :: _, _, _, hr => hr.elim
 | v :: vs, .a :: l, l', h, hr => by
  unfold renTRs at h
  split at h
  ·rename_i l2 h2; cases h; exact renTRs_rep (vs := vs) (l := l) hm h2 hr
  ·cases h
 | v :: vs, .v u :: l, l', h, hr => by
  unfold renTRs at h
  split at h
  ·rename_i l2 h2; cases h; exact ⟨hr.1, renTRs_rep hm h2 hr.2⟩
  ·cases h
 | v :: vs, .r b :: l, l', h, hr => by
  unfold renTRs at h
  split at h
  ·rename_i b' l2 h1 h2; cases h; exact ⟨by rw [hm _ _ (zak h1)]; exact hr.1, renTRs_rep hm h2 hr.2⟩
  ·cases h
theorem ren_rep {ρ : List (Nat × Nat)} {M : Nat -> Prop} {m m' : Nat -> Value} (hm : ∀ i j, (i, j) ∈ ρ -> m' j = m i) {v : Value} {s : SV} (h : repS w M m v s) : repS w M m' v (s.ren ρ) := by
 cases s with
 | any => trivial
 | undef => exact h
 | val t x => exact h
 | tup l => exact h
 | vptr t x => exact h
 | ptr b off =>
  simp only [SV.ren]
  split
  ·rename_i b' hb; obtain ⟨g, h1, h2⟩ := h; exact ⟨g, by rw [hm _ _ (zak hb)]; exact h1, h2⟩
  ·trivial
 | selfp b =>
  simp only [SV.ren]
  split
  ·rename_i b' hb; show _ \/ v = m' b'; rw [hm _ _ (zak hb)]; exact h
  ·trivial
 | row b =>
  simp only [SV.ren]
  split
  ·rename_i b' hb; show v = m' b'; rw [hm _ _ (zak hb)]; exact h
  ·trivial
 | rptr b i off sz =>
  simp only [SV.ren]
  split
  ·rename_i b' hb; obtain ⟨g, n, cap, h1, h2⟩ := h; exact ⟨g, n, cap, by rw [hm _ _ (zak hb)]; exact h1, h2⟩
  ·trivial
 | iter b =>
  simp only [SV.ren]
  split
  ·rename_i b' hb; show v = m' b'; rw [hm _ _ (zak hb)]; exact h
  ·trivial
 | osl b =>
  simp only [SV.ren]
  split
  ·rename_i b' hb; obtain ⟨us, h1⟩ := h; exact ⟨us, by rw [hm _ _ (zak hb)]; exact h1⟩
  ·trivial
 | optr b i =>
  simp only [SV.ren]
  split
  ·rename_i b' hb; obtain ⟨g, n, cap, us, h1, h2⟩ := h; exact ⟨g, n, cap, us, by rw [hm _ _ (zak hb)]; exact h1, h2⟩
  ·trivial
 | sub b i =>
  simp only [SV.ren]
  split
  ·rename_i b' hb; obtain ⟨r', us, h1, h2⟩ := h; exact ⟨r', us, by rw [hm _ _ (zak hb)]; exact h1, h2⟩
  ·trivial
 | bp b p =>
  simp only [SV.ren]
  split
  ·rename_i b' hb; obtain ⟨g, h1, h2⟩ := h; exact ⟨g, by rw [hm _ _ (zak hb)]; exact h1, h2⟩
  ·trivial
 | clos f bs =>
  simp only [SV.ren]
  split
  ·rename_i bs' hb; show v = _; rw [renL_map hm hb]; exact h
  ·trivial
 | tups l =>
  simp only [SV.ren]
  split
  ·rename_i l' hl; obtain ⟨vs, e, hr⟩ := h; exact ⟨vs, e, renTRs_rep hm hl hr⟩
  ·trivial
 | sa l =>
  simp only [SV.ren]
  split
  ·rename_i l' hl; obtain ⟨vs, e, hr⟩ := h; exact ⟨vs, e, renTRs_rep hm hl hr⟩
  ·trivial
 | rrp b i off sz =>
  simp only [SV.ren]
  split
  ·rename_i b' hb; obtain ⟨g, n, cap, us, h1, h2⟩ := h; exact ⟨g, n, cap, us, by rw [hm _ _ (zak hb)]; exact h1, h2⟩
  ·trivial
 | ssp b i j off sz =>
  simp only [SV.ren]
  split
  ·rename_i b' hb; obtain ⟨r, us, g, n, cap, h1, h2⟩ := h; exact ⟨r, us, g, n, cap, by rw [hm _ _ (zak hb)]; exact h1, h2⟩
  ·trivial
 | hd n => exact h
 | bclos f b =>
  simp only [SV.ren]
  split
  ·rename_i b' hb; show v = _; rw [hm _ _ (zak hb)]; exact h
  ·trivial
def argSlS : Nat -> List SV -> List (Nat × SV)
 | _, [] => []
 | k, u :: us => (k, u) :: argSlS (k + 1) us
theorem argSlS_slots {M : Nat -> Prop} {m : Nat -> Value} : ∀ {vs : List Value} {as0 : List SV} (k : Nat) {T : Array Value}, repSs w M m vs as0 -> (∀ i v, vs[i]? = some v -> T[k + i]? = some v) ->
  ∀ i sv, (i, sv) ∈ argSlS k as0 -> ∃ v, T[i]? = some v /\ repS w M m v sv
 | [], [], k, T, _, _, i, sv, hi => by simp [argSlS] at hi
 | [], _ :: _, _, _, h, _, _, _, _ => h.elim
 | _ :: _, [], _, _, h, _, _, _, _ => h.elim
 | v :: vs, a :: as0, k, T, ⟨h1, h2⟩, hT, i, sv, hi => by
  rcases List.mem_cons.1 hi with hi | hi
  ·cases hi
   exact ⟨v, by have := hT 0 v rfl; simpa using this, h1⟩
  ·exact argSlS_slots (k + 1) h2 (fun j u hj => by have := hT (j + 1) u (by simpa using hj); rw [<- this]; congr 1; omega) i sv hi
def enterSt (st : St) (n : Nat) (ρ : List (Nat × Nat)) (as0 : List SV) : Option St :=
 match nodupB (ρ.map (·.1)), nodupB (ρ.map (·.2)), nodupB (St.ids ⟨[], passBx ρ st.bx ρ, passRw st.rw ρ⟩), Nat.ble as0.length n with
 | true, true, true, true => some ⟨argSlS 0 (as0.map (SV.ren ρ)), passBx ρ st.bx ρ, passRw st.rw ρ⟩
 | _, _, _, _ => none
def sub (cx : Cx) (m : Nat -> Value) (st : St) (w : World) (n : Nat) (ρ : List (Nat × Nat)) : Cx :=
 {P := cx.P, n := n, w0 := w, X := fun b => ∃ i j, (i, j) ∈ ρ /\ i ∈ st.ids /\ own (m i) b,
  A := fun b => Mut cx m st.ids b /\ ¬ ∃ i j, (i, j) ∈ ρ /\ i ∈ st.ids /\ own (m i) b, m0 := fun j => match inv ρ j with | some i => m i | none => undef }
theorem pass_ids {ρ : List (Nat × Nat)} {sl : List (Nat × SV)} {j : Nat} (hj : j ∈ St.ids ⟨sl, passBx ρ st.bx ρ, passRw st.rw ρ⟩) : ∃ i, (i, j) ∈ ρ /\ i ∈ st.ids := by
 rcases List.mem_append.1 hj with hj | hj
 ·obtain ⟨⟨j', c⟩, hp, rfl⟩ := List.mem_map.1 hj
  obtain ⟨i, c', h1, h2, _⟩ := passBx_mem hp
  exact ⟨i, h1, List.mem_append.2 (.inl (List.mem_map.2 ⟨_, h2, rfl⟩))⟩
 ·obtain ⟨⟨j', c⟩, hp, rfl⟩ := List.mem_map.1 hj
  obtain ⟨i, h1, h2⟩ := passRw_mem hp
  exact ⟨i, h1, List.mem_append.2 (.inr (List.mem_map.2 ⟨_, h2, rfl⟩))⟩
theorem nodup_fst {α : Type} {l : List (Nat × α)} (hn : (l.map (·.1)).Nodup) {i : Nat} {a b : α} (h1 : (i, a) ∈ l) (h2 : (i, b) ∈ l) : a = b := by
 have e1 := look_of_mem hn h1
 have e2 := look_of_mem hn h2
 rw [e1] at e2
 exact Option.some.inj e2
theorem enter_sound (h : Rm cx m st T w) {n : Nat} {ρ : List (Nat × Nat)} {as0 : List SV} {S0 : St} (he : enterSt st n ρ as0 = some S0) {vs : List Value} (hvs : repSs w (Mut cx m st.ids) m vs as0) :
  Rm (sub cx m st w n ρ) (sub cx m st w n ρ).m0 S0 (vs.toArray ++ Array.replicate (n - vs.toArray.size) undef) w := by
 unfold enterSt at he
 split at he
 case h_2 => cases he
 rename_i k1 k2 k3 k4
 cases he
 have k1 := zas k1
 have k2 := zas k2
 have k3 := zas k3
 have k4 := Nat.le_of_ble_eq_true k4
 have hm : ∀ i j, (i, j) ∈ ρ -> (sub cx m st w n ρ).m0 j = m i := by
  intro i j hij
  show (match inv ρ j with | some i => m i | none => undef) = m i
  rw [inv_mem k2 hij]
 have hlen := zbg hvs
 have hmut : ∀ b, b < w.heap.size -> Mut (sub cx m st w n ρ) (sub cx m st w n ρ).m0 (St.ids ⟨argSlS 0 (as0.map (SV.ren ρ)), passBx ρ st.bx ρ, passRw st.rw ρ⟩) b -> Mut cx m st.ids b := by
  rintro b _ (hA | ⟨j, hj, hb⟩)
  ·exact hA.1
  ·obtain ⟨i, hij, hi⟩ := pass_ids hj
   rw [hm i j hij] at hb
   exact .inr ⟨i, hi, hb⟩
 have kw : ∀ b, b < w.heap.size -> ¬ Mut cx m st.ids b -> w.heap[b]? = w.heap[b]? := fun _ _ _ => rfl
 have hs : ∀ v s, repS w (Mut cx m st.ids) m v s -> repS w (Mut (sub cx m st w n ρ) (sub cx m st w n ρ).m0 (St.ids ⟨argSlS 0 (as0.map (SV.ren ρ)), passBx ρ st.bx ρ, passRw st.rw ρ⟩)) (sub cx m st w n ρ).m0 v (s.ren ρ) :=
  fun v s hv => ren_rep hm (zap kw hmut hv)
 refine { size := ?_, frame := Frame.refl _ _, outer := fun b hb => ⟨h.mut_lt hb.1, hb.2⟩, slots := ?_, boxes := ?_, rows := ?_, apart := ?_, keys := k3, fixed := fun _ _ _ _ _ => rfl, kept := fun _ _ _ _ _ => rfl }
 ·show (vs.toArray ++ Array.replicate (n - vs.toArray.size) undef).size = n
  simp only [Array.size_append, List.size_toArray, Array.size_replicate]
  omega
 ·have hvs' : repSs w (Mut (sub cx m st w n ρ) (sub cx m st w n ρ).m0 (St.ids ⟨argSlS 0 (as0.map (SV.ren ρ)), passBx ρ st.bx ρ, passRw st.rw ρ⟩)) (sub cx m st w n ρ).m0 vs (as0.map (SV.ren ρ)) := repSs_map hs hvs
  exact argSlS_slots 0 hvs' (fun i v hi => by
   rw [Nat.zero_add, Array.getElem?_append_left (by have := (List.getElem?_eq_some_iff.1 hi).1; simpa using this)]
   simpa using hi)
 ·intro j c' hj
  obtain ⟨i, c, hij, hi, rfl⟩ := passBx_mem hj
  obtain ⟨g, e1, e2, e3⟩ := h.boxes i c hi
  have hii : i ∈ st.ids := List.mem_append.2 (.inl (List.mem_map.2 ⟨_, hi, rfl⟩))
  rw [hm i j hij]
  refine ⟨g, isM_map.2 e1, fun g' hg' => .inr ⟨i, j, hij, hii, hg'⟩, zaq kw hmut (isM_own e1) (fun _ _ => rfl) hs e3⟩
 ·intro j c hj
  obtain ⟨i, hij, hi⟩ := passRw_mem hj
  obtain ⟨cells, e1, e2, e3⟩ := h.rows i c hi
  have hii : i ∈ st.ids := List.mem_append.2 (.inr (List.mem_map.2 ⟨_, hi, rfl⟩))
  refine ⟨cells, by rw [hm i j hij]; exact e1, fun g hg => .inr ⟨i, j, hij, hii, by rw [hm i j hij] at hg; exact hg⟩, zab (fun _ _ => rep_ext kw hmut c.t) e3⟩
 ·intro j1 j2 h1 h2 hne g hg hg'
  obtain ⟨i1, a1, b1⟩ := pass_ids h1
  obtain ⟨i2, a2, b2⟩ := pass_ids h2
  rw [hm _ _ a1] at hg
  rw [hm _ _ a2] at hg'
  refine h.apart i1 i2 b1 b2 ?_ g hg hg'
  rintro rfl
  exact hne (nodup_fst k1 a1 a2)
def memB (i : Nat) (l : List Nat) : Bool := l.any (Nat.beq i)
theorem memB_iff {i : Nat} {l : List Nat} : memB i l = true ↔ i ∈ l := by
 unfold memB
 rw [List.any_eq_true]
 constructor
 ·rintro ⟨x, hx, he⟩; rw [Nat.eq_of_beq_eq_true he]; exact hx
 ·intro hi; exact ⟨i, hi, Nat.beq_refl i⟩
def keptBack (n : Nat) (S1 : St) (ρ ρ' : List (Nat × Nat)) (i : Nat) : Bool :=
 match look ρ i with
 | some j => Nat.ble n j && (Nat.ble keptRow j && ((look S1.rw j).isSome && (match look ρ' j with | some i' => Nat.beq i' i | none => false)))
 | none => false
def kindB (st : St) (i : Nat) : Option Bool := match look st.bx i with
 | some c => some c.one
 | none => none
theorem kindB_mem {st : St} {i : Nat} {c : BX} (hn : st.ids.Nodup) (h : (i, c) ∈ st.bx) : kindB st i = some c.one := by
 have key : ∀ {l : List (Nat × BX)}, (l.map (·.1)).Nodup -> (i, c) ∈ l -> look l i = some c := by
  intro l
  induction l with
  | nil => intro _ h; cases h
  | cons p l ih =>
   obtain ⟨j, d⟩ := p
   intro hn h
   rw [List.map_cons, List.nodup_cons] at hn
   unfold look
   rcases List.mem_cons.1 h with h | h
   ·cases h
    rw [Nat.beq_refl]
    rfl
   ·have hne : Nat.beq j i = false := by
     cases hb : Nat.beq j i with
     | false => rfl
     | true => exact absurd (List.mem_map.2 ⟨_, h, (Nat.eq_of_beq_eq_true hb).symm⟩) hn.1
    rw [hne]
    exact ih hn.2 h
 unfold kindB
 rw [key (List.nodup_append.1 hn).1 h]
theorem kindB_some {st : St} {i : Nat} {b : Bool} (h : kindB st i = some b) : ∃ c, look st.bx i = some c /\ c.one = b := by
 unfold kindB at h
 split at h
 ·rename_i c hc; cases h; exact ⟨c, hc, rfl⟩
 ·cases h
def gone (n : Nat) (st S1 : St) (ρ ρ' : List (Nat × Nat)) : List Nat :=
 (ρ.map (·.1)).filter (fun i => ((look st.rw i).isSome && !keptBack n S1 ρ ρ' i) || kindB st i == some false) ++ (ρ'.map (·.2)).filter (fun j => !(kindB st j == some true && memB j (ρ.map (·.1))) && !keptBack n S1 ρ ρ' j)
def notIn {α : Type} (ks : List Nat) (l : List (Nat × α)) : List (Nat × α) := l.filter fun p => !(memB p.1 ks)
def backOK (st S1 : St) (n nc : Nat) (ρ : List (Nat × Nat)) (p : Nat × Nat) : Bool :=
 match look ρ p.2 with
 | some i => Nat.beq i p.1 && (Nat.ble n p.1 && ((kindB st p.2 == kindB S1 p.1) && (Nat.blt p.2 keptRow || (Nat.ble keptRow p.1 && (look st.rw p.2).isSome))))
 | none => !(memB p.2 st.ids) && !(memB p.2 (ρ.map (·.1))) && (Nat.blt p.2 nc || ((look S1.bx p.1).isNone && Nat.blt p.2 keptRow))
def leaveSt (st S1 : St) (n nc : Nat) (ρ ρ' : List (Nat × Nat)) : Option St :=
 match nodupB (ρ'.map (·.1)), nodupB (ρ'.map (·.2)), ρ'.all (backOK st S1 n nc ρ), nodupB ((notIn (ρ.map (·.1)) st.bx ++ passBx ρ' S1.bx ρ').map (·.1) ++ (notIn (ρ.map (·.1)) st.rw ++ passRw S1.rw ρ').map (·.1)) with
 | true, true, true, true => some
  {sl := st.sl.map fun p => (p.1, p.2.scrubL (gone n st S1 ρ ρ')),
   bx := (notIn (ρ.map (·.1)) st.bx).map (fun p => (p.1, p.2.map (SV.scrubL (gone n st S1 ρ ρ')))) ++ passBx ρ' S1.bx ρ',
   rw := notIn (ρ.map (·.1)) st.rw ++ passRw S1.rw ρ' }
 | _, _, _, _ => none
end Go.Ev
namespace Go.Ev
open Go Go.RowKit
variable [Dr]
variable {cx : Cx} {m : Nat -> Value} {st st' : St} {T : Array Value} {w w' : World} {E : Env} {Q : Post} {ops : Array Oper} {l : List Oper}
theorem look_isSome {α : Type} {l : List (Nat × α)} {i : Nat} {c : α} (h : (i, c) ∈ l) : (look l i).isSome = true := by
 induction l with
 | nil => simp at h
 | cons p r ih =>
  obtain ⟨k, u⟩ := p
  unfold look
  cases hb : Nat.beq k i with
  | true => rfl
  | false =>
   rcases List.mem_cons.1 h with h | h
   ·cases h; rw [Nat.beq_refl] at hb; cases hb
   ·exact ih h
theorem notIn_mem {α : Type} {ks : List Nat} {l : List (Nat × α)} {p : Nat × α} (h : p ∈ notIn ks l) : p ∈ l /\ p.1 ∉ ks := by
 obtain ⟨h1, h2⟩ := List.mem_filter.1 h
 refine ⟨h1, fun hk => ?_⟩
 rw [memB_iff.2 hk] at h2
 cases h2
theorem leave_sound (h : Rm cx m st T w) {n : Nat} {ρ ρ' : List (Nat × Nat)} {S1 st1 : St} {m1 : Nat -> Value} {T1 : Array Value} {w1 : World} (k1 : (ρ.map (·.1)).Nodup) (k2 : (ρ.map (·.2)).Nodup)
  (h1 : Rm (sub cx m st w n ρ) m1 S1 T1 w1) (hl : leaveSt st S1 n cx.n ρ ρ' = some st1) :
  ∃ m2, Rm cx m2 st1 T w1 /\ ∀ v s, repS w1 (Mut (sub cx m st w n ρ) m1 S1.ids) m1 v s -> repS w1 (Mut cx m2 st1.ids) m2 v (s.ren ρ') := by
 unfold leaveSt at hl
 split at hl
 case h_2 => cases hl
 rename_i c1 c2 c3 c4
 cases hl
 have c1 := zas c1
 have c2 := zas c2
 have c4 := zas c4
 have hinv : ∀ i j, (i, j) ∈ ρ -> (sub cx m st w n ρ).m0 j = m i := by
  intro i j hij
  show (match inv ρ j with | some i => m i | none => undef) = m i
  rw [inv_mem k2 hij]
 have fB : ∀ i j, (i, j) ∈ ρ' -> (n <= i /\ (j, i) ∈ ρ /\ kindB st j = kindB S1 i /\ (j < keptRow \/ (keptRow <= i /\ (look st.rw j).isSome = true))) \/ (True /\ j ∉ st.ids /\ j ∉ ρ.map (·.1) /\ (j < cx.n \/ (look S1.bx i = none /\ j < keptRow))) := by
  intro i j hij
  have := List.all_eq_true.1 c3 _ hij
  unfold backOK at this
  split at this
  ·rename_i i' hi'
   simp only [Bool.and_eq_true, Bool.or_eq_true, beq_iff_eq] at this
   obtain ⟨t1, t2, t3, t4⟩ := this
   have := Nat.eq_of_beq_eq_true t1
   subst this
   exact .inl ⟨Nat.le_of_ble_eq_true t2, zak hi', t3, t4.imp zax fun t => ⟨Nat.le_of_ble_eq_true t.1, t.2⟩⟩
  ·simp only [Bool.and_eq_true, Bool.or_eq_true, Bool.not_eq_true'] at this
   obtain ⟨⟨t1, t2⟩, t3⟩ := this
   refine .inr ⟨trivial, (fun hh => ?_), (fun hh => ?_), ?_⟩
   ·have t1 : memB j st.ids = false := t1
    rw [memB_iff.2 hh] at t1
    cases t1
   ·have t2 : memB j (ρ.map (·.1)) = false := t2
    rw [memB_iff.2 hh] at t2
    cases t2
   ·rcases t3 with t3 | t3
    ·exact .inl (zax t3)
    ·exact .inr ⟨by simpa using t3.1, zax t3.2⟩
 obtain ⟨m2, hm2⟩ : ∃ m2 : Nat -> Value, m2 = fun j => match inv ρ' j with | some i => m1 i | none => m j := ⟨_, rfl⟩
 have hnew : ∀ i j, (i, j) ∈ ρ' -> m2 j = m1 i := by
  intro i j hij
  rw [hm2]
  simp only
  rw [inv_mem c2 hij]
 have hold : ∀ j, inv ρ' j = none -> m2 j = m j := by
  intro j hj
  rw [hm2]
  simp only
  rw [hj]
 have hst : ∀ j, j ∈ st.ids -> j ∉ ρ.map (·.1) -> m2 j = m j := by
  intro j hj hn
  refine hold j ?_
  cases hi : inv ρ' j with
  | none => rfl
  | some i =>
   rcases fB i j (mem_inv hi) with ⟨_, hh, _, _⟩ | ⟨_, hh, _⟩
   ·exact absurd (List.mem_map.2 ⟨_, hh, rfl⟩) hn
   ·exact absurd hj hh
 have hkeep : ∀ b, b ∉ gone n st S1 ρ ρ' -> m2 b = m b := by
  intro b hb
  cases hi : inv ρ' b with
  | none => exact hold b hi
  | some i =>
   have hij := mem_inv hi
   have hb2 : (kindB st b == some true && memB b (ρ.map (·.1))) = true \/ keptBack n S1 ρ ρ' b = true := by
    cases hx : (kindB st b == some true && memB b (ρ.map (·.1))) with
    | true => exact .inl rfl
    | false =>
     cases hy : keptBack n S1 ρ ρ' b with
     | true => exact .inr rfl
     | false =>
      refine absurd ?_ hb
      refine List.mem_append.2 (.inr (List.mem_filter.2 ⟨List.mem_map.2 ⟨_, hij, rfl⟩, by rw [hx, hy]; rfl⟩))
   rcases hb2 with hb2 | hb2
   case inr =>
    unfold keptBack at hb2
    split at hb2
    case h_2 => cases hb2
    rename_i j hj
    simp only [Bool.and_eq_true] at hb2
    obtain ⟨q1, q2, q3, q4⟩ := hb2
    split at q4
    case h_2 => cases q4
    rename_i i' hi'
    have e1 := Nat.eq_of_beq_eq_true q4
    subst e1
    have e2 := inv_mem c2 (zak hi')
    rw [hi] at e2
    cases e2
    obtain ⟨c0, hc0⟩ := Option.isSome_iff_exists.1 q3
    rw [hnew i i' hij, h1.kept i c0 (zak hc0) (Nat.le_of_ble_eq_true q1) (Nat.le_of_ble_eq_true q2), hinv i' i (zak hj)]
   rw [Bool.and_eq_true] at hb2
   rcases fB i b hij with ⟨hle, hh, he, _⟩ | ⟨_, _, hh, _⟩
   ·rw [beq_iff_eq.1 hb2.1] at he
    obtain ⟨c, hc, h1'⟩ := kindB_some he.symm
    rw [hnew i b hij, h1.fixed i c (zak hc) h1' hle, hinv b i hh]
   ·exact absurd (memB_iff.1 hb2.2) hh
 -- the ids of the new state
 have hids : ∀ j, j ∈ St.ids { sl := st.sl.map fun p => (p.1, p.2.scrubL (gone n st S1 ρ ρ')), bx := (notIn (ρ.map (·.1)) st.bx).map (fun p => (p.1, p.2.map (SV.scrubL (gone n st S1 ρ ρ')))) ++ passBx ρ' S1.bx ρ', rw := notIn (ρ.map (·.1)) st.rw ++ passRw S1.rw ρ' } ->
   (j ∈ st.ids /\ j ∉ ρ.map (·.1)) \/ ∃ i, (i, j) ∈ ρ' /\ i ∈ S1.ids := by
  intro j hj
  rcases List.mem_append.1 hj with hj | hj
  ·obtain ⟨⟨j', c⟩, hp, rfl⟩ := List.mem_map.1 hj
   rcases List.mem_append.1 hp with hp | hp
   ·obtain ⟨⟨j2, c'⟩, hp2, he⟩ := List.mem_map.1 hp
    cases he
    obtain ⟨h2, h3⟩ := notIn_mem hp2
    exact .inl ⟨List.mem_append.2 (.inl (List.mem_map.2 ⟨_, h2, rfl⟩)), h3⟩
   ·obtain ⟨i, c', h2, h3, _⟩ := passBx_mem hp
    exact .inr ⟨i, h2, List.mem_append.2 (.inl (List.mem_map.2 ⟨_, h3, rfl⟩))⟩
  ·obtain ⟨⟨j', c⟩, hp, rfl⟩ := List.mem_map.1 hj
   rcases List.mem_append.1 hp with hp | hp
   ·obtain ⟨h2, h3⟩ := notIn_mem hp
    exact .inl ⟨List.mem_append.2 (.inr (List.mem_map.2 ⟨_, h2, rfl⟩)), h3⟩
   ·obtain ⟨i, h2, h3⟩ := passRw_mem hp
    exact .inr ⟨i, h2, List.mem_append.2 (.inr (List.mem_map.2 ⟨_, h3, rfl⟩))⟩
 generalize hST : ({ sl := st.sl.map fun p => (p.1, p.2.scrubL (gone n st S1 ρ ρ')), bx := (notIn (ρ.map (·.1)) st.bx).map (fun p => (p.1, p.2.map (SV.scrubL (gone n st S1 ρ ρ')))) ++ passBx ρ' S1.bx ρ', rw := notIn (ρ.map (·.1)) st.rw ++ passRw S1.rw ρ' } : St) = st1 at hids
 have hXlt : ∀ i, i ∈ S1.ids -> ∀ b, own (m1 i) b -> w.heap.size <= b \/ ∃ i0 j0, (i0, j0) ∈ ρ /\ i0 ∈ st.ids /\ own (m i0) b := fun i hi b hb => (h1.lt hi hb).2
 have hback : ∀ b, b < w.heap.size -> Mut cx m2 st1.ids b -> Mut cx m st.ids b := by
  rintro b hlt (hA | ⟨j, hj, hb⟩)
  ·exact .inl hA
  ·rcases hids j hj with ⟨h2, h3⟩ | ⟨i, h2, h3⟩
   ·rw [hst j h2 h3] at hb
    exact .inr ⟨j, h2, hb⟩
   ·rw [hnew i j h2] at hb
    rcases hXlt i h3 b hb with hh | ⟨i0, _, _, hi0, hb0⟩
    ·omega
    ·exact .inr ⟨i0, hi0, hb0⟩
 have hfwd : ∀ b, b < w1.heap.size -> Mut cx m2 st1.ids b -> Mut (sub cx m st w n ρ) m1 S1.ids b := by
  rintro b _ (hA | ⟨j, hj, hb⟩)
  ·refine .inl ⟨.inl hA, ?_⟩
   rintro ⟨i0, j0, _, hi0, hb0⟩
   have o := h.outer b hA
   rcases (h.lt hi0 hb0).2 with hh | hh
   ·omega
   ·exact o.2 hh
  ·rcases hids j hj with ⟨h2, h3⟩ | ⟨i, h2, h3⟩
   ·rw [hst j h2 h3] at hb
    refine .inl ⟨.inr ⟨j, h2, hb⟩, ?_⟩
    rintro ⟨i0, j0, hij0, hi0, hb0⟩
    refine h.apart i0 j hi0 h2 ?_ b hb0 hb
    rintro rfl
    exact h3 (List.mem_map.2 ⟨_, hij0, rfl⟩)
   ·rw [hnew i j h2] at hb
    exact .inr ⟨i, h3, hb⟩
 have kw : ∀ b, b < w.heap.size -> ¬ Mut cx m st.ids b -> w1.heap[b]? = w.heap[b]? := fun b hb hn => h1.frame.block b hb fun ⟨i0, _, _, hi0, hb0⟩ => hn (.inr ⟨i0, hi0, hb0⟩)
 have kw1 : ∀ b, b < w1.heap.size -> ¬ Mut (sub cx m st w n ρ) m1 S1.ids b -> w1.heap[b]? = w1.heap[b]? := fun _ _ _ => rfl
 have hsO : ∀ v s, repS w (Mut cx m st.ids) m v s -> repS w1 (Mut cx m2 st1.ids) m2 v (s.scrubL (gone n st S1 ρ ρ')) := fun v s hv => scrubL_rep hkeep (zap kw hback hv)
 have hsN : ∀ v s, repS w1 (Mut (sub cx m st w n ρ) m1 S1.ids) m1 v s -> repS w1 (Mut cx m2 st1.ids) m2 v (s.ren ρ') := fun v s hv => ren_rep hnew (zap kw1 hfwd hv)
 have hbx : ∀ b c', (b, c') ∈ st1.bx -> (∃ c, (b, c) ∈ st.bx /\ b ∉ ρ.map (·.1) /\ c' = c.map (SV.scrubL (gone n st S1 ρ ρ'))) \/ ∃ i c, (i, b) ∈ ρ' /\ (i, c) ∈ S1.bx /\ c' = c.map (SV.ren ρ') := by
  intro b c' hb
  rw [<- hST] at hb
  rcases List.mem_append.1 hb with hp | hp
  ·obtain ⟨⟨j2, c2⟩, hp2, he⟩ := List.mem_map.1 hp
   cases he
   obtain ⟨h2, h3⟩ := notIn_mem hp2
   exact .inl ⟨c2, h2, h3, rfl⟩
  ·exact .inr (passBx_mem hp)
 have hrw : ∀ b c, (b, c) ∈ st1.rw -> ((b, c) ∈ st.rw /\ b ∉ ρ.map (·.1)) \/ ∃ i, (i, b) ∈ ρ' /\ (i, c) ∈ S1.rw := by
  intro b c hb
  rw [<- hST] at hb
  rcases List.mem_append.1 hb with hp | hp
  ·exact .inl (notIn_mem hp)
  ·exact .inr (passRw_mem hp)
 have hnotX : ∀ j, j ∈ st.ids -> j ∉ ρ.map (·.1) -> ∀ g, own (m j) g -> g < w.heap.size /\ ¬ ∃ i0 j0, (i0, j0) ∈ ρ /\ i0 ∈ st.ids /\ own (m i0) g := by
  intro j hj hn g hg
  refine ⟨(h.lt hj hg).1, ?_⟩
  rintro ⟨i0, j0, hij0, hi0, hb0⟩
  refine h.apart i0 j hi0 hj ?_ g hb0 hg
  rintro rfl
  exact hn (List.mem_map.2 ⟨_, hij0, rfl⟩)
 have hplace : ∀ g, (w.heap.size <= g \/ ∃ i0 j0, (i0, j0) ∈ ρ /\ i0 ∈ st.ids /\ own (m i0) g) -> cx.w0.heap.size <= g \/ cx.X g := by
  rintro g (hg | ⟨i0, _, _, hi0, hb0⟩)
  ·exact .inl (Nat.le_trans h.frame.size hg)
  ·exact (h.lt hi0 hb0).2
 refine ⟨m2, { size := h.size, frame := ?_, outer := h.outer, slots := ?_, boxes := ?_, rows := ?_, apart := ?_, keys := ?_, fixed := ?_, kept := ?_ }, hsN⟩
 ·refine ⟨h1.frame.os.trans h.frame.os, h1.frame.tape.trans h.frame.tape, h1.frame.output.trans h.frame.output, Nat.le_trans h.frame.size h1.frame.size, fun b hb hX => ?_, fun d => Nat.le_trans (h.frame.drawn d) (h1.frame.drawn d)⟩
  rw [<- h.frame.block b hb hX]
  refine h1.frame.block b (Nat.lt_of_lt_of_le hb h.frame.size) ?_
  rintro ⟨i0, _, _, hi0, hb0⟩
  rcases (h.lt hi0 hb0).2 with hh | hh
  ·omega
  ·exact hX hh
 ·intro i sv' hi
  rw [<- hST] at hi
  obtain ⟨⟨j, sv⟩, hp, he⟩ := List.mem_map.1 hi
  cases he
  obtain ⟨v, e1, e2⟩ := h.slots j sv hp
  exact ⟨v, e1, hsO v sv e2⟩
 ·intro b c' hb
  rcases hbx b c' hb with ⟨c, h2, h3, rfl⟩ | ⟨i, c, h2, h3, rfl⟩
  ·have hbi : b ∈ st.ids := List.mem_append.2 (.inl (List.mem_map.2 ⟨_, h2, rfl⟩))
   obtain ⟨g, e1, e2, e3⟩ := h.boxes b c h2
   rw [hst b hbi h3]
   exact ⟨g, isM_map.2 e1, e2, zaq kw hback (isM_own e1) (fun b' hb' => h1.frame.block b' (hnotX b hbi h3 b' hb').1 (hnotX b hbi h3 b' hb').2) hsO e3⟩
  ·obtain ⟨g, e1, e2, e3⟩ := h1.boxes i c h3
   rw [hnew i b h2]
   exact ⟨g, isM_map.2 e1, fun g' hg' => hplace g' (e2 g' hg'), zaq kw1 hfwd (isM_own e1) (fun _ _ => rfl) hsN e3⟩
 ·intro b c hb
  rcases hrw b c hb with ⟨h2, h3⟩ | ⟨i, h2, h3⟩
  ·have hbi : b ∈ st.ids := List.mem_append.2 (.inr (List.mem_map.2 ⟨_, h2, rfl⟩))
   obtain ⟨cells, e1, e2, e3⟩ := h.rows b c h2
   refine ⟨cells, ?_, fun g hg => e2 g (by rw [hst b hbi h3] at hg; exact hg), zab (fun _ _ => rep_ext kw hback c.t) e3⟩
   rw [hst b hbi h3]
   refine ⟨e1.1, ?_⟩
   rcases e1.2 with hh | ⟨g, cap, cur, hv, hb0, hh, rest⟩
   ·exact .inl hh
   ·have hx := hnotX b hbi h3 g (by rw [hv]; exact zal rfl)
    exact .inr ⟨g, cap, cur, hv, hb0, by rw [h1.frame.block g hx.1 hx.2]; exact hh, rest⟩
  ·obtain ⟨cells, e1, e2, e3⟩ := h1.rows i c h3
   exact ⟨cells, by rw [hnew i b h2]; exact e1, fun g hg => hplace g (e2 g (by rw [hnew i b h2] at hg; exact hg)), zab (fun _ _ => rep_ext kw1 hfwd c.t) e3⟩
 ·intro j1 j2 hj1 hj2 hne g hg hg'
  rcases hids j1 hj1 with ⟨a1, b1⟩ | ⟨i1, a1, b1⟩ <;> rcases hids j2 hj2 with ⟨a2, b2⟩ | ⟨i2, a2, b2⟩
  ·rw [hst j1 a1 b1] at hg
   rw [hst j2 a2 b2] at hg'
   exact h.apart j1 j2 a1 a2 hne g hg hg'
  ·rw [hst j1 a1 b1] at hg
   rw [hnew i2 j2 a2] at hg'
   have hx := hnotX j1 a1 b1 g hg
   rcases hXlt i2 b2 g hg' with hh | hh
   ·omega
   ·exact hx.2 hh
  ·rw [hnew i1 j1 a1] at hg
   rw [hst j2 a2 b2] at hg'
   have hx := hnotX j2 a2 b2 g hg'
   rcases hXlt i1 b1 g hg with hh | hh
   ·omega
   ·exact hx.2 hh
  ·rw [hnew i1 j1 a1] at hg
   rw [hnew i2 j2 a2] at hg'
   refine h1.apart i1 i2 b1 b2 ?_ g hg hg'
   rintro rfl
   exact hne (nodup_fst c1 a1 a2)
 ·rw [<- hST]
  show (((notIn (ρ.map (·.1)) st.bx).map (fun p => (p.1, p.2.map (SV.scrubL (gone n st S1 ρ ρ')))) ++ passBx ρ' S1.bx ρ').map (·.1) ++ (notIn (ρ.map (·.1)) st.rw ++ passRw S1.rw ρ').map (·.1)).Nodup
  have e : ((notIn (ρ.map (·.1)) st.bx).map (fun p => (p.1, p.2.map (SV.scrubL (gone n st S1 ρ ρ')))) ++ passBx ρ' S1.bx ρ').map (·.1) = (notIn (ρ.map (·.1)) st.bx ++ passBx ρ' S1.bx ρ').map (·.1) := by
   simp [List.map_append, List.map_map, Function.comp_def]
  rw [e]
  exact c4
 ·intro b c' hb h1' hle
  rcases hbx b c' hb with ⟨c, h2, h3, hcm⟩ | ⟨i, c, h2, h3, hcm⟩
  ·have hbi : b ∈ st.ids := List.mem_append.2 (.inl (List.mem_map.2 ⟨_, h2, rfl⟩))
   rw [hst b hbi h3]
   exact h.fixed b c h2 (one_map.symm.trans (hcm ▸ h1')) hle
  ·rcases fB i b h2 with ⟨hn, hh, he, _⟩ | ⟨_, _, _, hh⟩
   ·have hc1 : c.one = true := one_map.symm.trans (hcm ▸ h1')
    rw [kindB_mem h1.keys h3, hc1] at he
    obtain ⟨c0, hc0, h2'⟩ := kindB_some he
    rw [hnew i b h2, h1.fixed i c h3 hc1 hn, hinv b i hh]
    exact h.fixed b c0 (zak hc0) h2' hle
   ·rcases hh with hh | hh
    ·omega
    ·have := look_isSome h3
     rw [hh.1] at this
     cases this
 ·intro b c hb hle hk
  rcases hrw b c hb with ⟨h2, h3⟩ | ⟨i, h2, h3⟩
  ·have hbi : b ∈ st.ids := List.mem_append.2 (.inr (List.mem_map.2 ⟨_, h2, rfl⟩))
   rw [hst b hbi h3]
   exact h.kept b c h2 hle hk
  ·rcases fB i b h2 with ⟨hn, hh, _, he⟩ | ⟨_, _, _, hh⟩
   ·rcases he with he | ⟨he, hs⟩
    ·omega
    ·obtain ⟨c0, hc0⟩ := Option.isSome_iff_exists.1 hs
     rw [hnew i b h2, h1.kept i c h3 hn he, hinv b i hh]
     exact h.kept b c0 (zak hc0) hle hk
   ·rcases hh with hh | hh
    ·omega
    ·omega
end Go.Ev
namespace Go.Ev
open Go Go.RowKit
variable [Dr]
variable {cx : Cx} {m : Nat -> Value} {st st' : St} {T : Array Value} {w w' : World} {E : Env} {Q : Post} {ops : Array Oper} {l : List Oper}
structure FnB (α β : Type) where
 n : Nat
 S : α -> St
 S' : α -> β -> St
 rs : α -> β -> List SV
 rel : α -> β -> Prop
def repResS (w : World) (M : Nat -> Prop) (m : Nat -> Value) (v : Value) : List SV -> Prop
 | [] => True
 | [s] => repS w M m v s
 | l => ∃ vs : List Value, v = .tuple vs.toArray /\ repSs w M m vs l
structure BC {α β : Type} (P : Program) (G : World -> Prop) (f : Nat) (F : FnB α β) : Prop where
 enters : ∀ args w, (callFunc f args).run P w = .ok (.enter f args) w
 calls : ∀ (cx : Cx), cx.P = P -> cx.n = F.n -> (∀ w, Frame cx.w0 w cx.X -> G w) -> ∀ x y, F.rel x y -> ∀ (vs : List Value) (w : World), vs.length = (F.S x).sl.length -> R cx (F.S x) (vs.toArray ++ Array.replicate (F.n - vs.toArray.size) undef) w ->
  Calls P f vs.toArray w fun e w' => ∃ v m' T', e = .returned v /\ Rm cx m' (F.S' x y) T' w' /\ repResS w' (Mut cx m' (F.S' x y).ids) m' v (F.rs x y)
def toTRs : List SV -> Option (List TR)
 | [] => some []
 | .val t x :: l => match toTRs l with
  | some r => some (.v ⟨t, x⟩ :: r)
  | none => none
 | .row b :: l => match toTRs l with
  | some r => some (.r b :: r)
  | none => none
 | .ptr b 0 :: l => match toTRs l with
  | some r => some (.r b :: r)
  | none => none
 | .bp b [] :: l => match toTRs l with
  | some r => some (.r b :: r)
  | none => none
 | .any :: l => match toTRs l with
  | some r => some (.a :: r)
  | none => none
 | .iter b :: l => match toTRs l with
  | some r => some (.r b :: r)
  | none => none
 | _ => none
def resSVof : List SV -> Option SV
 | [] => some .any
 | [s] => some s
 | l => match toTRs l with
  | some r => some (.tups r)
  | none => none
theorem toTRs_rep {M : Nat -> Prop} : ∀ {vs : List Value} {l : List SV} {r : List TR}, toTRs l = some r -> repSs w M m vs l -> repTRs w M m vs r
 | [], [], _, h, _ => by cases h; trivial
 | _ :: _, [], _, _, hr => hr.elim
 | [], _ :: _, _, _, hr => hr.elim
 | v :: vs, s :: l, r, h, ⟨h1, h2⟩ => by
  unfold toTRs at h
  split at h
  ·rename_i e; cases e
  ·rename_i t x l' e
   cases e
   split at h
   ·rename_i r' hr'; cases h; exact ⟨h1, toTRs_rep hr' h2⟩
   ·cases h
  ·rename_i b l' e
   cases e
   split at h
   ·rename_i r' hr'; cases h; exact ⟨h1, toTRs_rep hr' h2⟩
   ·cases h
  ·rename_i b l' e
   cases e
   split at h
   ·rename_i r' hr'; cases h; obtain ⟨g, g1, g2⟩ := h1; exact ⟨by rw [g1]; exact g2, toTRs_rep hr' h2⟩
   ·cases h
  ·rename_i b l' e
   cases e
   split at h
   ·rename_i r' hr'; cases h; obtain ⟨g, g1, g2⟩ := h1; exact ⟨by rw [g1]; exact g2, toTRs_rep hr' h2⟩
   ·cases h
  ·rename_i l' e
   cases e
   split at h
   ·rename_i r' hr'; cases h; exact toTRs_rep (vs := vs) hr' h2
   ·cases h
  ·rename_i b l' e
   cases e
   split at h
   ·rename_i r' hr'; cases h; exact ⟨h1, toTRs_rep hr' h2⟩
   ·cases h
  ·cases h
theorem resSVof_rep {M : Nat -> Prop} {v : Value} {l : List SV} {s : SV} (h : resSVof l = some s) (hr : repResS w M m v l) : repS w M m v s := by
 unfold resSVof at h
 split at h
 ·cases h; trivial
 ·cases h; exact hr
 ·rename_i n1 n2
  split at h
  ·rename_i r hr'
   cases h
   match l, n1, n2, hr, hr' with
   | a :: b :: l, _, _, ⟨vs, e, hh⟩, hr' => exact ⟨vs, e, toTRs_rep hr' hh⟩
   | [], n1, _, _, _ => exact absurd rfl n1
   | [a], _, n2, _, _ => exact absurd rfl (n2 a)
  ·cases h
def argSV (P : Program) (st : St) (t : TypeId) (x : Operand) : Option SV :=
 match x with
 | .const (.slice none 0 0) => match elemOf? P t with
  | some (_, u) => some (.val (.sl u) [])
  | none => none
 | x => getSV st x
def argSVs (P : Program) (st : St) : List TypeId -> List Operand -> Option (List SV)
 | [], [] => some []
 | t :: ts, x :: xs => match argSV P st t x, argSVs P st ts xs with
  | some v, some vs => some (v :: vs)
  | _, _ => none
 | _, _ => none
theorem argSV_sound (h : Rm cx m st T w) {t : TypeId} {x : Operand} {s : SV} (ha : argSV cx.P st t x = some s) : repS w (Mut cx m st.ids) m (Act.eval ⟨T, []⟩ x) s := by
 unfold argSV at ha
 split at ha
 ·split at ha
  ·rename_i e u he
   cases ha
   exact (za3 (t := .sl u) rfl).2 ⟨none, 0, [], rfl, Nat.le_refl _, by decide, fun _ => rfl, rfl, fun j v hj => by simp at hj⟩
  ·cases ha
 ·exact za6 h ha
theorem argSVs_sound (h : Rm cx m st T w) : ∀ {ts : List TypeId} {xs : List Operand} {ss : List SV}, argSVs cx.P st ts xs = some ss -> repSs w (Mut cx m st.ids) m (xs.map (Act.eval ⟨T, []⟩)) ss
 | [], [], _, ha => by cases ha; trivial
 | [], _ :: _, _, ha => by cases ha
 | _ :: _, [], _, ha => by cases ha
 | t :: ts, x :: xs, ss, ha => by
  unfold argSVs at ha
  split at ha
  ·rename_i v vs' h1 h2
   cases ha
   exact ⟨argSV_sound h h1, argSVs_sound h h2⟩
  ·cases ha
def boxesB (st : St) (bs : List Nat) : Bool := bs.all fun b => match look st.bx b with
 | some (.cells _ _) => true
 | _ => false
theorem boxesB_rep (h : Rm cx m st T w) : ∀ {bs : List Nat}, boxesB st bs = true -> repSs w (Mut cx m st.ids) m (bs.map m) (bs.map fun b => SV.ptr b 0)
 | [], _ => trivial
 | b :: bs, hb => by
  unfold boxesB at hb
  rw [List.all_cons, Bool.and_eq_true] at hb
  refine ⟨?_, boxesB_rep h hb.2⟩
  have h1 := hb.1
  split at h1
  ·rename_i c hc
   obtain ⟨g, hg⟩ := box_place h hc
   exact ⟨g, hg, hg⟩
  ·cases h1
def enterB (E : Env) (st : St) (o : Oper) (n f : Nat) (ρ : List (Nat × Nat)) : Option St :=
 match o.op with
 | .call c => match c.callee with
  | .value x => match getSV st x with
   | some (.clos f' bs) => match Nat.beq f' f, boxesB st bs, argSVs E.P st c.argTypes.toList c.args.toList with
    | true, true, some as0 => enterSt st n ρ (as0 ++ bs.map fun b => SV.ptr b 0)
    | _, _, _ => none
   | some (.bclos f' b) => match Nat.beq f' f, boxesB st [b], argSVs E.P st c.argTypes.toList c.args.toList with
    | true, true, some as0 => enterSt st n ρ (SV.ptr b 0 :: as0)
    | _, _, _ => none
   | _ => none
  | _ => none
 | _ => none
def leaveB0 (st S1 : St) (o : Oper) (n nc : Nat) (ρ ρ' : List (Nat × Nat)) (rs : List SV) : Option St :=
 match leaveSt st S1 n nc ρ ρ', resSVof rs with
 | some st1, some s => match o.dst with
  | none => some st1
  | some d => match Nat.blt d nc with
   | true => some (st1.put d (s.ren ρ'))
   | false => none
 | _, _ => none
def leaveB (st S1 : St) (o : Oper) (n nc : Nat) (ρ ρ' : List (Nat × Nat)) (rs : List SV) (ks bs rws : List Nat) : Option St :=
 match leaveSt st S1 n nc ρ ρ', resSVof rs with
 | some st1, some s => match o.dst with
  | none => st1.norm ks bs rws
  | some d => match Nat.blt d nc with
   | true => (st1.put d (s.ren ρ')).norm ks bs rws
   | false => none
 | _, _ => none
theorem enterSt_nodup {n : Nat} {ρ : List (Nat × Nat)} {as0 : List SV} {S0 : St} (he : enterSt st n ρ as0 = some S0) : (ρ.map (·.1)).Nodup /\ (ρ.map (·.2)).Nodup := by
 unfold enterSt at he
 split at he
 ·rename_i k1 k2 k3 k4; exact ⟨zas k1, zas k2⟩
 ·cases he
theorem argSlS_len : ∀ (l : List SV) (k : Nat), (argSlS k l).length = l.length
 | [], _ => rfl
 | _ :: l, k => by simp [argSlS, argSlS_len l]
theorem enterSt_len {n : Nat} {ρ : List (Nat × Nat)} {as0 : List SV} {S0 : St} (he : enterSt st n ρ as0 = some S0) : S0.sl.length = as0.length := by
 unfold enterSt at he
 split at he
 ·cases he; simp [argSlS_len]
 ·cases he
theorem sub_frame (h : Rm cx m st T w) {n : Nat} {ρ : List (Nat × Nat)} (hf : Frame w w' (sub cx m st w n ρ).X) : Frame cx.w0 w' cx.X := by
 refine ⟨hf.os.trans h.frame.os, hf.tape.trans h.frame.tape, hf.output.trans h.frame.output, Nat.le_trans h.frame.size hf.size, fun b hb hX => ?_, fun d => Nat.le_trans (h.frame.drawn d) (hf.drawn d)⟩
 rw [<- h.frame.block b hb hX]
 refine hf.block b (Nat.lt_of_lt_of_le hb h.frame.size) ?_
 rintro ⟨i0, _, _, hi0, hb0⟩
 rcases (h.lt hi0 hb0).2 with hh | hh
 ·omega
 ·exact hX hh
theorem evCall_runB {c : Call} {o : Oper} {f : Nat} {x : Operand} {u : Value} (ho : o.op = .call c) (hc : c.callee = .value x) (hx : Act.eval ⟨T, []⟩ x = .func (.func f) #[u] #[])
  (hen : ∀ args w, (callFunc f args).run cx.P w = .ok (.enter f args) w) (w : World) :
  (execOp (Act.eval ⟨T, []⟩) o).run cx.P w = .ok (.enter f (u :: c.args.toList.map (Act.eval ⟨T, []⟩)).toArray) w := by
 obtain ⟨callee, args, ts⟩ := c
 simp only at hc
 subst hc
 have e1 : #[u] ++ args.map (Act.eval ⟨T, []⟩) ++ #[] = (u :: args.toList.map (Act.eval ⟨T, []⟩)).toArray := by
  apply Array.ext'
  simp
 simp only [execOp, ho, resolve, hx, Deferred.ofValue, Sem.run_bind, Sem.run_pure, Result.andThen_ok, invoke]
 rw [e1]
 simp [hen]
theorem WL_callB0 (hE : EnvOK E cx) {α β : Type} {F : FnB α β} {f : Nat} (hB : BC E.P E.G f F) (x : α) (y : β) (hxy : F.rel x y) {o : Oper} {ρ ρ' : List (Nat × Nat)} {n : Nat} (hn : F.n = n)
  (hw : wantSV ops st o = some true) (hen : enterB E st o n f ρ = some (F.S x)) (hlv : leaveB0 st (F.S' x y) o n E.n ρ ρ' (F.rs x y) = some st') (h : WL cx ops Q l st') : WL cx ops Q (o :: l) st := by
 subst hn
 rintro T w ⟨m, hm⟩
 refine wpList_step fun K hK => ?_
 rw [zbo ⟨m, hm⟩ hw]
 simp only [if_true]
 have hB' := hB
 rw [<- hE.P] at hB'
 have main : ∀ (as0 : List SV) (vs : List Value), enterSt st F.n ρ as0 = some (F.S x) -> repSs w (Mut cx m st.ids) m vs as0 -> (execOp (Act.eval ⟨T, []⟩) o).run cx.P w = .ok (.enter f vs.toArray) w -> o.wp cx.P ⟨T, []⟩ w K Q := by
  intro as0 vs hen hargs hrun
  have hent := enter_sound hm hen hargs
  obtain ⟨k1, k2⟩ := enterSt_nodup hen
  have hlen := zbg hargs
  have hsl : (F.S x).sl.length = as0.length := enterSt_len hen
  have hcalls := hB'.calls (sub cx m st w F.n ρ) rfl rfl (fun w' hf => hE.glob w' (sub_frame hm hf)) x y hxy _ w (by rw [hsl]; exact hlen) ⟨_, hent⟩
  unfold Oper.wp
  rw [hrun]
  refine hcalls.mono ?_
  rintro e w' ⟨v, m', T', rfl, h1, hr⟩
  unfold leaveB0 at hlv
  split at hlv
  case h_2 => cases hlv
  rename_i st1 s hl hs
  rw [<- hE.n] at hl
  obtain ⟨m2, h2, hren⟩ := leave_sound hm k1 k2 h1 hl
  show K (Act.put ⟨T, []⟩ o.dst v) w'
  split at hlv
  ·rename_i hd
   rw [hd]
   cases hlv
   exact hK _ _ (h _ _ ⟨m2, h2⟩)
  ·rename_i d hd
   split at hlv
   ·rename_i hlt
    rw [hd]
    have hlt : d < cx.n := by rw [hE.n]; exact zax hlt
    cases hlv
    exact hK _ _ (h _ _ ⟨m2, h2.put hlt (hren v s (resSVof_rep hs hr))⟩)
   ·cases hlv
 unfold enterB at hen
 split at hen
 case h_2 => cases hen
 rename_i c hop
 split at hen
 case h_2 => cases hen
 rename_i xo hc
 split at hen
 ·rename_i f' cb hx
  split at hen
  case h_2 => cases hen
  rename_i as0 hf hbb has
  have hf := Nat.eq_of_beq_eq_true hf
  subst hf
  rw [<- hE.P] at has
  have hv : Act.eval ⟨T, []⟩ xo = .func (.func f') #[] (cb.map m).toArray := za6 hm hx
  exact main _ _ hen (zbf (argSVs_sound hm has) (boxesB_rep hm hbb)) (evCall_run hop hc hv hB'.enters w)
 ·rename_i f' b hx
  split at hen
  case h_2 => cases hen
  rename_i as0 hf hbb has
  have hf := Nat.eq_of_beq_eq_true hf
  subst hf
  rw [<- hE.P] at has
  have hv : Act.eval ⟨T, []⟩ xo = .func (.func f') #[m b] #[] := za6 hm hx
  exact main _ (m b :: c.args.toList.map (Act.eval ⟨T, []⟩)) hen ⟨(boxesB_rep hm hbb).1, argSVs_sound hm has⟩ (evCall_runB hop hc hv hB'.enters w)
 ·cases hen
theorem WL_callB (hE : EnvOK E cx) {α β : Type} {F : FnB α β} {f : Nat} (hB : BC E.P E.G f F) (x : α) (y : β) (hxy : F.rel x y) {o : Oper} {ρ ρ' : List (Nat × Nat)} {n : Nat} (hn : F.n = n) (ks bs rws : List Nat)
  (hw : wantSV ops st o = some true) (hen : enterB E st o n f ρ = some (F.S x)) (hlv : leaveB st (F.S' x y) o n E.n ρ ρ' (F.rs x y) ks bs rws = some st') (h : WL cx ops Q l st') : WL cx ops Q (o :: l) st := by
 have e : ∃ s, leaveB0 st (F.S' x y) o n E.n ρ ρ' (F.rs x y) = some s /\ s.norm ks bs rws = some st' := by
  unfold leaveB at hlv
  unfold leaveB0
  split at hlv
  ·split at hlv
   ·exact ⟨_, rfl, hlv⟩
   ·split at hlv
    ·exact ⟨_, rfl, hlv⟩
    ·cases hlv
  ·cases hlv
 obtain ⟨s, h1, h2⟩ := e
 exact WL_callB0 hE hB x y hxy hn hw hen h1 (h.norm h2)
def St.ren (st : St) (ρ : List (Nat × Nat)) : Option St :=
 match nodupB (ρ.map (·.1)), nodupB (ρ.map (·.2)), ρ.all (fun p => Nat.beq p.1 p.2 || ((look st.bx p.1).isNone && Nat.blt p.2 keptRow)), nodupB (St.ids ⟨[], passBx ρ st.bx ρ, passRw st.rw ρ⟩) with
 | true, true, true, true => some ⟨st.sl.map fun p => (p.1, p.2.ren ρ), passBx ρ st.bx ρ, passRw st.rw ρ⟩
 | _, _, _, _ => none
theorem Rm.ren (h : Rm cx m st T w) {ρ : List (Nat × Nat)} (hn : st.ren ρ = some st') : ∃ m', Rm cx m' st' T w := by
 unfold St.ren at hn
 split at hn
 case h_2 => cases hn
 rename_i k1 k2 k3 k4
 cases hn
 have k1 := zas k1
 have k2 := zas k2
 have k4 := zas k4
 obtain ⟨m', hm'⟩ : ∃ m' : Nat -> Value, m' = fun j => match inv ρ j with | some i => m i | none => undef := ⟨_, rfl⟩
 have hm : ∀ i j, (i, j) ∈ ρ -> m' j = m i := by
  intro i j hij
  rw [hm']
  simp only
  rw [inv_mem k2 hij]
 have hids : ∀ {j : Nat}, j ∈ St.ids ⟨st.sl.map fun p => (p.1, p.2.ren ρ), passBx ρ st.bx ρ, passRw st.rw ρ⟩ -> ∃ i, (i, j) ∈ ρ /\ i ∈ st.ids := fun hj => pass_ids hj
 have hmut : ∀ b, b < w.heap.size -> Mut cx m' (St.ids ⟨st.sl.map fun p => (p.1, p.2.ren ρ), passBx ρ st.bx ρ, passRw st.rw ρ⟩) b -> Mut cx m st.ids b := by
  rintro b _ (hA | ⟨j, hj, hb⟩)
  ·exact .inl hA
  ·obtain ⟨i, hij, hi⟩ := hids hj
   rw [hm i j hij] at hb
   exact .inr ⟨i, hi, hb⟩
 have kw : ∀ b, b < w.heap.size -> ¬ Mut cx m st.ids b -> w.heap[b]? = w.heap[b]? := fun _ _ _ => rfl
 have hs : ∀ v s, repS w (Mut cx m st.ids) m v s -> repS w (Mut cx m' (St.ids ⟨st.sl.map fun p => (p.1, p.2.ren ρ), passBx ρ st.bx ρ, passRw st.rw ρ⟩)) m' v (s.ren ρ) :=
  fun v s hv => ren_rep hm (zap kw hmut hv)
 refine ⟨m', { size := h.size, frame := h.frame, outer := h.outer, slots := ?_, boxes := ?_, rows := ?_, apart := ?_, keys := k4, fixed := ?_, kept := ?_ }⟩
 ·intro i sv hi
  obtain ⟨⟨j, s⟩, hp, he⟩ := List.mem_map.1 hi
  cases he
  obtain ⟨v, e1, e2⟩ := h.slots j s hp
  exact ⟨v, e1, hs v s e2⟩
 ·intro j c' hj
  obtain ⟨i, c, hij, hi, rfl⟩ := passBx_mem hj
  obtain ⟨g, e1, e2, e3⟩ := h.boxes i c hi
  rw [hm i j hij]
  exact ⟨g, isM_map.2 e1, e2, zaq kw hmut (isM_own e1) (fun _ _ => rfl) hs e3⟩
 ·intro j c hj
  obtain ⟨i, hij, hi⟩ := passRw_mem hj
  obtain ⟨cells, e1, e2, e3⟩ := h.rows i c hi
  exact ⟨cells, by rw [hm i j hij]; exact e1, fun g hg => e2 g (by rw [hm i j hij] at hg; exact hg), zab (fun _ _ => rep_ext kw hmut c.t) e3⟩
 ·intro j1 j2 h1 h2 hne g hg hg'
  obtain ⟨i1, a1, b1⟩ := hids h1
  obtain ⟨i2, a2, b2⟩ := hids h2
  rw [hm _ _ a1] at hg
  rw [hm _ _ a2] at hg'
  refine h.apart i1 i2 b1 b2 ?_ g hg hg'
  rintro rfl
  exact hne (nodup_fst k1 a1 a2)
 ·intro b c hb h1' hle
  obtain ⟨i, c0, hij, hi, hcm⟩ := passBx_mem hb
  have h3 := List.all_eq_true.1 k3 _ hij
  simp only [Bool.or_eq_true, Bool.and_eq_true] at h3
  rcases h3 with h3 | ⟨h3, _⟩
  ·have e := Nat.eq_of_beq_eq_true h3
   subst e
   rw [hm _ _ hij]
   exact h.fixed _ _ hi (one_map.symm.trans (hcm ▸ h1')) hle
  ·have h4 := look_isSome hi
   cases hl : look st.bx i with
   | none => rw [hl] at h4; cases h4
   | some x => rw [hl] at h3; cases h3
 ·intro j c hj hle hk
  obtain ⟨i, hij, hi⟩ := passRw_mem hj
  have h3 := List.all_eq_true.1 k3 _ hij
  simp only [Bool.or_eq_true, Bool.and_eq_true] at h3
  rcases h3 with h3 | ⟨_, h3⟩
  ·have e := Nat.eq_of_beq_eq_true h3
   subst e
   rw [hm _ _ hij]
   exact h.kept _ _ hi hle hk
  ·exact absurd hk (Nat.not_le.2 (zax h3))
theorem R.ren (h : R cx st T w) {ρ : List (Nat × Nat)} (hn : st.ren ρ = some st') : R cx st' T w := let ⟨_, hm⟩ := h; hm.ren hn
theorem N.ren {e : Exit} (ρ : List (Nat × Nat)) (hn : st.ren ρ = some st') (h : N cx Q e st') : N cx Q e st := fun T w hR => h T w (hR.ren hn)
theorem W.ren {c : Code} (ρ : List (Nat × Nat)) (hn : st.ren ρ = some st') (h : W cx Q c st') : W cx Q c st := fun T w hR => h T w (hR.ren hn)
theorem WL.ren (ρ : List (Nat × Nat)) (hn : st.ren ρ = some st') (h : WL cx ops Q l st') : WL cx ops Q l st := fun T w hR => h T w (hR.ren hn)
def evResS (P : Program) (st : St) : List ResultVar -> Option (List SV)
 | [] => some []
 | .tmp t :: l => match look st.sl t, evResS P st l with
  | some s, some r => some (s :: r)
  | none, some r => some (.any :: r)
  | _, none => none
 | .cell a ty' :: l => match evRes P st [.cell a ty'], evResS P st l with
  | some [u], some r => some (.val u.t u.x :: r)
  | _, _ => none
theorem evResS_sound (h : Rm cx m st T w) : ∀ {l : List ResultVar} {rs : List SV}, evResS cx.P st l = some rs ->
  ∃ vs, (l.mapM (resOf T)).run cx.P w = .ok vs w /\ repSs w (Mut cx m st.ids) m vs rs
 | [], _, hs => by cases hs; exact ⟨[], by simp, trivial⟩
 | .tmp t :: l, rs, hs => by
  simp only [evResS] at hs
  split at hs
  ·rename_i s r hl hr
   cases hs
   obtain ⟨vs, h1, h2⟩ := evResS_sound h hr
   obtain ⟨v, h3, h4⟩ := h.slots t _ (zak hl)
   refine ⟨v :: vs, ?_, h4, h2⟩
   have hg : T.getD t undef = v := by rw [Array.getD_eq_getD_getElem?, h3]; rfl
   have h5 : (resOf T (.tmp t)).run cx.P w = .ok v w := by show Sem.run cx.P (pure (T.getD t undef)) w = _; rw [hg, Sem.run_pure]
   rw [List.mapM_cons, Sem.run_bind, h5]
   simp only [Result.andThen_ok, Sem.run_bind, h1, Sem.run_pure]
  ·rename_i r hl hr
   cases hs
   obtain ⟨vs, h1, h2⟩ := evResS_sound h hr
   refine ⟨T.getD t undef :: vs, ?_, trivial, h2⟩
   have h5 : (resOf T (.tmp t)).run cx.P w = .ok (T.getD t undef) w := rfl
   rw [List.mapM_cons, Sem.run_bind, h5]
   simp only [Result.andThen_ok, Sem.run_bind, h1, Sem.run_pure]
  ·cases hs
 | .cell a t :: l, rs, hs => by
  simp only [evResS] at hs
  split at hs
  ·rename_i u r he hr
   cases hs
   obtain ⟨vs, h1, h2⟩ := evResS_sound h hr
   obtain ⟨us, h3, h4⟩ := evRes_sound h he
   match us, h4 with
   | [v], ⟨h5, _⟩ =>
    refine ⟨v :: vs, ?_, h5, h2⟩
    have h6 : (resOf T (.cell a t)).run cx.P w = .ok v w := by
     rw [List.mapM_cons, Sem.run_bind] at h3
     cases hh : (resOf T (.cell a t)).run cx.P w with
     | ok v' w2 =>
      rw [hh] at h3
      simp only [Result.andThen_ok, List.mapM_nil, Sem.run_bind, Sem.run_pure] at h3
      cases h3
      rfl
     | _ => rw [hh] at h3; cases h3
    rw [List.mapM_cons, Sem.run_bind, h6]
    simp only [Result.andThen_ok, Sem.run_bind, h1, Sem.run_pure]
   | [], h4 => exact h4.elim
   | _ :: _ :: _, ⟨_, h4⟩ => exact h4.elim
  ·cases hs
def OwesB (P : Program) (fn : Func) (cx : Cx) (S1 : St) (rs : List SV) : Post :=
 bodyPost P fn fun e w' => ∃ v m' T', e = .returned v /\ Rm cx m' S1 T' w' /\ repResS w' (Mut cx m' S1.ids) m' v rs
theorem N_endB {P : Program} (hP : cx.P = P) {fn : Func} {rs : List SV} {S1 : St} {e : Exit} (bs rws : List Nat) (he : e = .ret \/ e = .normal) (hev : evResS P st fn.results.toList = some rs) (hn : st.norm [] bs rws = some S1) :
  N cx (OwesB cx.P fn cx S1 rs) e st := by
 subst hP
 rintro T w ⟨m, hm⟩
 obtain ⟨vs, h1, h2⟩ := evResS_sound hm hev
 have hrun := run_results h1
 have hm' := hm.norm hn
 have hsub : ∀ i, i ∈ S1.ids -> i ∈ st.ids := by
  unfold St.norm at hn
  split at hn
  ·rename_i sl bx rw' q1 q2 q3 _
   cases hn
   intro i hi
   rcases List.mem_append.1 hi with hi | hi
   ·obtain ⟨p, hp, rfl⟩ := List.mem_map.1 hi; exact List.mem_append.2 (.inl (List.mem_map.2 ⟨p, pickL_mem q2 p hp, rfl⟩))
   ·obtain ⟨p, hp, rfl⟩ := List.mem_map.1 hi; exact List.mem_append.2 (.inr (List.mem_map.2 ⟨p, pickL_mem q3 p hp, rfl⟩))
  ·cases hn
 have h3 : repSs w (Mut cx m S1.ids) m vs rs := repSs_ext (fun _ _ _ => rfl) (fun b _ hb => mut_mono hsub hb) h2
 have hres : repResS w (Mut cx m S1.ids) m (if h : vs.toArray.size = 1 then vs.toArray[0] else .tuple vs.toArray) rs := by
  match vs, rs, h3 with
  | [], [], _ => trivial
  | [v], [u], ⟨h, _⟩ => exact h
  | v1 :: v2 :: vs, u1 :: u2 :: us, h =>
   have hne : ¬ (v1 :: v2 :: vs).toArray.size = 1 := by simp
   rw [dif_neg hne]
   exact ⟨_, rfl, h⟩
  | [], _ :: _, h => exact h.elim
  | _ :: _, [], h => exact h.elim
  | [_], _ :: _ :: _, ⟨_, h⟩ => exact h.elim
  | _ :: _ :: _, [_], ⟨_, h⟩ => exact h.elim
 rcases he with rfl | rfl <;> exact ⟨rfl, _, hrun, _, m, _, rfl, hm', hres⟩
theorem bc_of {P : Program} {G : World -> Prop} {f : FuncId} {fn : Func} {c : Code} {α β : Type} {F : FnB α β} (hf : P.funcs[f]? = some fn) (hname : (fn.name == "runtime.NumGoroutine") = false) (hb : fn.body = some c) (hn : fn.ntmps = F.n)
  (body : ∀ cx : Cx, cx.P = P -> cx.n = F.n -> (∀ w, Frame cx.w0 w cx.X -> G w) -> ∀ x y, F.rel x y -> W cx (OwesB cx.P fn cx (F.S' x y) (F.rs x y)) c (F.S x)) : BC P G f F where
 enters := zbv hf hname hb
 calls := fun cx hP hn' hG x y hr vs w _ h => by
  subst hP
  refine calls_of_wp hf hb ?_
  rw [hn]
  exact body cx rfl hn' hG x y hr _ _ h
theorem Contract.weaken {P : Program} {G G' : World -> Prop} {f : Nat} {F : FnC} (hG : ∀ w, G' w -> G w) (h : Contract P G f F) : Contract P G' f F :=
 ⟨h.enters, h.shape, fun w M vs as0 rs hg => h.calls w M vs as0 rs (hG w hg)⟩
theorem BC.weaken {α β : Type} {P : Program} {G G' : World -> Prop} {f : Nat} {F : FnB α β} (hG : ∀ w, G' w -> G w) (h : BC P G f F) : BC P G' f F :=
 ⟨h.enters, fun cx hP hn hg => h.calls cx hP hn fun w hf => hG w (hg w hf)⟩
end Go.Ev
namespace Go.Ev
open Go Go.RowKit
variable [Dr]
section
variable {P : Program} {ops : Array Oper} {md : Region.Mode} {C : World -> Prop}
def headAny (P : Program) (md : Region.Mode) (ops : Array Oper) (C : World -> Prop) (n : Nat) (L : Array Bool -> Act -> Prop) : Nat -> Array Bool -> Act -> Prop
 | 0, done, a => L done a
 | f + 1, done, a => Region.ready md ops done ≠ [] /\ ∀ i, i ∈ Region.ready md ops done -> i < n /\ qOp P ops C i (headAny P md ops C n L f (done.setIfInBounds i true)) a
theorem headAny_run {n g : Nat} {L : Array Bool -> Act -> Prop} {Q' : Exit -> Act -> World -> Prop} (hL : ∀ done a w, C w -> L done a -> wpAny P md ops Q' g done a w) :
  ∀ (f : Nat) (done : Array Bool) (a : Act) (w : World), C w -> headAny P md ops C n L f done a -> wpAny P md ops Q' (f + g) done a w := by
 intro f
 induction f with
 | zero => intro done a w hw h; rw [Nat.zero_add]; exact hL _ _ _ hw h
 | succ f ih =>
  intro done a w hw h
  rw [Nat.succ_add]
  exact ⟨fun h0 => absurd h0 h.1, fun i hi => wpOp_of_qOp hw (fun a' w' hw' h' => ih _ a' w' hw' h') (h.2 i hi).2⟩
theorem headAny_take {n i : Nat} {o : Oper} {v : Value} {L : Array Bool -> Act -> Prop} (hi : ops[i]? = some o) (hsel : ∀ (j : Nat) (o : Oper) cs b, ops[j]? = some o -> o.op ≠ .select cs b)
  (hs : Region.sinkB md ops n = true) (hc : Region.chainB md ops n = true) (hn : n < ops.size) (hin : i < n) (hL : ∀ done a, L done a -> ∀ j, j ∈ Region.ready md ops done -> n <= j) :
  ∀ (f : Nat) (done : Array Bool) (a : Act), HeadInv md ops n done ->
   (∀ j oj, ops[j]? = some oj -> j ≠ i -> done.getD j true = false -> (∀ e ∈ oj.after, Region.binds md e = true -> e.on ≠ i) -> o.apart ops oj = true) ->
   i ∈ Region.ready md ops done -> YieldsIn P ops C o v a -> headAny P md ops C n L f (done.setIfInBounds i true) (a.put o.dst v) -> headAny P md ops C n L (f + 1) done a := by
 intro f
 induction f with
 | zero =>
  intro done a inv _ hr hy H
  have hun := (mem_ready.1 hr).1
  refine ⟨fun h0 => (by rw [h0] at hr; cases hr), fun j hj => ?_⟩
  have hjn : j < n := Nat.lt_of_not_le fun h => tail_waits hs hc hn inv _ i rfl hin hun j h hj
  refine ⟨hjn, ?_⟩
  by_cases e : j = i
  ·subst e; exact hy.qOp hi H
  ·exact absurd (hL _ _ H j (ready_mono hj e)) (Nat.not_le_of_lt hjn)
 | succ f ih =>
  intro done a inv hfree hr hy H
  have hun := (mem_ready.1 hr).1
  refine ⟨fun h0 => (by rw [h0] at hr; cases hr), fun j hj => ?_⟩
  have hjn : j < n := Nat.lt_of_not_le fun h => tail_waits hs hc hn inv _ i rfl hin hun j h hj
  refine ⟨hjn, ?_⟩
  by_cases e : j = i
  ·subst e; exact hy.qOp hi H
  obtain ⟨hjun, oj, hoj, hall⟩ := mem_ready.1 hj
  have hap := hfree j oj hoj e hjun fun d hd hb hq => by
   have h1 := hall d hd hb
   rw [hq, getD_both hun] at h1
   cases h1
  refine qOp_mono (fun a' h3 => ih (done.setIfInBounds j true) a' (inv.set hj hjn) (fun k ok hk hki hku hno => hfree k ok hk hki ?_ hno) (ready_mono hr (Ne.symm e)) h3.1 ?_)
   (qOp_put hoj hap (fun cs b => hsel i o cs b hi) (fun cs b => hsel j oj cs b hoj) hy (H.2 j (ready_mono hj e)).2)
  ·by_cases q : j = k
   ·subst q; exact hjun
   ·rwa [getD_set_ne true q] at hku
  ·rw [Array.setIfInBounds_comm _ _ e]; exact h3.2
theorem headAny_lex {n g : Nat} {Lq : Act -> Prop} (hsel : Region.noSelect ops = true) (hs : Region.sinkB md ops n = true) (hc : Region.chainB md ops n = true) (hn : n < ops.size) :
  ∀ (l : List Oper) (k : Nat) (done : Array Bool) (a : Act), (∀ j, j < l.length -> l[j]? = ops[k + j]?) -> k + l.length = n -> HeadInv md ops n done -> Region.lexHead md ops g l.length k done = true ->
   wpQuiet P ops C Lq l a -> headAny P md ops C n (fun d a' => Region.seqB md ops g n d = true /\ Lq a') l.length done a := by
 intro l
 induction l with
 | nil =>
  intro k done a _ hk _ hB h
  obtain rfl : k = n := hk
  exact ⟨hB, h⟩
 | cons o l ih =>
  intro k done a hl hk inv hB h
  have h0 : ops[k]? = some o := (hl 0 (Nat.succ_pos _)).symm
  obtain ⟨hB1, hB2⟩ := Bool.and_eq_true_iff.1 hB
  obtain ⟨hr, hf⟩ := Bool.and_eq_true_iff.1 hB1
  have hkn : k < n := by rw [<- hk]; simp
  have hr' : k ∈ Region.ready md ops done := by simpa using hr
  obtain ⟨v, hy, hK⟩ := yieldsIn_of_qOp (K := wpQuiet P ops C Lq l) h0 (by unfold qOp; rw [h0]; exact h)
  refine headAny_take h0 (Region.noSelect_spec hsel) hs hc hn hkn (fun d a' hL => seqB_ready hL.1) l.length done a inv (Region.free_spec h0 hf) hr' hy ?_
  refine ih (k + 1) _ _ (fun j hj => ?_) (by rw [<- hk]; simp only [List.length_cons]; omega) (inv.set hr' hkn) hB2 hK
  have := hl (j + 1) (Nat.succ_lt_succ hj)
  rw [Nat.add_assoc, Nat.add_comm 1 j]
  exact this
theorem wp_region_quiet_tail {id : Nat} {Q : Exit -> Act -> World -> Prop} {a : Act} {w : World} {l : List Oper} (n : Nat) (hm : P.follows .mixedOrders = true) (hB : Region.lexTailB .any l.toArray n = true) (hC : C { w with drawn := w.drawn + 1 })
  (h : wpQuiet P l.toArray C (fun a' => ∀ w', C w' -> wpList P l.toArray Q (l.drop n) a' w') (l.take n) a) : (Code.region id l.toArray true).wp P Q a w := by
 simp only [Region.lexTailB, Bool.and_eq_true, decide_eq_true_eq] at hB
 obtain ⟨⟨⟨⟨hsel, hn⟩, hs⟩, hc⟩, hlex⟩ := hB
 have hn' : n < l.length := by simpa using hn
 have ht : (l.take n).length = n := List.length_take_of_le (Nat.le_of_lt hn')
 have inv0 : HeadInv .any l.toArray n (Array.replicate l.toArray.size false) :=
  ⟨by simp, fun j oj _ hl => (by rw [getD_replicate_false] at hl; cases hl), fun t _ ht => getD_in (by simpa using ht) (getD_replicate_false _ _)⟩
 have H := headAny_lex (C := C) (md := .any) (g := l.toArray.size - n) hsel hs hc hn (l.take n) 0 _ a
  (fun j hj => by rw [ht] at hj; simp [hj]) (by rw [ht, Nat.zero_add]) inv0 (by rw [ht]; exact hlex) h
 have hd : (l.drop n).length = l.toArray.size - n := by simp
 have R := headAny_run (Q' := Q) (g := l.toArray.size - n) (fun done a' w' hw' hL => by
  have := wpAny_of_seq (md := .any) (Q' := Q) (l.drop n) n done a' w' (fun j => by simp [List.getElem?_drop]) (by rw [hd]; exact hL.1) (hL.2 w' hw')
  rwa [hd] at this) _ _ _ _ hC H
 rw [ht, show n + (l.toArray.size - n) = l.toArray.size by omega] at R
 exact wp_region_any hm R
end
variable {cx : Cx} {st st' : St} {Q : Post} {E : Env}
variable {ops : Array Oper} {l : List Oper}
theorem WDK_nil {K : World -> Act -> Prop} (h : ND cx K st) : WDK cx ops K [] st := fun T w hR => h T w hR
theorem WDK_join {α : Type} {K0 : World -> Act -> Prop} (F : α -> Prop) (S : α -> St) (n : Nat) (hy : ∀ a, F a -> WDK cx ops K0 (l.drop n) (S a))
  (hx : ∀ K, (∀ a, F a -> ND cx K (S a)) -> WDK cx ops K (l.take n) st) : WDK cx ops K0 l st := by
 intro T w hR
 have := zbx (P := cx.P) (ops := ops) (l1 := l.take n) (l2 := l.drop n)
  (hx (fun w => wpQuiet cx.P ops (Ext w) (K0 w) (l.drop n)) (fun a ha T w hR => hy a ha T w hR) T w hR)
 rwa [List.take_append_drop] at this
end Go.Ev
namespace Go.Ev
open Go Go.RowKit
variable [Dr]
variable {cx : Cx} {m : Nat -> Value} {st st' : St} {T : Array Value} {w w' : World} {E : Env} {Q : Post} {ops : Array Oper} {l : List Oper}
theorem filter_erase : ∀ (L : List MapEntry) (j : Nat) (e : MapEntry), (L.map (·.born)).Nodup -> L[j]? = some e -> L.filter (fun x => !(x.born == e.born)) = L.eraseIdx j
 | [], j, e, _, h => by simp at h
 | x :: L, 0, e, hn, h => by
  simp at h
  subst h
  rw [List.map_cons, List.nodup_cons] at hn
  rw [List.filter_cons, beq_self_eq_true]
  simp only [Bool.not_true, Bool.false_eq_true, if_false, List.eraseIdx_zero, List.tail_cons]
  refine List.filter_eq_self.2 fun y hy => ?_
  have : ¬ y.born = x.born := fun hc => hn.1 (List.mem_map.2 ⟨y, hy, hc⟩)
  simp [this]
 | x :: L, j + 1, e, hn, h => by
  rw [List.map_cons, List.nodup_cons] at hn
  have h' : L[j]? = some e := by simpa using h
  have hx : ¬ x.born = e.born := fun hc => hn.1 (List.mem_map.2 ⟨e, List.mem_of_getElem? h', hc.symm⟩)
  rw [List.filter_cons, if_pos (by simp [hx]), filter_erase L j e hn.2 h', List.eraseIdx_cons_succ]
theorem repM_erase {α β : Type} {fk : Value -> α -> Prop} {fv : Value -> β -> Prop} : ∀ {es : List MapEntry} {ps : List (α × β)} (j : Nat), repM fk fv es ps -> repM fk fv (es.eraseIdx j) (ps.eraseIdx j)
 | [], [], _, _ => trivial
 | [], _ :: _, _, h => h.elim
 | _ :: _, [], _, h => h.elim
 | _ :: _, _ :: _, 0, ⟨_, _, h⟩ => h
 | _ :: _, _ :: _, j + 1, ⟨h1, h2, h3⟩ => ⟨h1, h2, repM_erase j h3⟩
theorem repM_nth {α β : Type} {fk : Value -> α -> Prop} {fv : Value -> β -> Prop} : ∀ {es : List MapEntry} {ps : List (α × β)} {j : Nat} {e : MapEntry}, repM fk fv es ps -> es[j]? = some e -> ∃ p, ps[j]? = some p /\ fk e.key p.1 /\ fv e.val p.2
 | [], _, _, _, _, h => by simp at h
 | _ :: _, [], _, _, h, _ => h.elim
 | e :: _, p :: _, 0, e', ⟨h1, h2, _⟩, h => by simp at h; subst h; exact ⟨p, rfl, h1, h2⟩
 | _ :: _, _ :: _, j + 1, e', ⟨_, _, h3⟩, h => by
  obtain ⟨p, a, b, c⟩ := repM_nth h3 (j := j) (by simpa using h)
  exact ⟨p, by simpa using a, b, c⟩
theorem run_nextM {P : Program} (ty : TypeId) {r bm clock : Nat} {seen : Array Nat} {es : Array MapEntry} (hr : w.heap[r]? = some (.mapIter (some bm) clock seen clock)) (hb : w.heap[bm]? = some (.map es clock)) (hold : ∀ x ∈ es.toList, x.born < clock)
  (hne : es.toList.filter (fun e => !seen.contains e.born) ≠ []) :
  ∃ (j : Nat) (e : MapEntry) (w1 : World), (es.toList.filter (fun e => !seen.contains e.born))[j]? = some e /\ (w1 = w \/ w1 = w.drew) /\
   (Instr.next (.pointer (some ⟨r, 0, none⟩)) false ty).run P w = .ok (.tuple #[.bool true, e.key, e.val]) { w1 with heap := w1.heap.setIfInBounds r (.mapIter (some bm) clock (seen.push e.born) clock) } := by
 simp only [Instr.next, getObj, Sem.run_bind, Sem.run, hr, hb, Result.andThen, next_test_false seen es clock clock hold (Nat.le_refl _), Bool.false_eq_true, if_false]
 have hmem : ∀ x ∈ (Array.filter (fun e => !seen.contains e.born) es).toList, x.born < clock := fun x hx => hold x (by simp at hx ⊢; exact hx.1)
 rw [<- Array.toList_filter] at hne ⊢
 generalize Array.filter (fun e => !seen.contains e.born) es = L at hmem hne ⊢
 have e1 : L.filter (fun x => decide (x.born < clock)) = L := Array.filter_eq_self.2 (fun x hx => by simpa using hmem x (by simpa using hx))
 have e2 : L.filter (fun x => decide (x.born ≥ clock)) = #[] := by
  rw [Array.filter_eq_empty_iff]
  intro x hx
  have := hmem x (by simpa using hx)
  simp
  omega
 simp only [e1, e2, Array.append_empty]
 have h0 : L.size ≠ 0 := fun h => hne (by rw [Array.eq_empty_of_size_eq_zero h])
 have hne' : L.isEmpty = false := by simp [Array.isEmpty, h0]
 simp only [hne', Bool.false_eq_true, if_false, Array.empty_append, Array.size_map]
 have hch : ∃ (j : Nat) (w1 : World), j < L.size /\ (w1 = w \/ w1 = w.drew) /\ (choose (Question.mapNext L.size)).run P w = .ok j w1 := by
  by_cases hf : L.size <= 1
  ·exact ⟨0, w, by omega, .inl rfl, by simp [choose, Sem.run, Question.forced, hf]⟩
  ·exact ⟨_, w.drew, Nat.mod_lt _ (by omega), .inr rfl, by
    simp only [choose, Sem.run, Question.forced, decide_eq_true_eq, hf, if_false, Question.cut]
    rfl⟩
 obtain ⟨j, w1, hj, hal, hrun⟩ := hch
 refine ⟨j, L[j], w1, by simp [hj], hal, ?_⟩
 have hr1 : w1.heap[r]? = some (.mapIter (some bm) clock seen clock) := by rcases hal with rfl | rfl <;> exact hr
 simp only [hrun, Array.getElem?_map, Array.getElem?_eq_getElem hj, Option.map_some, Sem.run_bind, setObj, Sem.run, Result.andThen, hr1]
 rfl
theorem WL_nextM {n0 : Nat} (hn0 : cx.n = n0) {o : Oper} {l : List Oper} {x : Operand} {d b : Nat} {k v : Ty} {left last : List (k.el × v.el)} (ho : o.op = .next x false) (hd : o.dst = some d) (hdn : Nat.blt d n0 = true) (hg : o.guard = none)
  (hx : getSV st x = some (.iter b)) (hb : look st.bx b = some (.mit k v left last)) (hne : left ≠ [])
  (h : ∀ j p, left[j]? = some p -> WL cx ops Q l ((st.setBox b (.mit k v (left.eraseIdx j) [p])).put d (.tup [⟨.bool, true⟩, ⟨k, p.1⟩, ⟨v, p.2⟩]))) : WL cx ops Q (o :: l) st := by
 rintro T w ⟨m, hm⟩
 have hbm := zak hb
 obtain ⟨g, e1, _, e3⟩ := hm.box hbm
 have e1 : m b = .pointer (some ⟨g, 0, none⟩) := e1
 have hv : Act.eval ⟨T, []⟩ x = .pointer (some ⟨g, 0, none⟩) := by have : Act.eval ⟨T, []⟩ x = m b := za6 hm hx; rw [this, e1]
 rcases e3 with ⟨_, h1, _⟩ | ⟨mb, es, clock, seen, h1, h2, h3, h4, h5, h6, _⟩
 ·exact absurd h1 hne
 have hne' : es.toList.filter (fun e => !seen.contains e.born) ≠ [] := fun hc => hne (List.eq_nil_of_length_eq_zero (by rw [<- repM_len h6, hc]; rfl))
 obtain ⟨j, e, w1, a1, a2, a3⟩ := run_nextM (P := cx.P) o.type h1 h2 h4 hne'
 obtain ⟨p, p1, p2, p3⟩ := repM_nth h6 a1
 have hlt := zad h1
 have hw1 : Same w w1 /\ w1.heap = w.heap := by
  rcases a2 with rfl | rfl
  ·exact ⟨⟨rfl, rfl, rfl, Nat.le_refl _, fun _ => Nat.le_refl _⟩, rfl⟩
  ·exact ⟨⟨rfl, rfl, rfl, Nat.le_refl _, fun _ => Nat.le_succ _⟩, rfl⟩
 have hn : Touch m w b { w1 with heap := w1.heap.setIfInBounds g (.mapIter (some mb) clock (seen.push e.born) clock) } :=
  ⟨⟨hw1.1.os, hw1.1.tape, hw1.1.output, by rw [Array.size_setIfInBounds]; exact hw1.1.size, hw1.1.drawn⟩, fun k _ hne => by
   show (w1.heap.setIfInBounds g _)[k]? = _
   rw [Array.getElem?_setIfInBounds_ne, hw1.2]
   intro e
   exact hne (by rw [e1, e]; rfl)⟩
 have hbi : b ∈ st.ids := List.mem_append.2 (.inl (List.mem_map.2 ⟨_, hbm, rfl⟩))
 obtain ⟨kk1, kk2⟩ := Rm.touch_keeps (cx := cx) hbi hn (ids := (st.setBox b (.mit k v (left.eraseIdx j) [p])).ids) (zar hbm hm.keys _).1
 have hgm : mb ≠ g := fun e => h3 (.inr ⟨b, hbi, by rw [e1, e]; rfl⟩)
 have hset := hm.setBox hbm hn (g := g) (c := .mit k v (left.eraseIdx j) [p]) e1 (by
  refine .inr ⟨mb, es, clock, seen.push e.born, ?_, ?_, fun hc => h3 (kk2 mb (zad h2) hc), h4, h5, ?_, .inr ⟨e, p, rfl, ?_, by simp, ?_, ?_⟩⟩
  ·show (w1.heap.setIfInBounds g _)[g]? = _
   rw [Array.getElem?_setIfInBounds_self_of_lt (by rw [hw1.2]; exact hlt)]
  ·show (w1.heap.setIfInBounds g _)[mb]? = _
   rw [Array.getElem?_setIfInBounds_ne (Ne.symm hgm), hw1.2]
   exact h2
  ·have e5 : es.toList.filter (fun x => !(seen.push e.born).contains x.born) = (es.toList.filter (fun x => !seen.contains x.born)).eraseIdx j := by
    have hsub : ((es.toList.filter (fun x => !seen.contains x.born)).map (·.born)).Nodup := h5.sublist (List.Sublist.map _ List.filter_sublist)
    rw [<- filter_erase _ j e hsub a1, List.filter_filter]
    congr 1
    funext x
    rw [Array.contains_push, Bool.not_or, Bool.and_comm]
   rw [e5]
   exact zac (fun _ _ h => zaj kk1 kk2 h) (fun _ _ h => zaj kk1 kk2 h) (repM_erase j h6)
  ·exact (List.mem_filter.1 (List.mem_of_getElem? a1)).1
  ·exact zaj kk1 kk2 p2
  ·exact zaj kk1 kk2 p3)
 have hput := hset.put (d := d) (by rw [hn0]; exact zax hdn) (v := .tuple #[.bool true, e.key, e.val]) (s := .tup [⟨.bool, true⟩, ⟨k, p.1⟩, ⟨v, p.2⟩])
  ⟨[.bool true, e.key, e.val], rfl, za1.2 rfl, zaj kk1 kk2 p2, zaj kk1 kk2 p3, trivial⟩
 have hfin := h j p p1 _ _ ⟨m, hput⟩
 refine wpList_step fun K hK => ?_
 have hw : wantSV ops st o = some true := by unfold wantSV; rw [hg]
 rw [zbo ⟨m, hm⟩ hw]
 simp only [if_true]
 refine zbn (zbk (s := Instr.next (.pointer (some ⟨g, 0, none⟩)) false o.type) (by simp only [execOp, ho, hv]) a3) ?_
 refine hK _ _ ?_
 rw [hd]
 exact hfin
end Go.Ev
namespace Go.Ev
open Go Go.RowKit
variable [Dr]
inductive Obs : List Prop -> Prop
 | n : Obs []
 | c {p : Prop} {l : List Prop} (h : p) (t : Obs l) : Obs (p :: l)
theorem Obs.all {l : List Prop} (h : Obs l) : allP l := by
 induction h with
 | n => trivial
 | c h _ ih => exact ⟨h, ih⟩
def keysOf {α : Type} (l : List (Nat × α)) : List Nat := l.map (·.1)
def outS (r : Option (St × List TV × List Prop)) : St := match r with
 | some (s, _) => s
 | none => ⟨[], [], []⟩
theorem outS_some {r : Option (St × List TV × List Prop)} {ob : List Prop} (h : r.map Prod.snd = some ([], ob)) : r = some (outS r, [], ob) := by
 match r, h with
 | some (s, o, p), h => cases h; rfl
def getS (r : Option St) : St := r.getD ⟨[], [], []⟩
theorem getS_some {r : Option St} (h : r.isSome = true) : r = some (getS r) := by
 match r, h with
 | some s, _ => rfl
def setB (st : St) (d : Nat) (b : Bool) : St := { st with sl := st.sl.map fun p => bif Nat.beq p.1 d then (p.1, .val .bool b) else p }
variable {cx : Cx} {st st' : St} {Q : Post} {E : Env} {ops : Array Oper} {l : List Oper} {K : World -> Act -> Prop}
theorem WL_allC (hE : EnvOK E cx) (ks bs rs : List Nat) {orc : List TV} {ob : List Prop} (hev : (evK E ops l st orc ks bs rs).map Prod.snd = some ([], ob)) (hob : Obs ob) (h : N cx Q .normal (outS (evK E ops l st orc ks bs rs))) : WL cx ops Q l st :=
 WL_all hE ks bs rs (outS_some hev) hob.all h
theorem WL_allI (hE : EnvOK E cx) {orc : List TV} {ob : List Prop} (hev : evK E ops l st orc (keysOf st'.sl) (keysOf st'.bx) (keysOf st'.rw) = some (st', [], ob)) (hob : Obs ob) (h : N cx Q .normal st') : WL cx ops Q l st :=
 WL_all hE _ _ _ hev hob.all h
theorem WL_tkC (hE : EnvOK E cx) (n : Nat) (ks bs rs : List Nat) {orc : List TV} {ob : List Prop} (hev : (evK E ops (l.take n) st orc ks bs rs).map Prod.snd = some ([], ob)) (hob : Obs ob) (h : WL cx ops Q (l.drop n) (outS (evK E ops (l.take n) st orc ks bs rs))) : WL cx ops Q l st :=
 WL_tk hE n ks bs rs (outS_some hev) hob.all h
theorem WD_allC (hE : EnvOK E cx) (ks bs rs : List Nat) {orc : List TV} {ob : List Prop} (hev : (evDK E ops l st orc ks bs rs).map Prod.snd = some ([], ob)) (hob : Obs ob) (h : N cx Q .normal (outS (evDK E ops l st orc ks bs rs))) : WD cx ops Q l st :=
 WD_all hE ks bs rs (outS_some hev) hob.all h
theorem WL_splitC (d : Nat) {b : Bool} (he : setB st d b = st) (ht : b = true -> WL cx ops Q l (setB st d true)) (hf : b = false -> WL cx ops Q l (setB st d false)) : WL cx ops Q l st := by
 rw [<- he]
 exact WL_split (setB st d) ht hf
theorem WL_callBC (hE : EnvOK E cx) {α β : Type} {F : FnB α β} {f : Nat} (hB : BC E.P E.G f F) (x : α) (y : β) (hxy : F.rel x y) {o : Oper} {ρ ρ' : List (Nat × Nat)} {n : Nat} (hn : F.n = n) (ks bs rws : List Nat)
  (hw : wantSV ops st o = some true) (hen : enterB E st o n f ρ = some (F.S x)) (hlv : (leaveB st (F.S' x y) o n E.n ρ ρ' (F.rs x y) ks bs rws).isSome = true) (h : WL cx ops Q l (getS (leaveB st (F.S' x y) o n E.n ρ ρ' (F.rs x y) ks bs rws))) : WL cx ops Q (o :: l) st :=
 WL_callB hE hB x y hxy hn ks bs rws hw hen (getS_some hlv) h
theorem N_normI {e : Exit} (hs : st.norm (keysOf st'.sl) (keysOf st'.bx) (keysOf st'.rw) = some st') (h : N cx Q e st') : N cx Q e st := h.norm hs
theorem N_renI {e : Exit} (ks bs rs : List Nat) (ρ : List (Nat × Nat)) (hs : ((st.norm ks bs rs).bind (·.ren ρ)) = some st') (h : N cx Q e st') : N cx Q e st := by
 obtain ⟨s, h1, h2⟩ := Option.bind_eq_some_iff.1 hs
 exact (N.ren ρ h2 h).norm h1
theorem N_renC {e : Exit} (ks bs rs : List Nat) (ρ : List (Nat × Nat)) (hs : ((st.norm ks bs rs).bind (·.ren ρ)).isSome = true) (h : N cx Q e (getS ((st.norm ks bs rs).bind (·.ren ρ)))) : N cx Q e st := N_renI ks bs rs ρ (getS_some hs) h
end Go.Ev
