/- A machine of our own for Go code without shared memory: one step of it stands for the model's steps. Part of the proof; no condition of its own. -/
import Derived.Test.YtmgjmdlmnbjaiaaMb

section
/- AM, part 18: conversions. -/
namespace Go.AM
section
variable {P : Program} {z : Ctx0} {c : Cx} {h : H}

theorem src_slice {w : World} {sz n : Nat} {cs : List Value} {u : Value} (hs : SrcAt P w sz n cs u) (hu : ∀ s, u ≠ .string s) : ∃ A cap, u = .slice A n cap := by
  have h1 := hs.1 w
  cases u <;> simp [Builtin.lenOf, stuck] at h1
  case slice A m cap => exact ⟨A, cap, by rw [h1]⟩
  case string s => exact absurd rfl (hu s)

theorem src_str {w : World} {l : List UInt8} {u : Value} (hs : SrcAt P w 1 l.length (byteCells l) u) (hu : ∀ s, u ≠ .string s) : (∃ A cap, u = .slice A l.length cap) ∧ (Conv.bytesToString u).run P w = .ok (.string (bs l)) w := by
  obtain ⟨A, cap, rfl⟩ := src_slice hs hu
  refine ⟨⟨A, cap, rfl⟩, ?_⟩
  have h2 := (hs.2 w rfl).1
  cases A with
  | none =>
    rw [run_firstCells_none] at h2
    simp only [Result.ok.injEq, and_true] at h2
    have hl : byteCells l = [] := by have := congrArg Array.toList h2; simpa using this.symm
    have : l = [] := by simpa [byteCells] using hl
    subst this
    simp [Conv.bytesToString]
    rfl
  | some a =>
    simp only [Builtin.firstCells, Nat.mul_one] at h2
    rw [run_bytesToString w a l.length cap (l.map fun b => (b.toNat : Int)) (by rw [h2]; simp [byteCells]), foldl_push_byteCells]
    simp [bs]

theorem ckP_inv (src dst : TypeId) : match ckP P src dst with
    | .int k => (P.underlying src).isSome = true ∧ P.underlying dst = some (.int k)
    | .toStr => ∃ e, P.underlying src = some (.slice e) ∧ P.underlying e = some (.int .u8) ∧ P.underlying dst = some .string
    | .idStr => P.underlying src = some .string ∧ P.underlying dst = some .string
    | .toBytes => ∃ e, P.underlying src = some .string ∧ P.underlying dst = some (.slice e) ∧ P.underlying e = some (.int .u8)
    | .same => ∃ e0 e, P.underlying src = some (.slice e0) ∧ P.underlying dst = some (.slice e) ∧ P.underlying e = some (.int .u8) ∧ src = dst
    | .none => True := by
  cases hs : P.underlying src with
  | none =>
    have : ckP P src dst = .none := by unfold ckP; rw [hs]
    rw [this]; trivial
  | some a =>
    cases hd : P.underlying dst with
    | none =>
      have : ckP P src dst = .none := by unfold ckP; rw [hs, hd]
      rw [this]; trivial
    | some b =>
      unfold ckP
      rw [hs, hd]
      cases b
      case int k => simp
      case string =>
        cases a
        case slice e =>
          cases he : P.underlying e with
          | none => simp only [he]
          | some d =>
            simp only [he]
            cases d <;> try trivial
            case int k => cases k <;> first | trivial | exact ⟨e, rfl, he, trivial⟩
        case string => exact ⟨rfl, rfl⟩
        all_goals trivial
      case slice e =>
        cases a
        case string =>
          cases he : P.underlying e with
          | none => simp only [he]
          | some d =>
            simp only [he]
            cases d <;> try trivial
            case int k => cases k <;> first | trivial | exact ⟨e, trivial, rfl, he⟩
        case slice e0 =>
          cases he : P.underlying e with
          | none => simp only [he]
          | some d =>
            simp only [he]
            cases d <;> try trivial
            case int k =>
              cases k <;> try trivial
              by_cases hsd : (src == dst) = true
              · simp only [hsd]
                exact ⟨e0, e, rfl, rfl, he, by simpa using hsd⟩
              · rw [if_neg hsd]; trivial
        all_goals trivial
      all_goals (cases a <;> trivial)

theorem freeze_spec {w : World} {b n : Nat} {cur : Array Value} {t : TypeId} {fr : Nat × Nat} (hb : w.heap[b]? = some (.cells cur t fr)) :
    WStep w (w.freeze ⟨b, n, none⟩ 1) (fun k => k = b) ∧ (w.freeze ⟨b, n, none⟩ 1).heap.size = w.heap.size ∧ ∃ fr', (w.freeze ⟨b, n, none⟩ 1).heap[b]? = some (.cells cur t fr') ∧ (noFz n fr → noFz n fr') := by
  obtain ⟨lo, hi⟩ := fr
  have h1 : ∀ k, (w.freeze ⟨b, n, none⟩ 1).heap[k]? = if b = k then some (.cells cur t (if lo == hi then (n, n + 1) else (min lo n, max hi (n + 1)))) else w.heap[k]? := by
    intro k
    simp only [World.freeze]
    rw [if_neg (by decide)]
    simp only [Array.getElem?_modify]
    by_cases hk : b = k
    · subst hk; rw [if_pos rfl, if_pos rfl, hb]; rfl
    · rw [if_neg hk, if_neg hk]
  have h2 : (w.freeze ⟨b, n, none⟩ 1).heap.size = w.heap.size := by simp [World.freeze]
  refine ⟨⟨by simp [World.freeze], by simp [World.freeze], by simp [World.freeze], by rw [h2]; exact Nat.le_refl _, fun k _ hk => by rw [h1, if_neg (fun e => hk e.symm)], fun k _ => ?_⟩, h2, _, by rw [h1, if_pos rfl], fun hf => ?_⟩
  · by_cases hk : b = k
    · subst hk; unfold sizeAt; rw [h1, if_pos rfl, hb]
    · exact sizeAt_of (by rw [h1, if_neg hk])
  · rcases hf with hf | hf
    · cases hf; exact .inr (Nat.le_refl _)
    · right
      simp only at hf
      split
      · exact Nat.le_refl _
      · simp only [Nat.le_min]; omega

theorem bytesRow_sub (s : List UInt8) (n : Nat) : ∀ (j : Nat) (u : Value), (byteCells s)[j]? = some u → (bytesRow (bs s) n)[j]? = some u := by
  intro j u hj
  have hl : j < s.length := by simpa [byteCells] using (List.getElem?_eq_some_iff.1 hj).1
  unfold bytesRow
  rw [Array.getElem?_append_left (by simp [bs, ByteArray.size]; exact hl)]
  rw [← hj]
  simp [bs, byteCells]

theorem conv_str (I : Inv z c h) {src dst e : TypeId} {v : V} {u : Value} (h1 : P.underlying src = some (.slice e)) (h2 : P.underlying e = some (.int .u8)) (h3 : P.underlying dst = some .string) (hv : Rep c v u) (hn : ∀ s, v ≠ .str s) :
    Res P z c h (convert src dst u) (match rwOf h.get .byte 1 v with
    | some (q, .bytes l) => .ok q (.str l) [] 0
    | _ => .fail) := by
  cases hr : rwOf h.get .byte 1 v with
  | none => trivial
  | some qr =>
    obtain ⟨q, r⟩ := qr
    cases r <;> try trivial
    case bytes l =>
      refine Res.same I fun hq => ?_
      obtain ⟨cs, ⟨_, rfl⟩, g2⟩ := rwOf_spec (P := P) I hr hq hv
      have hu : ∀ s, u ≠ .string s := by
        intro s e
        subst e
        cases v <;> simp only [rwOf] at hr <;> try (simp only [reduceCtorEq] at hr)
        case nils => cases hv
        case str s' => exact hn _ rfl
        case slb => obtain ⟨_, _, e, _⟩ := hv; cases e
        case sli => obtain ⟨_, _, e, _⟩ := hv; cases e
        case sls => obtain ⟨_, _, e, _⟩ := hv; cases e
        case sle => obtain ⟨_, _, _, _, e, _⟩ := hv; cases e
        case own i s lo n =>
          cases hg : h.get i with
          | none => rw [hg] at hr; cases hr
          | some x =>
            cases x with
            | var _ => rw [hg] at hr; cases hr
            | map _ => rw [hg] at hr; cases hr
            | row s' r0 =>
              rw [hg] at hr
              simp only at hr
              split at hr
              · rename_i hss
                simp only [Option.some.injEq, Prod.mk.injEq] at hr
                obtain ⟨rfl, _⟩ := hr
                obtain ⟨A, cap, cs, e, _⟩ := own_cells I hg (by omega) hv hq
                cases e
              · cases hr
        case vsl i off lo n =>
          cases hg : h.get i with
          | none => simp [hg] at hr
          | some x =>
            cases x with
            | row _ _ => simp [hg] at hr
            | map _ => simp [hg] at hr
            | var e =>
              obtain ⟨hin, b0, t0, cur0, ty0, cs0, hφ0, _, hs0, _, _⟩ := getB_at I hg
              obtain ⟨_, hv2⟩ := hv
              rw [hφ0] at hv2
              obtain ⟨_, _, e, _⟩ := hv2
              cases e
      obtain ⟨⟨A, cap, rfl⟩, g3⟩ := src_str g2 hu
      exact ⟨_, by rw [run_convert_bytes_string c.w src dst e A _ cap h1 h2 h3]; exact g3, rfl⟩

theorem pConv_res (I : Inv z c h) {src dst : TypeId} {v : V} {u : Value} (hv : Rep c v u) : Res P z c h (convert src dst u) (pConv (ckP P src dst) v h.get h.n) := by
  have hck := ckP_inv (P := P) src dst
  generalize ckP P src dst = ck at hck
  cases ck
  case int k =>
    obtain ⟨h1, h2⟩ := hck
    unfold pConv
    cases v <;> try trivial
    case int k' n' =>
      have hk : P.intKind dst = k := by simp [Program.intKind, h2]
      cases hv
      refine Res.same I fun _ => ?_
      have := run_convert_int (P := P) c.w src dst k' n' h1 (by rw [hk]; exact h2)
      rw [hk] at this
      exact ⟨_, this, rfl⟩
  case toStr =>
    obtain ⟨e, h1, h2, h3⟩ := hck
    cases v <;> first
      | trivial
      | exact conv_str I h1 h2 h3 hv (fun s e => by cases e)
  case idStr =>
    obtain ⟨h1, h2⟩ := hck
    cases v <;> try trivial
    case str s =>
      cases hv
      refine Res.same I fun _ => ⟨_, ?_, rfl⟩
      simp [convert, run_underlying h1, run_underlying h2]
  case toBytes =>
    obtain ⟨e, h1, h2, h3⟩ := hck
    cases v <;> try trivial
    case str s =>
      cases hv
      intro _
      obtain ⟨I1, e1⟩ := I.draw (w' := c.w.drew) rfl rfl rfl rfl
      have hbs : (bs s).size = s.length := by simp [bs, ByteArray.size]
      have hge := grownCap_ge c.w (bs s).size 0 e
      have hsz : (bytesRow (bs s) (grownCap c.w (bs s).size 0 e)).size = grownCap c.w (bs s).size 0 e := by
        generalize grownCap c.w (bs s).size 0 e = G at hge
        have hd : (bs s).data.size = s.length := by simp [bs]
        unfold bytesRow
        rw [Array.size_append, Array.size_map, Array.size_replicate]
        omega
      obtain ⟨J1, J2, J3⟩ := new_row I1 (t := e) (cells := bytesRow (bs s) (grownCap c.w (bs s).size 0 e)) (sz := 1) (cap := grownCap c.w (bs s).size 0 e) (r := .bytes s) (cs := byteCells s) ⟨rfl, rfl⟩
        (bytesRow_sub s _) (by rw [Nat.mul_one, hsz]; exact Nat.le_refl _) (by show s.length ≤ _; rw [← hbs]; exact hge) (fr := ((bytesRow (bs s) (grownCap c.w (bs s).size 0 e)).size, (bytesRow (bs s) (grownCap c.w (bs s).size 0 e)).size + 1)) (.inr (Nat.le_refl _))
      refine ⟨_, _, ?_, J1, e1.trans J2, J3⟩
      rw [run_bytes_of_string c.w src dst e (bs s) h1 h2 h3, hbs]
      rfl
  case same =>
    obtain ⟨e0, e, h1, h2, h3, rfl⟩ := hck
    cases v <;> try trivial
    case own i s lo m =>
      unfold pConv
      simp only
      cases hg : h.get i with
      | none => trivial
      | some x =>
        cases x with
        | var _ => trivial
        | map _ => trivial
        | row s' r =>
          intro hp
          obtain ⟨hin, hb⟩ := getB_at I hg
          obtain ⟨_, hu⟩ := hv
          unfold ownFit at hu
          rcases hb with ⟨hφ, hl, hc⟩ | ⟨b, t, cur, ty, fr, cs, hφ, g2, g3, g4, g5, g6⟩
          · rw [hφ] at hu
            obtain ⟨_, _, rfl⟩ := hu
            omega
          · rw [hφ] at hu
            obtain ⟨a, cap, M, rfl, k2, k3, k4, k5⟩ := hu
            obtain ⟨ws, hs, fr', f1, f2⟩ := freeze_spec (n := cur.size) g2
            have ew := write_ext I hφ ws
            obtain ⟨J, _⟩ := I.write hφ ws hs (.row s' r) (.inr ⟨b, t, cur, ty, fr', cs, hφ, f1, f2 g3, g4.ext ew, g5, g6⟩) hin
            refine ⟨.slice (some a) m cap, _, ?_, J, ew, hin, ?_⟩
            · have he : e0 = e := by rw [h1] at h2; injection h2 with h2; injection h2
              subst he
              have hsh : c.w.shape? b = some (ty, cur.size) := by
                unfold World.shape?; rw [g2]
              simp [convert, run_underlying h1, run_underlying h2, run_underlying h3, markStringish, hsh, k3.1]
            · unfold ownFit
              show match c.φ i with | .dead => _ | .nil => _ | .at b s => _
              rw [hφ]
              exact ⟨a, cap, M, rfl, k2, k3, (ws.sz b (I.hs.exc i b t hφ).2.2).trans k4, k5⟩
  case none =>
    cases v <;> trivial
end
end Go.AM
end

section
/- AM, part 19: stores. -/
namespace Go.AM
section
variable {P : Program} {z : Ctx0} {c : Cx} {h : H}

def lay (cs : List Value) (o : Nat) (vs : List Value) : List Value := cs.take o ++ vs ++ cs.drop (o + vs.length)
theorem lay_len {cs vs : List Value} {o : Nat} (h : o + vs.length ≤ cs.length) : (lay cs o vs).length = cs.length := by
  unfold lay; simp; omega
theorem lay_get {cs vs : List Value} {o : Nat} (h : o + vs.length ≤ cs.length) (k : Nat) : (lay cs o vs)[k]? = if o ≤ k ∧ k < o + vs.length then vs[k - o]? else cs[k]? := by
  unfold lay
  have h1 : (cs.take o).length = o := by simp; omega
  by_cases ha : k < o
  · rw [if_neg (by omega), List.append_assoc, List.getElem?_append_left (by omega), List.getElem?_take, if_pos ha]
  · rw [List.append_assoc, List.getElem?_append_right (by omega), h1]
    by_cases hb : k < o + vs.length
    · rw [if_pos (by omega), List.getElem?_append_left (by omega)]
    · rw [if_neg (by omega), List.getElem?_append_right (by omega), List.getElem?_drop]
      congr 1; omega
theorem lay_one {cs : List Value} {o : Nat} {v : Value} (h : o < cs.length) : lay cs o [v] = cs.set o v := by
  unfold lay; rw [List.set_eq_take_append_cons_drop, if_pos h]; simp
theorem lay_app {a b vs : List Value} {o : Nat} (_h : o + vs.length ≤ b.length) : lay (a ++ b) (a.length + o) vs = a ++ lay b o vs := by
  unfold lay
  rw [List.take_append, List.drop_append, List.take_of_length_le (by omega), List.drop_eq_nil_of_le (by omega)]
  simp only [Nat.add_sub_cancel_left, List.nil_append, List.append_assoc]
  congr 3
  congr 1
  omega
theorem lay_app_left {a b vs : List Value} {o : Nat} (h : o + vs.length ≤ a.length) : lay (a ++ b) o vs = lay a o vs ++ b := by
  unfold lay
  rw [List.take_append_of_le_length (by omega), List.drop_append_of_le_length (by omega)]
  simp

theorem writeSeg_spec {c : Cx} {s s' : V} {idx : Nat} {x : V} {p : Prop} {r : List V} {cs : List Value} {u : Value} (h : writeSeg s idx x = some (p, s')) (hp : p) (hs : Segs c (s :: r) cs) (hx : Rep c x u) :
    u.oneCell' = true ∧ idx < cs.length ∧ Segs c (s' :: r) (cs.set idx u) := by
  have one : ∀ {s : V}, (∀ k n l, s ≠ .arr k n l) → (∀ n l, s ≠ .byt n l) → writeSeg s idx x = some (p, s') → Segs c (s :: r) cs → u.oneCell' = true ∧ idx < cs.length ∧ Segs c (s' :: r) (cs.set idx u) := by
    intro s ha hb h hs
    have hw : idx = 0 ∧ (∃ e, segsOf x = some e) ∧ (∀ e, x ≠ .agg e) ∧ s' = x := by
      cases idx with
      | zero =>
        cases s <;> first
          | exact absurd rfl (ha _ _ _)
          | exact absurd rfl (hb _ _)
          | (cases x <;> simp only [writeSeg, Option.some.injEq, Prod.mk.injEq, reduceCtorEq] at h <;> exact ⟨rfl, ⟨_, rfl⟩, (fun e he => by cases he), h.2.symm⟩)
      | succ n =>
        cases s <;> first
          | exact absurd rfl (ha _ _ _)
          | exact absurd rfl (hb _ _)
          | (simp [writeSeg] at h)
    obtain ⟨rfl, ⟨e, he⟩, hna, rfl⟩ := hw
    obtain ⟨h1, _⟩ := rep_oneCell hx he hna
    have : ∃ u0 b, cs = u0 :: b ∧ Segs c r b := by
      cases s
      case arr => exact absurd rfl (ha _ _ _)
      case byt => exact absurd rfl (hb _ _)
      all_goals (obtain ⟨u0, b, rfl, _, _, h4⟩ := hs; exact ⟨u0, b, rfl, h4⟩)
    obtain ⟨u0, b, rfl, h4⟩ := this
    exact ⟨h1, by simp, Segs.append [s'] r [u] b (seg_one hx h1) h4⟩
  cases s
  case arr k n l =>
    cases x <;> simp only [writeSeg, reduceCtorEq] at h
    case int k' m =>
      split at h
      · rename_i hk; subst hk
        simp only [Option.some.injEq, Prod.mk.injEq] at h
        obtain ⟨rfl, rfl⟩ := h
        cases hx
        obtain ⟨b, h1, rfl, h3⟩ := hs
        refine ⟨rfl, by simp [intCells]; omega, b, by simpa using h1, ?_, h3⟩
        rw [List.set_append_left _ _ (by simp [intCells]; omega)]
        simp [intCells, List.map_set]
      · cases h
  case byt n l =>
    cases x <;> simp only [writeSeg, reduceCtorEq] at h
    case int k' m =>
      cases k' <;> simp only [Option.some.injEq, Prod.mk.injEq, reduceCtorEq] at h
      obtain ⟨rfl, rfl⟩ := h
      obtain ⟨hp1, hp2, hp3⟩ := hp
      cases hx
      obtain ⟨b, h1, rfl, h3⟩ := hs
      refine ⟨rfl, by simp [byteCells]; omega, b, by simpa using h1, ?_, h3⟩
      rw [List.set_append_left _ _ (by simp [byteCells]; omega)]
      have : (((UInt8.ofNat m.toNat).toNat : Nat) : Int) = m := by
        rw [UInt8.toNat_ofNat']; omega
      simp only [byteCells, List.map_set, this]
  all_goals exact one (fun _ _ _ e => by cases e) (fun _ _ e => by cases e) h hs

theorem storeE_spec {c : Cx} {agg : Bool} {sz off idx : Nat} {e e' : List V} {x : V} {p : Prop} {cs : List Value} {u : Value} (h : storeE agg sz e off idx x = some (p, e')) (hp : p) (hs : Segs c e cs) (hx : Rep c x u) :
    Segs c e' (lay cs (off + idx) u.cells.toList) ∧ off + idx + u.cells.toList.length ≤ cs.length ∧ u.cells.size = (if agg then sz else 1) ∧ ∀ w ∈ u.cells.toList, w.oneCell' = true := by
  cases agg with
  | true =>
    have h0 : idx = 0 ∧ storeE true sz e off 0 x = some (True, e') ∧ ∃ ns, segsOf x = some ns := by
      unfold storeE at h ⊢
      split at h
      · cases h
      · rename_i hsp
        simp only at h ⊢
        split at h
        · rename_i ns h1 h2
          split at h
          · rename_i hn
            simp only [Option.some.injEq, Prod.mk.injEq] at h
            obtain ⟨rfl, rfl⟩ := h
            exact ⟨hp, by rw [hn]; simp, _, h2⟩
          · cases h
        · cases h
    obtain ⟨rfl, h0, ns, hns⟩ := h0
    obtain ⟨ca, cm, cb, rfl, h2, h3, h4, h5⟩ := storeE_agg h0 hs hx
    refine ⟨?_, by rw [h4]; simp; omega, by rw [if_pos rfl, ← Array.length_toList]; exact h4, Segs.one ns _ (rep_cells hx hns)⟩
    have : lay (ca ++ cm ++ cb) (off + 0) u.cells.toList = ca ++ u.cells.toList ++ cb := by
      rw [lay_app_left (by simp; rw [Array.length_toList] at h4; omega), Nat.add_zero, ← h2]
      have := lay_app (a := ca) (b := cm) (o := 0) (vs := u.cells.toList) (by omega)
      rw [Nat.add_zero] at this
      rw [this]
      unfold lay
      simp
      rw [Array.length_toList] at h4
      omega
    rw [this]; exact h5
  | false =>
    unfold storeE at h
    split at h
    · cases h
    · rename_i a r hsp
      obtain ⟨ca, cr, e1, e2, e3, e4, _⟩ := splitC_spec e off a r cs hsp hs
      simp only at h
      split at h
      · rename_i s b
        split at h
        · rename_i p' s' hw
          simp only [Option.some.injEq, Prod.mk.injEq] at h
          obtain ⟨rfl, rfl⟩ := h
          obtain ⟨g1, g2, g3⟩ := writeSeg_spec hw hp e4 hx
          have hu : u.cells.toList = [u] := by rw [cells_one g1]
          have hus : u.cells.size = 1 := by rw [cells_one g1]; rfl
          rw [hu, hus, e1]
          refine ⟨?_, by simp; omega, by simp, by simp [g1]⟩
          rw [← e2, lay_app (by simp; omega), lay_one g2]
          exact Segs.append _ _ _ _ e3 g3
        · cases h
      · cases h

theorem Elems.set {c : Cx} {sz : Nat} : ∀ (l : List (List V)) (cs : List Value) (k : Nat), Elems c sz l cs → k < l.length →
    ∃ a, Segs c (l.getD k []) a ∧ a.length = sz ∧ ∀ e' o vs, o + vs.length ≤ sz → Segs c e' (lay a o vs) → Elems c sz (l.set k e') (lay cs (k * sz + o) vs)
  | [], cs, k, h, hk => by simp at hk
  | e :: r, cs, 0, h, hk => by
    obtain ⟨a, b, rfl, h2, h3, h4⟩ := h
    refine ⟨a, h3, h2, fun e' o vs ho hs => ?_⟩
    rw [Nat.zero_mul, Nat.zero_add, lay_app_left (by omega)]
    exact ⟨_, b, rfl, by rw [lay_len (by omega)]; exact h2, hs, h4⟩
  | e :: r, cs, k + 1, h, hk => by
    obtain ⟨a, b, rfl, h2, h3, h4⟩ := h
    obtain ⟨x, g1, g2, g3⟩ := Elems.set r b k h4 (by simpa using hk)
    refine ⟨x, by simpa using g1, g2, fun e' o vs ho hs => ?_⟩
    have hbl := Elems.len r b h4
    have hk' : (k + 1) * sz ≤ r.length * sz := Nat.mul_le_mul_right _ (by simp at hk; omega)
    rw [Nat.succ_mul] at hk'
    rw [show (k + 1) * sz + o = a.length + (k * sz + o) by rw [h2, Nat.succ_mul]; omega, lay_app (by omega)]
    exact ⟨a, _, rfl, h2, h3, g3 e' o vs ho hs⟩

theorem setR_spec {c : Cx} {r r' : Rw} {agg : Bool} {s sz k off idx : Nat} {x : V} {p : Prop} {cs : List Value} {u : Value} (h : setR r agg sz k off idx x = some (p, r')) (hp : p) (hc : RwCells c s r cs) (hx : Rep (dp c) x u) :
    RwCells c s r' (lay cs (k * s + off + idx) u.cells.toList) ∧ k * s + off + idx + u.cells.toList.length ≤ cs.length ∧ u.cells.size = (if agg then sz else 1) ∧ ∀ w ∈ u.cells.toList, w.oneCell' = true := by
  unfold setR at h
  split at h
  · rename_i l m
    simp only [Option.some.injEq, Prod.mk.injEq] at h
    obtain ⟨rfl, rfl⟩ := h
    obtain ⟨h1, rfl, rfl, h4, h5⟩ := hp
    obtain ⟨rfl, rfl⟩ := hc
    cases hx
    have : (((UInt8.ofNat m.toNat).toNat : Nat) : Int) = m := by
      rw [UInt8.toNat_ofNat']; omega
    refine ⟨⟨rfl, ?_⟩, by simp [Value.cells, byteCells]; omega, rfl, by intro w hw; rcases List.mem_singleton.1 hw with rfl; rfl⟩
    show lay _ _ [Value.int .u8 m] = _
    rw [lay_one (by simp [byteCells]; omega)]
    simp only [byteCells, List.map_set, this, Nat.mul_one, Nat.add_zero]
  · rename_i kk l k' m
    split at h
    · rename_i hk; subst hk
      simp only [Option.some.injEq, Prod.mk.injEq] at h
      obtain ⟨rfl, rfl⟩ := h
      obtain ⟨h1, rfl, rfl⟩ := hp
      obtain ⟨rfl, rfl⟩ := hc
      cases hx
      refine ⟨⟨rfl, ?_⟩, by simp [Value.cells, intCells]; omega, rfl, by intro w hw; rcases List.mem_singleton.1 hw with rfl; rfl⟩
      show lay _ _ [Value.int _ m] = _
      rw [lay_one (by simp [intCells]; omega)]
      simp [intCells, List.map_set]
    · cases h
  · rename_i l s0
    simp only [Option.some.injEq, Prod.mk.injEq] at h
    obtain ⟨rfl, rfl⟩ := h
    obtain ⟨h1, rfl, rfl⟩ := hp
    obtain ⟨rfl, rfl⟩ := hc
    cases hx
    refine ⟨⟨rfl, ?_⟩, by simp [Value.cells, strCells]; omega, rfl, by intro w hw; rcases List.mem_singleton.1 hw with rfl; rfl⟩
    show lay _ _ [Value.string _] = _
    rw [lay_one (by simp [strCells]; omega)]
    simp [strCells, List.map_set]
  · rename_i l
    split at h
    · rename_i p' e' hst
      simp only [Option.some.injEq, Prod.mk.injEq] at h
      obtain ⟨rfl, rfl⟩ := h
      obtain ⟨hk, hp'⟩ := hp
      obtain ⟨a, g1, g2, g3⟩ := Elems.set l cs k hc hk
      obtain ⟨k1, k2, k3, k4⟩ := storeE_spec hst hp' g1 hx
      have hl := Elems.len l cs hc
      have hm : (k + 1) * s ≤ l.length * s := Nat.mul_le_mul_right _ hk
      rw [Nat.succ_mul] at hm
      refine ⟨?_, by omega, k3, k4⟩
      rw [Nat.add_assoc]
      exact g3 e' _ _ (by omega) k1
    · cases h
  · cases h

/-- What an operation without a result owes. -/
def ResU (P : Program) (z : Ctx0) (c : Cx) (h : H) (s : Sem Unit) : R → Prop
  | .fail => True
  | .ok p _ u nw => p → ∃ c', s.run P c.w = .ok () c'.w ∧ Inv z c' (h.app u nw) ∧ Ext c c'

theorem run_storeAt' {t : TypeId} {i : TypeInfo} (hi : P.info? t = some i) {w : World} {a : Addr} {u : Value} (hu : u.cells.size = szP P t) :
    (Instr.storeAt t (.pointer (some a)) u).run P w = (storeCells a u.cells.toList).run P w := by
  simp [Instr.storeAt, Instr.sureAddr, storeVar, run_sizeOf' hi, hu]

theorem pStore_res (I : Inv z c h) {t : TypeId} {v x : V} {uv ux : Value} (ht : tyOk P t = true) (hsz : (aggP P t || szP P t == 1) = true) (hv : Rep c v uv) (hx : Rep c x ux) :
    ResU P z c h (Instr.storeAt t uv ux) (pStore (aggP P t) (szP P t) v x h.get) := by
  unfold tyOk at ht
  simp only [Bool.and_eq_true] at ht
  obtain ⟨i0, hi0⟩ := Option.isSome_iff_exists.1 ht.1
  have size : ∀ {u : Value}, u.cells.size = (if aggP P t = true then szP P t else 1) → u.cells.size = szP P t := by
    intro u hu
    cases ha : aggP P t with
    | true => rw [ha] at hu; simpa using hu
    | false => rw [ha] at hu hsz; simp at hu hsz; omega
  unfold pStore
  split
  · rename_i i off idx
    cases hg : h.get i with
    | none => trivial
    | some y =>
      cases y with
      | row _ _ => trivial
      | map _ => trivial
      | var e =>
        simp only
        cases hst : storeE (aggP P t) (szP P t) e off idx x with
        | none => trivial
        | some q =>
          obtain ⟨p, e'⟩ := q
          intro hp
          obtain ⟨hin, b, s, cur, ty, cs, hφ, g2, g3, g4, g5⟩ := getB_at I hg
          obtain ⟨_, hv2⟩ := hv
          rw [hφ] at hv2
          cases hv2
          obtain ⟨k1, k2, k3, k4⟩ := storeE_spec hst hp g3 hx
          have hbd : s + off + idx + ux.cells.toList.length ≤ cur.size := by omega
          have ws := setCells_wstep c.w b (s + off + idx) ux.cells.toList g2 hbd
          have ew := write_ext I hφ ws
          obtain ⟨cur', y1, y2, y3⟩ := setCells_row b ux.cells.toList (s + off + idx) c.w g2 hbd
          obtain ⟨J, _⟩ := I.write hφ ws (setCells_same b _ _ c.w).2.2.2.1 (.var e') ⟨b, s, cur', ty, _, hφ, y1, Segs.ext ew _ _ k1, by rw [lay_len k2, y2]; exact g4, fun j u hj => by
            rw [lay_get k2] at hj
            rw [y3]
            by_cases hjj : off + idx ≤ j ∧ j < off + idx + ux.cells.toList.length
            · rw [if_pos hjj] at hj
              rw [if_pos (by omega), ← hj]; congr 1; omega
            · rw [if_neg hjj] at hj
              rw [if_neg (by omega)]; exact g5 j u hj⟩ hin
          refine ⟨_, ?_, J, ew⟩
          rw [run_storeAt' hi0 (size k3), run_store_row g2 (noFz0 _) hbd k4]
  · rename_i i s k off idx
    cases hg : h.get i with
    | none => trivial
    | some y =>
      cases y with
      | var _ => trivial
      | map _ => trivial
      | row s' r =>
        cases hd : deepen h.get x with
        | none => trivial
        | some q =>
          obtain ⟨q, x', ps⟩ := q
          simp only
          cases hst : setR r (aggP P t) (szP P t) k off idx x' with
          | none => trivial
          | some q2 =>
            obtain ⟨p, r'⟩ := q2
            simp only
            split
            · trivial
            · rename_i hc
              rintro ⟨hq, hp⟩
              simp only [Bool.or_eq_true, bne_iff_ne, ne_eq, not_or, Decidable.not_not] at hc
              obtain ⟨hc1, rfl⟩ := hc
              have hips : i ∉ ps := by
                intro hm; exact hc1 (by simpa using hm)
              obtain ⟨c', I', e', hw, hn, hok, hφ'⟩ := I.pubAll ps
              have o : Open c c' ps := ⟨hw, fun a ha => e'.ok a ha, hok⟩
              have hx' := deepen_spec I hd hq hx (fun _ h => h) o
              have hg' : getB (delAll h.b ps) i = some (.row s' r) := by
                have key : ∀ (l : List Nat) (b : List (Nat × Blk)), i ∉ l → getB (delAll b l) i = getB b i := by
                  intro l
                  induction l with
                  | nil => intro b _; rfl
                  | cons j l ih =>
                    intro b hm
                    simp only [List.mem_cons, not_or] at hm
                    rw [delAll, ih _ hm.2, getB_delB, if_neg hm.1]
                rw [key ps h.b hips]; exact hg
              obtain ⟨hin, hb⟩ := getB_at I' (h := ⟨delAll h.b ps, h.n⟩) hg'
              obtain ⟨_, hv2⟩ := hv
              rcases hb with ⟨hφ, hl, hcn⟩ | ⟨b, t0, cur, ty, fr, cs, hφ, g2, g3, g4, g5, g6⟩
              · rw [hφ' i hips] at hφ
                rw [hφ] at hv2
                exact hv2.elim
              · rw [← hφ' i hips, hφ] at hv2
                cases hv2
                obtain ⟨k1, k2, k3, k4⟩ := setR_spec hst hp g4 hx'
                have hbd : t0 + k * s' + off + idx + ux.cells.toList.length ≤ cur.size := by omega
                have ws := setCells_wstep c'.w b (t0 + k * s' + off + idx) ux.cells.toList g2 hbd
                have ew := write_ext I' hφ ws
                obtain ⟨cur', y1, y2, y3⟩ := setCells_row b ux.cells.toList (t0 + k * s' + off + idx) c'.w g2 hbd
                obtain ⟨J, _⟩ := I'.write hφ ws (setCells_same b _ _ c'.w).2.2.2.1 (.row s' r') (.inr ⟨b, t0, cur', ty, fr, _, hφ, y1, by rw [y2]; exact g3, k1.ext ew, by rw [lay_len k2, y2]; exact g5, fun j u hj => by
                  rw [lay_get k2] at hj
                  rw [y3]
                  by_cases hjj : k * s' + off + idx ≤ j ∧ j < k * s' + off + idx + ux.cells.toList.length
                  · rw [if_pos hjj] at hj
                    rw [if_pos (by omega), ← hj]; congr 1; omega
                  · rw [if_neg hjj] at hj
                    rw [if_neg (by omega)]; exact g6 j u hj⟩) hin
                refine ⟨_, ?_, by rw [app_pubs]; exact J, e'.trans ew⟩
                rw [run_storeAt' hi0 (size k3), ← hw, run_store_row g2 g3 hbd k4]
  · trivial
end
end Go.AM
end

section
/- AM, part 20: copy. -/
namespace Go.AM
section
variable {P : Program} {z : Ctx0} {c : Cx} {h : H}

theorem run_copy {ts : Array TypeId} {t e ty : TypeId} (ht : ts[0]? = some t) (hu : P.underlying t = some (.slice e)) (hsz : szP P e = 1) {w : World} {a : Addr} {n cap m : Nat} {x : Value} {cs : List Value} (hs : SrcAt P w 1 m cs x) :
    (Builtin.copy_ ts ty #[.slice (some a) n cap, x]).run P w = ((storeCells a (cs.take (min m n))).run P w).andThen fun _ w' => .ok (.int .i64 (min m n : Nat)) w' := by
  obtain ⟨i, hi⟩ := szP_some (P := P) (t := e) (by omega)
  have h1 := hs.1 w
  have h2 := (hs.2 w rfl).2 (min m n) (Nat.min_le_left _ _)
  rw [Nat.mul_one] at h2
  have h3 : Nat.min m n = min m n := rfl
  simp [Builtin.copy_, ht, run_underlying hu, h1, run_sizeOf' hi, hsz, h3, h2, goInt]

theorem copy_in (I : Inv z c h) {ts : Array TypeId} {t el ty : TypeId} (ht : ts[0]? = some t) (hu : P.underlying t = some (.slice el)) (hsz : szP P el = 1) {i off lo n m : Nat} {e a r : List V} {sg sg' : V} (hg : h.get i = some (.var e)) (hsp : splitC e off = some (a, sg :: r)) {ud ux : Value}
    (hd : Rep c (.vsl i off lo n) ud) {ys : List Value} {k : Nat} (hs : SrcAt P c.w 1 k ys ux) (hone : ∀ y ∈ ys, y.oneCell' = true) (hk : k = ys.length) (hn : lo + n ≤ m)
    (hseg : ∀ q, Segs c (sg :: r) q → ∃ x q', q = x ++ q' ∧ x.length = m ∧ Segs c (sg' :: r) (lay x lo (ys.take (min k n)) ++ q')) :
    Res P z c h (Builtin.copy_ ts ty #[ud, ux]) (.ok True (.int .i64 (min k n : Nat)) [(i, some (.var (a ++ sg' :: r)))] 0) := by
  intro _
  obtain ⟨hin, b, s, cur, ty0, cs, hφ, g2, g3, g4, g5⟩ := getB_at I hg
  obtain ⟨_, hv⟩ := hd
  rw [hφ] at hv
  obtain ⟨ad, cap, rfl, n1, n2⟩ := hv
  obtain ⟨ca, cr, e1, e2, e3, e4, _⟩ := splitC_spec e off a _ cs hsp g3
  obtain ⟨x, q', f1, f2, f3⟩ := hseg cr e4
  have hvl : (ys.take (min k n)).length = min k n := by simp; omega
  have hcl : cs.length = off + (m + q'.length) := by rw [e1, f1]; simp [e2, f2]
  have k2 : off + lo + (ys.take (min k n)).length ≤ cs.length := by omega
  have hbd : s + off + lo + (ys.take (min k n)).length ≤ cur.size := by omega
  have ws := setCells_wstep c.w b (s + off + lo) (ys.take (min k n)) g2 hbd
  have ew := write_ext I hφ ws
  obtain ⟨cur', y1, y2, y3⟩ := setCells_row b (ys.take (min k n)) (s + off + lo) c.w g2 hbd
  have hsegs : Segs c (a ++ sg' :: r) (lay cs (off + lo) (ys.take (min k n))) := by
    rw [e1, f1, ← e2, lay_app (by simp; omega), lay_app_left (by omega)]
    exact Segs.append _ _ _ _ e3 f3
  obtain ⟨J, _⟩ := I.write hφ ws (setCells_same b _ _ c.w).2.2.2.1 (.var (a ++ sg' :: r)) ⟨b, s, cur', ty0, _, hφ, y1, Segs.ext ew _ _ hsegs, by rw [lay_len k2, y2]; exact g4, fun j u hj => by
    rw [lay_get k2] at hj
    rw [y3]
    by_cases hjj : off + lo ≤ j ∧ j < off + lo + (ys.take (min k n)).length
    · rw [if_pos hjj] at hj
      rw [if_pos (by omega), ← hj]; congr 1; omega
    · rw [if_neg hjj] at hj
      rw [if_neg (by omega)]; exact g5 j u hj⟩ hin
  refine ⟨_, _, ?_, J, ew, rfl⟩
  rw [run_copy ht hu hsz hs]
  have hst : (storeCells ad (ys.take (min k n))).run P c.w = .ok () (c.w.setCells b (s + off + lo) (ys.take (min k n))) := by
    by_cases h0 : min k n = 0
    · rw [h0]; rfl
    · rw [n2 (by omega)]
      exact run_store_row g2 (noFz0 _) hbd (fun v hv => hone v (List.mem_of_mem_take hv))
  rw [hst]
  rfl

theorem take_min (l : List Value) (k n : Nat) (h : k = l.length) : l.take (min k n) = l.take n := by
  subst h
  rcases Nat.le_total l.length n with e | e
  · rw [Nat.min_eq_left e, List.take_of_length_le (Nat.le_refl _), List.take_of_length_le e]
  · rw [Nat.min_eq_right e]

theorem pCopy_res (I : Inv z c h) {ts : Array TypeId} {t ty : TypeId} (ht : ts[0]? = some t) (hsl : isSl P t = true) (hsz : szP P (elemP P t) = 1) {d x : V} {ud ux : Value} (hd : Rep c d ud) (hx : Rep c x ux) :
    Res P z c h (Builtin.copy_ ts ty #[ud, ux]) (pCopy d x h.get) := by
  have hu := isSl_spec hsl
  unfold pCopy
  split
  · rename_i i off lo n
    cases hg : h.get i with
    | none => trivial
    | some y =>
      cases y with
      | row _ _ => trivial
      | map _ => trivial
      | var e =>
        simp only
        split
        · rename_i a m l r hsp
          split
          · rename_i q y hq
            rintro ⟨hq', hn⟩
            obtain ⟨cs, ⟨_, rfl⟩, g2⟩ := rwOf_spec (P := P) I hq hq' hx
            refine copy_in I ht hu hsz hg hsp hd (m := m) (k := y.length) g2 (rw_one (c := c) (sz := 1) (r := .bytes y) ⟨rfl, rfl⟩) (by simp [byteCells]) hn (fun q hqs => ?_) trivial
            obtain ⟨b, h1, rfl, h3⟩ := hqs
            refine ⟨byteCells l, b, rfl, by simp [byteCells, h1], b, ?_, ?_, h3⟩
            · simp [putAt]; omega
            · congr 1
              simp [lay, putAt, byteCells, List.map_take, List.map_drop]
              rw [Nat.min_comm n, take_min _ _ _ (by simp)]
          · trivial
        · rename_i a k m l r hsp
          split
          · rename_i q k' y hq
            split
            · rename_i hk; subst hk
              rintro ⟨hq', hn⟩
              obtain ⟨cs, ⟨_, rfl⟩, g2⟩ := rwOf_spec (P := P) I hq hq' hx
              refine copy_in I ht hu hsz hg hsp hd (m := m) (k := y.length) g2 (rw_one (c := c) (sz := 1) (r := .ints _ y) ⟨rfl, rfl⟩) (by simp [intCells]) hn (fun q hqs => ?_) trivial
              obtain ⟨b, h1, rfl, h3⟩ := hqs
              refine ⟨intCells _ l, b, rfl, by simp [intCells, h1], b, ?_, ?_, h3⟩
              · simp [putAt]; omega
              · congr 1
                simp [lay, putAt, intCells, List.map_take, List.map_drop]
                rw [Nat.min_comm n, take_min _ _ _ (by simp)]
            · trivial
          · trivial
        · trivial
  · trivial
end
end Go.AM
end

section
/- AM, part 21: names are changed, blocks are given up. -/
namespace Go.AM
section
variable {P : Program} {z : Ctx0} {c : Cx} {h : H}

/-! ### from the new names to the old -/
structure Back (c1 cc : Cx) (r : Nat → Nat) : Prop where
  w : cc.w = c1.w
  ok : cc.ok = c1.ok
  lt : ∀ j, r j < c1.n → j < cc.n
  φ : ∀ j, cc.φ j = c1.φ (r j) ∨ cc.φ j = .dead
theorem Back.deep {c1 cc : Cx} {r : Nat → Nat} (b : Back c1 cc r) : Ext (dp c1) (dp cc) :=
  ⟨Nat.le_refl _, fun _ hi => absurd hi (Nat.not_lt_zero _), fun _ h => by show cc.ok _; rw [b.ok]; exact h, fun k _ => by show cc.w.heap[k]? = c1.w.heap[k]?; rw [b.w], fun _ _ _ hi => absurd hi (Nat.not_lt_zero _)⟩
theorem Back.mem {c1 cc : Cx} {r : Nat → Nat} (b : Back c1 cc r) {a : Option Addr} {cs : List Value} (h : Mem c1 a cs) : Mem cc a cs := Mem.ext (c := AM.dp c1) (c' := AM.dp cc) b.deep h
theorem Back.sl {c1 cc : Cx} {r : Nat → Nat} (b : Back c1 cc r) {zz : Option Bool} {n : Nat} {cs : List Value} {u : Value} (h : Sl c1 zz n cs u) : Sl cc zz n cs u := Sl.ext (c := AM.dp c1) (c' := AM.dp cc) b.deep h
theorem Back.fit {c1 cc : Cx} {r : Nat → Nat} (b : Back c1 cc r) {i sz lo n : Nat} {u : Value} (h : ownFit c1 (r i) sz lo n u) : ownFit cc i sz lo n u := by
  have h1 := h.one
  unfold ownFit at *
  rcases b.φ i with e | e <;> rw [e]
  · rw [b.w]; exact h
  · exact h1
mutual
theorem Back.rep {c1 cc : Cx} {r : Nat → Nat} (b : Back c1 cc r) : ∀ (v : V) (u : Value), Rep c1 (renV r v) u → Rep cc v u
  | .undef, _, _ => trivial
  | .int _ _, _, h => h
  | .bool _, _, h => h
  | .str _, _, h => h
  | .nils, _, h => h
  | .nilp, _, h => h
  | .nilm, _, h => h
  | .nilf, _, h => h
  | .arr _ _ _, _, h => h
  | .byt _ _, _, h => h
  | .slb _ _, _, h => b.sl h
  | .sli _ _ _, _, h => b.sl h
  | .sls _ _, _, h => b.sl h
  | .sle zz sz l, u, h => by
    obtain ⟨cs, h1, h2⟩ := h
    exact ⟨cs, Elems.ext b.deep sz l cs h1, b.sl h2⟩
  | .pat e off idx, u, h => by
    obtain ⟨cs, ad, h1, h2, h3, h4⟩ := h
    exact ⟨cs, ad, Segs.ext b.deep e cs h1, h2, by rw [b.ok]; exact h3, by rw [b.w]; exact h4⟩
  | .agg e, u, h => by
    obtain ⟨cs, h1, h2⟩ := h
    exact ⟨cs, h1, Back.segs b e cs h2⟩
  | .tup l, u, h => by
    obtain ⟨cs, h1, h2⟩ := h
    exact ⟨cs, h1, Back.reps b l cs h2⟩
  | .fn f l, u, h => by
    obtain ⟨cs, h1, h2⟩ := h
    exact ⟨cs, h1, Back.reps b l cs h2⟩
  | .ref i off idx, u, h => by
    have h1 := ref_one (c := c1) (i := r i) (off := off) (idx := idx) h
    obtain ⟨h2, h3⟩ := h
    refine ⟨b.lt i h2, ?_⟩
    rcases b.φ i with e | e <;> rw [e]
    · exact h3
    · exact h1
  | .own i sz lo n, u, h => ⟨b.lt i h.1, b.fit h.2⟩
  | .eref i sz e off idx, u, h => by
    have h1 := eref_one (c := c1) (i := r i) (sz := sz) (e := e) (off := off) (idx := idx) h
    obtain ⟨h2, h3⟩ := h
    refine ⟨b.lt i h2, ?_⟩
    rcases b.φ i with e | e <;> rw [e]
    · exact h3
    · exact h1
  | .vsl i off lo n, u, h => by
    have h1 := vsl_one (c := c1) (i := r i) (off := off) (lo := lo) (len := n) h
    obtain ⟨h2, h3⟩ := h
    refine ⟨b.lt i h2, ?_⟩
    rcases b.φ i with e | e <;> rw [e]
    · exact h3
    · exact h1
  | .mp i, u, h => by
    have h1 := mp_one (c := c1) (i := r i) h
    obtain ⟨h2, h3⟩ := h
    refine ⟨b.lt i h2, ?_⟩
    rcases b.φ i with e | e <;> rw [e]
    · exact h3
    · exact h1
theorem Back.segs {c1 cc : Cx} {r : Nat → Nat} (b : Back c1 cc r) : ∀ (l : List V) (cs : List Value), Segs c1 (renVs r l) cs → Segs cc l cs
  | [], _, h => h
  | v :: q, cs, h => by
    cases v
    case arr k n l => obtain ⟨x, h1, h2, h3⟩ := h; exact ⟨x, h1, h2, Back.segs b q x h3⟩
    case byt n l => obtain ⟨x, h1, h2, h3⟩ := h; exact ⟨x, h1, h2, Back.segs b q x h3⟩
    all_goals (obtain ⟨u, x, h1, h2, h3, h4⟩ := h; exact ⟨u, x, h1, h2, Back.rep b _ u h3, Back.segs b q x h4⟩)
theorem Back.reps {c1 cc : Cx} {r : Nat → Nat} (b : Back c1 cc r) : ∀ (l : List V) (us : List Value), Reps c1 (renVs r l) us → Reps cc l us
  | [], _, h => h
  | v :: q, us, h => by
    obtain ⟨u, us', h1, h2, h3⟩ := h
    exact ⟨u, us', h1, Back.rep b v u h2, Back.reps b q us' h3⟩
end

/-! ### from the old names to the new -/
structure Fwd (c2 c3 : Cx) (r : Nat → Nat) : Prop where
  w : c3.w = c2.w
  ok : c3.ok = c2.ok
  lt : ∀ j, j < c2.n → r j < c3.n
  φ : ∀ j, j < c2.n → c3.φ (r j) = c2.φ j
theorem Fwd.deep {c1 cc : Cx} {r : Nat → Nat} (b : Fwd c1 cc r) : Ext (dp c1) (dp cc) :=
  ⟨Nat.le_refl _, fun _ hi => absurd hi (Nat.not_lt_zero _), fun _ h => by show cc.ok _; rw [b.ok]; exact h, fun k _ => by show cc.w.heap[k]? = c1.w.heap[k]?; rw [b.w], fun _ _ _ hi => absurd hi (Nat.not_lt_zero _)⟩
theorem Fwd.sl {c1 cc : Cx} {r : Nat → Nat} (b : Fwd c1 cc r) {zz : Option Bool} {n : Nat} {cs : List Value} {u : Value} (h : Sl c1 zz n cs u) : Sl cc zz n cs u := Sl.ext (c := AM.dp c1) (c' := AM.dp cc) b.deep h
mutual
theorem Fwd.rep {c1 cc : Cx} {r : Nat → Nat} (b : Fwd c1 cc r) : ∀ (v : V) (u : Value), Rep c1 v u → Rep cc (renV r v) u
  | .undef, _, _ => trivial
  | .int _ _, _, h => h
  | .bool _, _, h => h
  | .str _, _, h => h
  | .nils, _, h => h
  | .nilp, _, h => h
  | .nilm, _, h => h
  | .nilf, _, h => h
  | .arr _ _ _, _, h => h
  | .byt _ _, _, h => h
  | .slb _ _, _, h => b.sl h
  | .sli _ _ _, _, h => b.sl h
  | .sls _ _, _, h => b.sl h
  | .sle zz sz l, u, h => by
    obtain ⟨cs, h1, h2⟩ := h
    exact ⟨cs, Elems.ext b.deep sz l cs h1, b.sl h2⟩
  | .pat e off idx, u, h => by
    obtain ⟨cs, ad, h1, h2, h3, h4⟩ := h
    exact ⟨cs, ad, Segs.ext b.deep e cs h1, h2, by rw [b.ok]; exact h3, by rw [b.w]; exact h4⟩
  | .agg e, u, h => by
    obtain ⟨cs, h1, h2⟩ := h
    exact ⟨cs, h1, Fwd.segs b e cs h2⟩
  | .tup l, u, h => by
    obtain ⟨cs, h1, h2⟩ := h
    exact ⟨cs, h1, Fwd.reps b l cs h2⟩
  | .fn f l, u, h => by
    obtain ⟨cs, h1, h2⟩ := h
    exact ⟨cs, h1, Fwd.reps b l cs h2⟩
  | .ref i off idx, u, h => by
    obtain ⟨h2, h3⟩ := h
    refine ⟨b.lt i h2, ?_⟩
    rw [b.φ i h2]; exact h3
  | .own i sz lo n, u, h => by
    obtain ⟨h2, h3⟩ := h
    refine ⟨b.lt i h2, ?_⟩
    unfold ownFit at *
    rw [b.φ i h2, b.w]; exact h3
  | .eref i sz e off idx, u, h => by
    obtain ⟨h2, h3⟩ := h
    refine ⟨b.lt i h2, ?_⟩
    rw [b.φ i h2]; exact h3
  | .vsl i off lo n, u, h => by
    obtain ⟨h2, h3⟩ := h
    refine ⟨b.lt i h2, ?_⟩
    rw [b.φ i h2]; exact h3
  | .mp i, u, h => by
    obtain ⟨h2, h3⟩ := h
    refine ⟨b.lt i h2, ?_⟩
    rw [b.φ i h2]; exact h3
theorem Fwd.segs {c1 cc : Cx} {r : Nat → Nat} (b : Fwd c1 cc r) : ∀ (l : List V) (cs : List Value), Segs c1 l cs → Segs cc (renVs r l) cs
  | [], _, h => h
  | v :: q, cs, h => by
    cases v
    case arr k n l => obtain ⟨x, h1, h2, h3⟩ := h; exact ⟨x, h1, h2, Fwd.segs b q x h3⟩
    case byt n l => obtain ⟨x, h1, h2, h3⟩ := h; exact ⟨x, h1, h2, Fwd.segs b q x h3⟩
    all_goals (obtain ⟨u, x, h1, h2, h3, h4⟩ := h; exact ⟨u, x, h1, h2, Fwd.rep b _ u h3, Fwd.segs b q x h4⟩)
theorem Fwd.reps {c1 cc : Cx} {r : Nat → Nat} (b : Fwd c1 cc r) : ∀ (l : List V) (us : List Value), Reps c1 l us → Reps cc (renVs r l) us
  | [], _, h => h
  | v :: q, us, h => by
    obtain ⟨u, us', h1, h2, h3⟩ := h
    exact ⟨u, us', h1, Fwd.rep b v u h2, Fwd.reps b q us' h3⟩
end
end
end Go.AM
end

section
/- AM, part 22: less is known; a call. -/
namespace Go.AM
section
variable {P : Program} {z : Ctx0} {c : Cx} {h : H}

theorem heapOk_get {b : Option Nat} {g : G} {r : Nat → Nat} {ps : List Nat} : ∀ {l : List (Nat × Blk)}, heapOk b g r ps l → ∀ {i : Nat} {y : Blk}, getB l i = some y → ∃ x, g (r i) = some x ∧ passB b g r ps x y
  | [], _, i, x, hx => by cases hx
  | (j, y) :: l, ⟨h1, h2⟩, i, x, hx => by
    simp only [getB] at hx
    split at hx
    · rename_i e; subst e; cases hx
      split at h1
      · rename_i x hg; exact ⟨x, hg, h1⟩
      · exact h1.elim
    · exact heapOk_get h2 hx
theorem getB_mem : ∀ {l : List (Nat × Blk)} {i : Nat} {x : Blk}, getB l i = some x → (i, x) ∈ l
  | (j, b) :: l, i, x, hx => by
    simp only [getB] at hx
    split at hx
    · rename_i e; subst e; cases hx; exact List.mem_cons_self
    · exact List.mem_cons_of_mem _ (getB_mem hx)
theorem nodup_inj {α : Type} (f : α → Nat) : ∀ {l : List α}, (l.map f).Nodup → ∀ {a b : α}, a ∈ l → b ∈ l → f a = f b → a = b
  | x :: l, hn, a, b, ha, hb, e => by
    simp only [List.map_cons, List.nodup_cons] at hn
    rcases List.mem_cons.1 ha with ha1 | ha1 <;> rcases List.mem_cons.1 hb with hb1 | hb1
    · rw [ha1, hb1]
    · exact absurd (List.mem_map.2 ⟨b, hb1, by rw [← ha1]; exact e.symm⟩) hn.1
    · exact absurd (List.mem_map.2 ⟨a, ha1, by rw [← hb1]; exact e⟩) hn.1
    · exact nodup_inj f hn.2 ha1 hb1 e

theorem getB_delAll : ∀ (l : List Nat) (b : List (Nat × Blk)) (i : Nat), getB (delAll b l) i = if i ∈ l then none else getB b i
  | [], b, i => by simp [delAll]
  | j :: l, b, i => by
    rw [delAll, getB_delAll l, getB_delB]
    by_cases h1 : i ∈ l
    · rw [if_pos h1, if_pos (List.mem_cons_of_mem _ h1)]
    · rw [if_neg h1]
      by_cases h2 : i = j
      · subst h2; rw [if_pos rfl, if_pos List.mem_cons_self]
      · rw [if_neg h2, if_neg (by simp [h1, h2])]

theorem Ents.deep {c c' : Cx} (h : Ext (dp c) (dp c')) : ∀ (l : List (V × V)) (es : List MapEntry), Ents c l es → Ents c' l es
  | [], _, hr => hr
  | (k, v) :: r, es, hr => by
    obtain ⟨e, es', h1, h2, h3, h4⟩ := hr
    exact ⟨e, es', h1, Rep.ext h _ _ h2, Rep.ext h _ _ h3, Ents.deep h r es' h4⟩

theorem deep_rep {c1 cc : Cx} {r : Nat → Nat} (b : Back c1 cc r) {v : V} {u : Value} (h : Rep (dp c1) v u) : Rep cc v u :=
  Rep.ext (c := dp c1) (c' := cc) ⟨Nat.zero_le _, fun _ hi => absurd hi (Nat.not_lt_zero _), fun _ h => by show cc.ok _; rw [b.ok]; exact h, fun k _ => by show cc.w.heap[k]? = c1.w.heap[k]?; rw [b.w], fun _ _ _ hi => absurd hi (Nat.not_lt_zero _)⟩ v u h

theorem nils_sl {c : Cx} {zz : Option Bool} (hz : zz ≠ some true) : Sl c zz 0 [] (.slice none 0 0) :=
  ⟨none, 0, rfl, Nat.le_refl _, fun b hb => by cases b with | true => exact absurd hb hz | false => rfl, fun h => absurd rfl h⟩
theorem sl_z {c : Cx} {zz z' : Option Bool} {n : Nat} {cs : List Value} {u : Value} (h : Sl c zz n cs u) (hz : z' = zz ∨ z' = none) : Sl c z' n cs u := by
  obtain ⟨a, cap, h1, h2, h3, h4⟩ := h
  refine ⟨a, cap, h1, h2, ?_, h4⟩
  rcases hz with rfl | rfl
  · exact h3
  · intro b hb; cases hb

def isSegW : V → Bool
  | .arr _ _ _ => true
  | .byt _ _ => true
  | _ => false
theorem wkEs_len : ∀ (l l' : List (List V)), wkEs l l' → l'.length = l.length
  | [], [], _ => rfl
  | e :: l, e' :: l', h => by simp only [wkEs] at h; simp [wkEs_len l l' h.2]
  | [], _ :: _, h => by simp only [wkEs] at h
  | _ :: _, [], h => by simp only [wkEs] at h
mutual
theorem wk_rep {c : Cx} : ∀ (v v' : V) (u : Value), wkV v v' → Rep c v u → Rep c v' u
  | .nils, v', u, h, hr => by
    cases v' <;> simp only [wkV, reduceCtorEq] at h
    · exact hr
    · obtain ⟨rfl, hz⟩ := h; cases hr; exact nils_sl hz
    · obtain ⟨rfl, hz⟩ := h; cases hr; exact nils_sl hz
    · obtain ⟨rfl, hz⟩ := h; cases hr; exact nils_sl hz
    · obtain ⟨rfl, hz⟩ := h; cases hr; exact ⟨[], rfl, nils_sl hz⟩
  | .slb z l, v', u, h, hr => by
    cases v' <;> simp only [wkV, reduceCtorEq] at h
    obtain ⟨rfl, hz⟩ := h; exact sl_z hr hz
  | .sli z k l, v', u, h, hr => by
    cases v' <;> simp only [wkV, reduceCtorEq] at h
    obtain ⟨rfl, rfl, hz⟩ := h; exact sl_z hr hz
  | .sls z l, v', u, h, hr => by
    cases v' <;> simp only [wkV, reduceCtorEq] at h
    obtain ⟨rfl, hz⟩ := h; exact sl_z hr hz
  | .sle z s l, v', u, h, hr => by
    cases v' with
    | sle z' s' l' =>
      simp only [wkV] at h
      obtain ⟨rfl, hw, hz⟩ := h
      obtain ⟨cs, h1, h2⟩ := hr
      have hlen : l'.length = l.length := wkEs_len l l' hw
      exact ⟨cs, wk_els l l' cs hw h1, by rw [hlen]; exact sl_z h2 hz⟩
    | _ => simp only [wkV, reduceCtorEq] at h
  | .undef, v', u, h, hr => by simp only [wkV] at h; subst h; exact hr
  | .int _ _, v', u, h, hr => by simp only [wkV] at h; subst h; exact hr
  | .bool _, v', u, h, hr => by simp only [wkV] at h; subst h; exact hr
  | .str _, v', u, h, hr => by simp only [wkV] at h; subst h; exact hr
  | .nilp, v', u, h, hr => by simp only [wkV] at h; subst h; exact hr
  | .nilm, v', u, h, hr => by simp only [wkV] at h; subst h; exact hr
  | .nilf, v', u, h, hr => by simp only [wkV] at h; subst h; exact hr
  | .arr _ _ _, v', u, h, hr => by simp only [wkV] at h; subst h; exact hr
  | .byt _ _, v', u, h, hr => by simp only [wkV] at h; subst h; exact hr
  | .pat _ _ _, v', u, h, hr => by simp only [wkV] at h; subst h; exact hr
  | .agg _, v', u, h, hr => by simp only [wkV] at h; subst h; exact hr
  | .tup _, v', u, h, hr => by simp only [wkV] at h; subst h; exact hr
  | .fn _ _, v', u, h, hr => by simp only [wkV] at h; subst h; exact hr
  | .ref _ _ _, v', u, h, hr => by simp only [wkV] at h; subst h; exact hr
  | .own _ _ _ _, v', u, h, hr => by simp only [wkV] at h; subst h; exact hr
  | .eref _ _ _ _ _, v', u, h, hr => by simp only [wkV] at h; subst h; exact hr
  | .vsl _ _ _ _, v', u, h, hr => by simp only [wkV] at h; subst h; exact hr
  | .mp _, v', u, h, hr => by simp only [wkV] at h; subst h; exact hr
theorem wk_segs {c : Cx} : ∀ (e e' : List V) (cs : List Value), wkE e e' → Segs c e cs → Segs c e' cs
  | [], [], _, _, hr => hr
  | v :: l, v' :: l', cs, ⟨h1, h2⟩, hr => by
    have seg : isSegW v = true → v' = v := by
      intro hs
      cases v <;> first | (cases hs; done) | (simp only [wkV] at h1; exact h1.symm)
    have noseg : isSegW v = false → isSegW v' = false := by
      intro hs
      cases v <;> cases v' <;> first | rfl | (cases hs; done) | (simp only [wkV, reduceCtorEq] at h1)
    cases hs : isSegW v with
    | true =>
      have := seg hs; subst this
      cases v' <;> first | (cases hs; done) | skip
      · obtain ⟨b, g1, g2, g3⟩ := hr; exact ⟨b, g1, g2, wk_segs l l' b h2 g3⟩
      · obtain ⟨b, g1, g2, g3⟩ := hr; exact ⟨b, g1, g2, wk_segs l l' b h2 g3⟩
    | false =>
      have hs' := noseg hs
      have hr' : ∃ u b, cs = u :: b ∧ u.oneCell' = true ∧ Rep c v u ∧ Segs c l b := by
        cases v <;> first | (cases hs; done) | exact hr
      obtain ⟨u, b, g1, g2, g3, g4⟩ := hr'
      have fin : ∃ u b, cs = u :: b ∧ u.oneCell' = true ∧ Rep c v' u ∧ Segs c l' b := ⟨u, b, g1, g2, wk_rep v v' u h1 g3, wk_segs l l' b h2 g4⟩
      cases v' <;> first | (cases hs'; done) | exact fin
  | [], _ :: _, _, h, _ => h.elim
  | _ :: _, [], _, h, _ => h.elim
theorem wk_els {c : Cx} {sz : Nat} : ∀ (l l' : List (List V)) (cs : List Value), wkEs l l' → Elems c sz l cs → Elems c sz l' cs
  | [], [], _, _, hr => hr
  | e :: l, e' :: l', cs, ⟨h1, h2⟩, hr => by
    obtain ⟨a, b, g1, g2, g3, g4⟩ := hr
    exact ⟨a, b, g1, g2, wk_segs e e' a h1 g3, wk_els l l' b h2 g4⟩
  | [], _ :: _, _, h, _ => h.elim
  | _ :: _, [], _, h, _ => h.elim
end

theorem pass_rep (I : Inv z c h) {r : Nat → Nat} {ps : List Nat} {c1 cc : Cx} (bk : Back c1 cc r) (x1 : Ext c c1) (op : Open c c1 ps) {v v' : V} {u : Value} (hp : pass h.get r ps v v') (hv : Rep c v u) : Rep cc v' u := by
  have plain : ∀ {v v' : V}, v = renV r v' → Rep c v u → Rep cc v' u := by
    intro v v' e hv
    subst e
    exact bk.rep v' u (Rep.ext x1 _ _ hv)
  unfold pass at hp
  split at hp
  · obtain ⟨rfl, hz⟩ := hp; cases hv; exact nils_sl hz
  · obtain ⟨rfl, hz⟩ := hp; cases hv; exact nils_sl hz
  · obtain ⟨rfl, hz⟩ := hp; cases hv; exact nils_sl hz
  · obtain ⟨rfl, hz⟩ := hp; cases hv; exact ⟨[], rfl, nils_sl hz⟩
  · obtain ⟨rfl, hz⟩ := hp; exact bk.sl (sl_z (Sl.ext x1 hv) hz)
  · obtain ⟨rfl, rfl, hz⟩ := hp; exact bk.sl (sl_z (Sl.ext x1 hv) hz)
  · obtain ⟨rfl, hz⟩ := hp; exact bk.sl (sl_z (Sl.ext x1 hv) hz)
  · obtain ⟨rfl, hw, hz⟩ := hp
    obtain ⟨cs, h1, h2⟩ := hv
    exact ⟨cs, wk_els _ _ _ hw (Elems.ext bk.deep _ _ _ (Elems.ext x1.dp _ _ _ h1)), by rw [wkEs_len _ _ hw]; exact bk.sl (sl_z (Sl.ext x1 h2) hz)⟩
  · obtain ⟨rfl, rfl, rfl, rfl⟩ := hp
    exact plain rfl hv
  · rename_i i sz lo n _
    obtain ⟨hi, hp⟩ := hp
    split at hp
    · rename_i s x hg
      obtain ⟨rfl, hle, hw⟩ := hp
      refine wk_rep _ _ _ hw (deep_rep bk (deepen1_spec I (ps := [i]) (p := lo + n ≤ x.len) ?_ hle hv (fun j hj => by simp at hj; subst hj; exact hi) op))
      simp only [deepen1, hg, if_true]
    · exact hp.elim
  · obtain ⟨rfl, rfl, rfl, rfl⟩ := hp
    exact plain rfl hv
  · rename_i i off lo n _
    obtain ⟨hi, hp⟩ := hp
    split at hp
    · rename_i q w l hd
      obtain ⟨hq, hw⟩ := hp
      refine wk_rep _ _ _ hw (deep_rep bk (deepen1_spec I hd hq hv (fun j hj => ?_) op))
      have hl : l = [i] := by
        simp only [deepen1] at hd
        repeat' (split at hd)
        all_goals first
          | (cases hd; done)
          | (simp only [Option.some.injEq, Prod.mk.injEq] at hd; exact hd.2.2.symm)
      rw [hl] at hj; simp at hj; subst hj; exact hi
    · exact hp.elim
  · exact plain hp hv

/-- Names from 'b' on are nil slices' rows. -/
def NilsFrom (b : Option Nat) (c : Cx) : Prop := ∀ k, b = some k → ∀ i, k ≤ i → i < c.n → c.φ i = .nil
theorem passM_rep (I : Inv z c h) {b : Option Nat} (hb : NilsFrom b c) {r : Nat → Nat} {ps : List Nat} {c1 cc : Cx} (bk : Back c1 cc r) (x1 : Ext c c1) (op : Open c c1 ps) {v v' : V} {u : Value} (hp : passM b h.get r ps v v') (hv : Rep c v u) : Rep cc v' u := by
  unfold passM at hp
  split at hp
  · rename_i i sz lo n
    split at hp
    · rename_i k
      obtain ⟨h1, h2, rfl, rfl⟩ := hp
      cases hv
      obtain ⟨x, hx⟩ := Option.isSome_iff_exists.1 h2
      have hlt := (getB_at I hx).1
      refine ⟨bk.lt i (Nat.lt_of_lt_of_le hlt x1.n), ?_⟩
      have hn := hb k rfl _ h1 hlt
      unfold ownFit
      rcases bk.φ i with e | e
      · rcases x1.φ _ hlt with e' | e'
        · rw [e, e', hn]; exact ⟨rfl, rfl, rfl⟩
        · rw [e, e']; rfl
      · rw [e]; rfl
    · exact hp.elim
  · exact pass_rep I bk x1 op hp hv
theorem segs_cons {c : Cx} {v : V} {l : List V} {cs : List Value} (hv : isSeg v = false) : Segs c (v :: l) cs ↔ ∃ u b, cs = u :: b ∧ u.oneCell' = true ∧ Rep c v u ∧ Segs c l b := by
  cases v <;> first | exact Iff.rfl | cases hv
theorem passE_segs (I : Inv z c h) {b : Option Nat} (hb : NilsFrom b c) {r : Nat → Nat} {ps : List Nat} {c1 cc : Cx} (bk : Back c1 cc r) (x1 : Ext c c1) (op : Open c c1 ps) : ∀ (l l' : List V) (us : List Value), passE b h.get r ps l l' → Segs c l us → Segs cc l' us
  | [], [], us, _, hv => hv
  | v :: l, v' :: l', us, ⟨hp, hq⟩, hv => by
    unfold passS at hp
    split at hp
    · rename_i hs
      subst hp
      have hs : isSeg v = true := by simpa using hs
      cases v <;> first | cases hs | skip
      · obtain ⟨x, h1, h2, h3⟩ := hv; exact ⟨x, h1, h2, passE_segs I hb bk x1 op l l' x hq h3⟩
      · obtain ⟨x, h1, h2, h3⟩ := hv; exact ⟨x, h1, h2, passE_segs I hb bk x1 op l l' x hq h3⟩
    · rename_i hs
      simp only [Bool.or_eq_false_iff] at hs
      obtain ⟨u, x, h1, h2, h3, h4⟩ := (segs_cons hs.1).1 hv
      exact (segs_cons hs.2).2 ⟨u, x, h1, h2, passM_rep I hb bk x1 op hp h3, passE_segs I hb bk x1 op l l' x hq h4⟩
  | [], _ :: _, _, hp, _ => hp.elim
  | _ :: _, [], _, hp, _ => hp.elim
theorem passT_reps (I : Inv z c h) {b : Option Nat} (hb : NilsFrom b c) {r : Nat → Nat} {ps : List Nat} {c1 cc : Cx} (bk : Back c1 cc r) (x1 : Ext c c1) (op : Open c c1 ps) : ∀ (l l' : List V) (us : List Value), passT b h.get r ps l l' → Reps c l us → Reps cc l' us
  | [], [], us, _, hv => hv
  | v :: l, v' :: l', us, ⟨hp, hq⟩, hv => by
    obtain ⟨u, us', h1, h2, h3⟩ := hv
    refine ⟨u, us', h1, ?_, passT_reps I hb bk x1 op l l' us' hq h3⟩
    split at hp
    · obtain ⟨cs, e1, e2⟩ := h2
      exact ⟨cs, e1, passE_segs I hb bk x1 op _ _ _ hp e2⟩
    · exact passM_rep I hb bk x1 op hp h2
  | [], _ :: _, _, hp, _ => hp.elim
  | _ :: _, [], _, hp, _ => hp.elim
theorem passN_rep (I : Inv z c h) {b : Option Nat} (hb : NilsFrom b c) {r : Nat → Nat} {ps : List Nat} {c1 cc : Cx} (bk : Back c1 cc r) (x1 : Ext c c1) (op : Open c c1 ps) {v v' : V} {u : Value} (hp : passN b h.get r ps v v') (hv : Rep c v u) : Rep cc v' u := by
  unfold passN at hp
  split at hp
  · obtain ⟨vs, e1, e2⟩ := hv
    exact ⟨vs, e1, passT_reps I hb bk x1 op _ _ _ hp e2⟩
  · obtain ⟨cs, e1, e2⟩ := hv
    exact ⟨cs, e1, passE_segs I hb bk x1 op _ _ _ hp e2⟩
  · exact passM_rep I hb bk x1 op hp hv
theorem passL_reps (I : Inv z c h) {b : Option Nat} (hb : NilsFrom b c) {r : Nat → Nat} {ps : List Nat} {c1 cc : Cx} (bk : Back c1 cc r) (x1 : Ext c c1) (op : Open c c1 ps) : ∀ (l l' : List V) (us : List Value), passL b h.get r ps l l' → Reps c l us → Reps cc l' us
  | [], [], us, _, hv => hv
  | v :: l, v' :: l', us, hp, hv => by
    obtain ⟨u, us', h1, h2, h3⟩ := hv
    exact ⟨u, us', h1, passN_rep I hb bk x1 op hp.1 h2, passL_reps I hb bk x1 op l l' us' hp.2 h3⟩
  | [], _ :: _, _, hp, _ => hp.elim
  | _ :: _, [], _, hp, _ => hp.elim

structure Narrow (z : Ctx0) (c : Cx) (h : H) (r : Nat → Nat) (b' : List (Nat × Blk)) (ps : List Nat) (c1 cc : Cx) : Prop where
  inv : Inv z c1 ⟨delAll h.b ps, h.n⟩
  ext : Ext c c1
  op : Open c c1 ps
  n : c1.n = c.n
  φ : ∀ i, i ∉ ps → c1.φ i = c.φ i
  back : Back c1 cc r
  blk : ∀ i x, getB b' i = some x → i < cc.n ∧ HBlk cc i x
  dom : ∀ i, getB b' i = none → cc.φ i = .dead
  at_ : ∀ i a s, cc.φ i = .at a s → c1.φ (r i) = .at a s ∧ (∃ x, getB b' i = some x) ∧ r i ∉ ps
  inj : ∀ i j a s s', cc.φ i = .at a s → cc.φ j = .at a s' → i = j

def narrowC (c c1 : Cx) (r : Nat → Nat) (b' : List (Nat × Blk)) (n' : Nat) : Cx :=
  ⟨c.w, c1.ok, fun i => match getB b' i with | some _ => c1.φ (r i) | none => .dead, n'⟩

theorem narrow (I : Inv z c h) {b : Option Nat} (hbn : NilsFrom b c) {r : Nat → Nat} {b' : List (Nat × Blk)} {n' : Nat} {ps : List Nat} (hheap : heapOk b h.get r ps b') (hd : (b'.map (fun q => r q.1) ++ ps).Nodup) (hk : ∀ q ∈ b', q.1 < n') (hr : ∀ j, r j < h.n → j < n') :
    ∃ c1, Narrow z c h r b' ps c1 (narrowC c c1 r b' n') := by
  obtain ⟨c1, I1, e1, hw, hn, hok, hφ⟩ := I.pubAll ps
  have hnd := List.nodup_append.1 hd
  have hnot : ∀ {i x}, getB b' i = some x → r i ∉ ps := by
    intro i x hx hm
    exact hnd.2.2 (r i) (List.mem_map.2 ⟨(i, x), getB_mem hx, rfl⟩) (r i) hm rfl
  have hsome : ∀ {i x}, getB b' i = some x → (narrowC c c1 r b' n').φ i = c1.φ (r i) := by
    intro i x hx
    show (match getB b' i with | some _ => c1.φ (r i) | none => Loc.dead) = _
    rw [hx]
  have hnone : ∀ {i}, getB b' i = none → (narrowC c c1 r b' n').φ i = .dead := by
    intro i hx
    show (match getB b' i with | some _ => c1.φ (r i) | none => Loc.dead) = _
    rw [hx]
  have bk : Back c1 (narrowC c c1 r b' n') r := ⟨hw.symm, rfl, fun j hj => hr j (by have := I.n; omega), fun j => by
    cases hg : getB b' j with
    | none => exact .inr (hnone hg)
    | some x => exact .inl (hsome hg)⟩
  have op : Open c c1 ps := ⟨hw, fun a ha => e1.ok a ha, hok⟩
  have hat : ∀ i a s, (narrowC c c1 r b' n').φ i = .at a s → c1.φ (r i) = .at a s ∧ (∃ x, getB b' i = some x) ∧ r i ∉ ps := by
    intro i a s hi
    cases hg : getB b' i with
    | none => rw [hnone hg] at hi; cases hi
    | some x => rw [hsome hg] at hi; exact ⟨hi, ⟨x, rfl⟩, hnot hg⟩
  refine ⟨c1, I1, e1, op, hn, hφ, bk, fun i y hx => ⟨hk _ (getB_mem hx), ?_⟩, fun i hi => hnone hi, hat, fun i j a s s' hi hj => ?_⟩
  · obtain ⟨x, hg, hpass⟩ := heapOk_get hheap hx
    obtain ⟨_, hb⟩ := getB_at I hg
    have hfi : (narrowC c c1 r b' n').φ i = c.φ (r i) := (hsome hx).trans (hφ _ (hnot hx))
    have deep : Ext (dp c) (dp (narrowC c c1 r b' n')) :=
      ⟨Nat.le_refl _, fun _ hi => absurd hi (Nat.not_lt_zero _), fun a ha => e1.ok a ha, fun k _ => rfl, fun _ _ _ hi => absurd hi (Nat.not_lt_zero _)⟩
    have plain : ∀ {x : Blk}, (∀ e, x ≠ .var e) → HBlk c (r i) x → HBlk (narrowC c c1 r b' n') i x := by
      intro x hx hb
      cases x with
      | var e => exact absurd rfl (hx e)
      | row sz rr =>
        have rc : ∀ {cs}, RwCells c sz rr cs → RwCells (narrowC c c1 r b' n') sz rr cs := by
          intro cs hc
          cases rr with
          | els l => exact Elems.ext deep sz l cs hc
          | _ => exact hc
        rcases hb with ⟨g1, g2, g3⟩ | ⟨b, s, cur, t, fr, cs, g1, g2, g3, g4, g5⟩
        · exact .inl ⟨hfi.trans g1, g2, rc g3⟩
        · exact .inr ⟨b, s, cur, t, fr, cs, hfi.trans g1, g2, g3, rc g4, g5⟩
      | map es =>
        obtain ⟨b, s, ents, clock, g1, g2, g3⟩ := hb
        exact ⟨b, s, ents, clock, hfi.trans g1, g2, Ents.deep deep es _ g3⟩
    unfold passB at hpass
    split at hpass
    · rename_i e e'
      obtain ⟨b, s, cur, t, cs, g1, g2, g3, g4, g5⟩ := hb
      exact ⟨b, s, cur, t, cs, hfi.trans g1, g2, passE_segs I hbn bk e1 op _ _ _ hpass g3, g4, g5⟩
    · rename_i hne
      subst hpass
      exact plain (fun e he => hne e e he he) hb
  · obtain ⟨h1, ⟨x, hx⟩, _⟩ := hat i a s hi
    obtain ⟨h2, ⟨y, hy⟩, _⟩ := hat j a s' hj
    have := I1.hs.inj _ _ a s s' h1 h2
    have := nodup_inj (fun q : Nat × Blk => r q.1) hnd.1 (getB_mem hx) (getB_mem hy) this
    exact congrArg Prod.fst this

/-! ### nil slices get rows -/
def nilsC (c : Cx) (k : Nat) : Cx := { c with φ := fun i => if c.n ≤ i ∧ i < c.n + k then .nil else c.φ i, n := c.n + k }
theorem nils_ext (c : Cx) (k : Nat) : Ext c (nilsC c k) where
  n := Nat.le_add_right _ _
  φ := fun i hi => .inl (by show (if _ then _ else _) = _; rw [if_neg (by omega)])
  ok := fun _ h => h
  blk := fun _ _ => rfl
  sz := fun _ _ _ _ _ => rfl
theorem getB_nil : ∀ (nl : List (Nat × EK)) (n : Nat) (b : List (Nat × Blk)) (i : Nat), getB (nilRows n nl ++ b) i = if n ≤ i ∧ i < n + nl.length then (nl[i - n]?).map (fun q => Blk.row q.1 (Rw.nil q.2)) else getB b i
  | [], n, b, i => by simp [nilRows]; omega
  | (sz, ek) :: nl, n, b, i => by
    simp only [nilRows, List.cons_append, getB, List.length_cons]
    by_cases e : n = i
    · subst e; rw [if_pos rfl, if_pos (by omega)]; simp
    · rw [if_neg e, getB_nil nl (n + 1) b i]
      by_cases h : n ≤ i ∧ i < n + (nl.length + 1)
      · rw [if_pos h, if_pos (by omega)]
        rw [show i - n = (i - (n + 1)) + 1 by omega]
        simp
      · rw [if_neg h, if_neg (by omega)]
theorem nilx_ok (I : Inv z c h) {nl : List (Nat × EK)} (hn : nlOk nl) : Inv z (nilsC c nl.length) (h.nilx nl) ∧ NilsFrom (some h.n) (nilsC c nl.length) := by
  have x := nils_ext c nl.length
  have hcn := I.n
  have old : ∀ i, ¬ (c.n ≤ i ∧ i < c.n + nl.length) → (nilsC c nl.length).φ i = c.φ i := fun i hi => if_neg hi
  have new : ∀ i, (c.n ≤ i ∧ i < c.n + nl.length) → (nilsC c nl.length).φ i = .nil := fun i hi => if_pos hi
  have at_ : ∀ {i a s}, (nilsC c nl.length).φ i = .at a s → c.φ i = .at a s := by
    intro i a s hi
    by_cases hx : c.n ≤ i ∧ i < c.n + nl.length
    · rw [new i hx] at hi; cases hi
    · rw [old i hx] at hi; exact hi
  refine ⟨I.go x (S := fun _ => False) ⟨rfl, rfl, rfl, Nat.le_refl _, fun _ _ _ => rfl, fun _ _ => rfl⟩ (fun _ h => h.elim) (fun _ h => .inl h) (by show c.n + _ = h.n + _; rw [hcn]) ?_, ?_⟩
  · refine ⟨fun i y hy => ?_, fun i hi => ?_, fun i a s hi => I.hs.exc i a s (at_ hi), fun i j a s s' hi hj => I.hs.inj i j a s s' (at_ hi) (at_ hj), I.hs.lt⟩
    · have hy' : getB (nilRows h.n nl ++ h.b) i = some y := hy
      rw [getB_nil] at hy'
      split at hy'
      · rename_i hi
        have hi' : c.n ≤ i ∧ i < c.n + nl.length := by omega
        refine ⟨hi'.2, ?_⟩
        cases hq : nl[i - h.n]? with
        | none => rw [hq] at hy'; cases hy'
        | some q =>
          rw [hq] at hy'
          cases hy'
          have hf := List.all_eq_true.1 hn q (List.mem_of_getElem? hq)
          refine .inl ⟨new i hi', ?_, ?_⟩
          · obtain ⟨sz, ek⟩ := q; cases ek <;> rfl
          · obtain ⟨sz, ek⟩ := q
            cases ek <;> simp only [ekFit, beq_iff_eq] at hf <;> first | exact ⟨hf, rfl⟩ | rfl
      · rename_i hi
        obtain ⟨h1, h2⟩ := I.hs.blk i y hy'
        have hi' : ¬ (c.n ≤ i ∧ i < c.n + nl.length) := by omega
        exact ⟨Nat.lt_of_lt_of_le h1 x.n, h2.ext x (old i hi') (fun _ _ _ => rfl)⟩
    · have hi' : getB (nilRows h.n nl ++ h.b) i = none := hi
      rw [getB_nil] at hi'
      split at hi'
      · rename_i hx
        have : nl[i - h.n]? = some (nl[i - h.n]'(by omega)) := List.getElem?_eq_getElem _
        rw [this] at hi'; cases hi'
      · rename_i hx
        rw [old i (by omega)]
        exact I.hs.dom i hi'
  · intro k hk i h1 h2
    cases hk
    exact new i ⟨by omega, h2⟩

/-- Less is known than before. -/
theorem weaken (I : Inv z c h) {xs ys : List V} {h' : H} {nl : List (Nat × EK)} {ρ ps : List Nat} (W : Weak z.m xs h ys h' nl ρ ps) {us : List Value} (hx : Reps c xs us) : ∃ cc, cc.w = c.w ∧ Inv z cc h' ∧ Reps cc ys us := by
  obtain ⟨hnl, W⟩ := W
  obtain ⟨I0, hb⟩ := nilx_ok I hnl
  have hx0 := Reps.ext (nils_ext c nl.length) _ _ hx
  obtain ⟨c1, N⟩ := narrow I0 hb (n' := h'.n) W.heap W.dist W.keys (fun j hj => by
    unfold rn at hj
    split at hj
    · assumption
    · omega)
  refine ⟨narrowC (nilsC c nl.length) c1 (rn ρ h'.n (h.nilx nl).n) h'.b h'.n, rfl, ?_, passL_reps I0 hb N.back N.ext N.op _ _ _ W.vals hx0⟩
  have I1 := N.inv
  refine ⟨?_, ⟨N.blk, N.dom, fun i a s hi => ?_, N.inj, fun a ha => ?_⟩, rfl, I1.oks, I1.okn, fun i hi => ?_, W.old.1⟩
  · exact I.frame
  · obtain ⟨h1, _, _⟩ := N.at_ i a s hi
    obtain ⟨g1, g2, g3⟩ := I1.hs.exc _ a s h1
    exact ⟨g1, g2, by rw [N.op.w] at g3; exact g3⟩
  · have := I1.hs.lt a ha; rw [N.op.w] at this; exact this
  · rcases N.back.φ i with e | e
    · rw [e]
      have : rn ρ h'.n (h.nilx nl).n i = i := by
        unfold rn
        rw [if_pos (Nat.lt_of_lt_of_le hi W.old.1)]
        exact W.old.2 i hi
      rw [this]
      exact I1.old i hi
    · exact .inr e
end
end Go.AM
end

section
/- AM, part 23: a call. -/
namespace Go.AM
section
variable {P : Program} {z : Ctx0} {c : Cx} {h : H}

open Classical in
noncomputable def callC (c1 c2 : Cx) (r : Nat → Nat) (n1 n : Nat) : Cx :=
  { w := c2.w, ok := c2.ok, φ := fun k => if h : ∃ i, i < n1 ∧ r i = k then c2.φ (Classical.choose h) else c1.φ k, n := n }
theorem callC_in {c1 c2 : Cx} {r : Nat → Nat} {n1 n i : Nat} (inj : ∀ i j, i < n1 → j < n1 → r i = r j → i = j) (hi : i < n1) : (callC c1 c2 r n1 n).φ (r i) = c2.φ i := by
  have hx : ∃ j, j < n1 ∧ r j = r i := ⟨i, hi, rfl⟩
  show (if h : ∃ j, j < n1 ∧ r j = r i then c2.φ (Classical.choose h) else c1.φ (r i)) = _
  rw [dif_pos hx]
  obtain ⟨h1, h2⟩ := Classical.choose_spec hx
  rw [inj _ _ h1 hi h2]
theorem callC_out {c1 c2 : Cx} {r : Nat → Nat} {n1 n k : Nat} (hk : ∀ i, i < n1 → r i ≠ k) : (callC c1 c2 r n1 n).φ k = c1.φ k :=
  dif_neg (fun ⟨i, h1, h2⟩ => hk i h1 h2)

theorem range_rn {ρ : List Nat} {m base : Nat} (hl : ρ.length = m) : (List.range m).map (rn ρ m base) = ρ := by
  apply List.ext_getElem (by simp [hl])
  intro i h1 h2
  simp only [List.getElem_map, List.getElem_range]
  have : i < m := by omega
  unfold rn
  rw [if_pos this, List.getD_eq_getElem?_getD, List.getElem?_eq_getElem h2]
  rfl
theorem getB_putAll (b : List (Nat × Blk)) : ∀ (l : List (Nat × Blk)) (k : Nat), getB (putAll b l) k = match getB l k with | some x => some x | none => getB b k
  | [], k => rfl
  | (i, x) :: l, k => by
    rw [putAll, getB_setB, getB_putAll b l k]
    simp only [getB]
    by_cases e : k = i
    · subst e; simp
    · rw [if_neg e, if_neg (fun e' => e e'.symm)]
theorem getB_renH {r : Nat → Nat} : ∀ {l : List (Nat × Blk)} {k : Nat} {y : Blk}, getB (renH r l) k = some y → ∃ i x, (i, x) ∈ l ∧ r i = k ∧ y = renB r x
  | (i, x) :: l, k, y, hy => by
    simp only [renH, getB] at hy
    split at hy
    · rename_i e; cases hy; exact ⟨i, x, List.mem_cons_self, e, rfl⟩
    · obtain ⟨j, w, h1, h2, h3⟩ := getB_renH hy; exact ⟨j, w, List.mem_cons_of_mem _ h1, h2, h3⟩
theorem getB_renH_in {r : Nat → Nat} : ∀ {l : List (Nat × Blk)} {i : Nat}, (∀ q ∈ l, r q.1 = r i → q.1 = i) → getB (renH r l) (r i) = (getB l i).map (renB r)
  | [], _, _ => rfl
  | (j, x) :: l, i, hi => by
    simp only [renH, getB]
    by_cases e : j = i
    · subst e; rw [if_pos rfl, if_pos rfl]; rfl
    · rw [if_neg e, if_neg (fun e' => e (hi (j, x) List.mem_cons_self e')), getB_renH_in (fun q hq => hi q (List.mem_cons_of_mem _ hq))]

theorem ecall_ok (I : Inv z c h) {T : Tr} {ρ ps : List Nat} {f : FuncId} {vals : List V} (hT : TrOk P T) (F : Fits T ρ ps f vals h) {us : List Value} (hx : Reps c vals us) :
    Calls P f ⟨us⟩ c.w fun e w' => ∃ u c3, e = .returned u ∧ c3.w = w' ∧ Inv z c3 (callH T ρ ps h) ∧ Ext c c3 ∧ Rep c3 (renV (rn ρ T.m h.n) T.res) u := by
  have hks := hT.2.1
  have hmap : T.b0.map (fun q => rn ρ T.m h.n q.1) = ρ := by
    have : T.b0.map (fun q => rn ρ T.m h.n q.1) = (T.b0.map (·.1)).map (rn ρ T.m h.n) := by rw [List.map_map]; rfl
    rw [this, F.m.2, range_rn F.m.1]
  have hb0 : NilsFrom none c := fun k hk => by cases hk
  obtain ⟨c1, N⟩ := narrow I hb0 (n' := T.m) F.heap (by rw [hmap]; exact F.dist) (fun q hq => by
      have : q.1 ∈ T.b0.map (·.1) := List.mem_map.2 ⟨q, hq, rfl⟩
      rw [F.m.2] at this; exact List.mem_range.1 this) (fun j hj => by
    unfold rn at hj
    split at hj
    · assumption
    · omega)
  have I1 := N.inv
  have hw1 := N.op.w
  have hn1 : c1.n = h.n := N.n.trans I.n
  have hφe : ∀ i, (narrowC c c1 (rn ρ T.m h.n) T.b0 T.m).φ i = c1.φ (rn ρ T.m h.n i) ∨ (narrowC c c1 (rn ρ T.m h.n) T.b0 T.m).φ i = .dead := N.back.φ
  -- the names of the arguments' blocks
  have hold : ∀ i, i < T.m → rn ρ T.m h.n i < h.n ∧ rn ρ T.m h.n i ∉ ps ∧ (narrowC c c1 (rn ρ T.m h.n) T.b0 T.m).φ i = c1.φ (rn ρ T.m h.n i) := by
    intro i hi
    have hm : i ∈ T.b0.map (·.1) := by rw [F.m.2]; exact List.mem_range.2 hi
    obtain ⟨q, hq, rfl⟩ := List.mem_map.1 hm
    have hg : ∃ x, getB T.b0 q.1 = some x := by
      have : ∀ l : List (Nat × Blk), q ∈ l → ∃ x, getB l q.1 = some x := by
        intro l
        induction l with
        | nil => intro h; cases h
        | cons p l ih =>
          intro hq
          obtain ⟨j, x⟩ := p
          simp only [getB]
          by_cases e : j = q.1
          · exact ⟨x, if_pos e⟩
          · rw [if_neg e]
            rcases List.mem_cons.1 hq with rfl | hq
            · exact absurd rfl e
            · exact ih hq
      exact this _ hq
    obtain ⟨x, hx⟩ := hg
    obtain ⟨_, h1, _⟩ := heapOk_get F.heap hx
    have h2 := (getB_at I h1).1
    have h3 : rn ρ T.m h.n q.1 ∉ ps := by
      intro hmem
      have hd := F.dist
      rw [← hmap] at hd
      exact (List.nodup_append.1 hd).2.2 _ (List.mem_map.2 ⟨q, hq, rfl⟩) _ hmem rfl
    refine ⟨by have := I.n; omega, h3, ?_⟩
    show (match getB T.b0 q.1 with | some _ => c1.φ (rn ρ T.m h.n q.1) | none => Loc.dead) = _
    rw [hx]
  have hnew : ∀ i, ¬ i < T.m → h.n ≤ rn ρ T.m h.n i := by
    intro i hi; unfold rn; rw [if_neg hi]; omega
  have rinj : ∀ i j, rn ρ T.m h.n i = rn ρ T.m h.n j → i = j := by
    intro i j e
    by_cases hi : i < T.m <;> by_cases hj : j < T.m
    · have hd := (List.nodup_append.1 F.dist).1
      rw [← range_rn (base := h.n) F.m.1] at hd
      exact nodup_inj _ hd (List.mem_range.2 hi) (List.mem_range.2 hj) e
    · have := (hold i hi).1; have := hnew j hj; omega
    · have := (hold j hj).1; have := hnew i hi; omega
    · unfold rn at e; rw [if_neg hi, if_neg hj] at e; omega
  have hHS : HS c.w.heap.size (foot T.m (narrowC c c1 (rn ρ T.m h.n) T.b0 T.m).φ) (narrowC c c1 (rn ρ T.m h.n) T.b0 T.m) T.b0 := by
    refine ⟨N.blk, N.dom, fun i a s hi => ?_, N.inj, fun a ha => ?_⟩
    · obtain ⟨h1, ⟨x, hx⟩, _⟩ := N.at_ i a s hi
      obtain ⟨g1, g2, g3⟩ := I1.hs.exc _ a s h1
      exact ⟨.inl ⟨i, s, (N.blk i x hx).1, hi⟩, g2, by rw [hw1] at g3; exact g3⟩
    · have := I1.hs.lt a ha; rw [hw1] at this; exact this
  have hcall := hT.2.2 c.w c1.ok (narrowC c c1 (rn ρ T.m h.n) T.b0 T.m).φ us hHS (passL_reps I hb0 N.back N.ext N.op _ _ _ F.vals hx)
  rw [F.f] at hcall
  refine hcall.mono ?_
  rintro e w' ⟨u, c2, rfl, rfl, PO⟩
  obtain ⟨hcn, hmn⟩ := PO.n
  -- a block of the call's own that was handed on
  have hfoot : ∀ b, foot T.m (narrowC c c1 (rn ρ T.m h.n) T.b0 T.m).φ b → ∃ i s, i < T.m ∧ c1.φ (rn ρ T.m h.n i) = .at b s := by
    rintro b ⟨i, s, hi, hb⟩
    exact ⟨i, s, hi, by rw [← (hold i hi).2.2]; exact hb⟩
  have hfr := PO.frame
  let n3 := h.n + (T.n1 - T.m)
  let c3 : Cx := callC c1 c2 (rn ρ T.m h.n) T.n1 n3
  have φin : ∀ i, i < T.n1 → c3.φ (rn ρ T.m h.n i) = c2.φ i := fun i hi => callC_in (fun i j _ _ e => rinj i j e) hi
  have φout : ∀ k, (∀ i, i < T.n1 → rn ρ T.m h.n i ≠ k) → c3.φ k = c1.φ k := fun k hk => callC_out hk
  have φcase : ∀ k, (∃ i, i < T.n1 ∧ rn ρ T.m h.n i = k ∧ c3.φ k = c2.φ i) ∨ ((∀ i, i < T.n1 → rn ρ T.m h.n i ≠ k) ∧ c3.φ k = c1.φ k) := by
    intro k
    by_cases hk : ∃ i, i < T.n1 ∧ rn ρ T.m h.n i = k
    · obtain ⟨i, hi, rfl⟩ := hk; exact .inl ⟨i, hi, rfl, φin i hi⟩
    · exact .inr ⟨fun i hi e => hk ⟨i, hi, e⟩, φout k (fun i hi e => hk ⟨i, hi, e⟩)⟩
  have fwd : Fwd c2 c3 (rn ρ T.m h.n) := by
    refine ⟨rfl, rfl, fun j hj => ?_, fun j hj => φin j (by omega)⟩
    show rn ρ T.m h.n j < h.n + (T.n1 - T.m)
    by_cases hjm : j < T.m
    · have := (hold j hjm).1; omega
    · unfold rn; rw [if_neg hjm]; omega
  have far : ∀ k, (∀ i, i < T.n1 → rn ρ T.m h.n i ≠ k) → ∀ a s, c1.φ k = .at a s → ¬ foot T.m (narrowC c c1 (rn ρ T.m h.n) T.b0 T.m).φ a := by
    intro k hk a s ha hf
    obtain ⟨i, s', hi, hb⟩ := hfoot a hf
    exact hk i (by omega) (I1.hs.inj _ _ a s' s hb ha)
  have blk1 : ∀ b, b < c.w.heap.size → ¬ foot T.m (narrowC c c1 (rn ρ T.m h.n) T.b0 T.m).φ b → c2.w.heap[b]? = c1.w.heap[b]? := by
    intro b hb hf; rw [hfr.blk b hb hf, hw1]
  have lt1 : ∀ k a s, c1.φ k = .at a s → a < c.w.heap.size := by
    intro k a s ha; have := (I1.hs.exc k a s ha).2.2; rw [hw1] at this; exact this
  have ext13 : Ext c1 c3 := by
    refine ⟨by show c1.n ≤ h.n + _; omega, fun k hk => ?_, PO.oks, fun b hb => ?_, fun k b s hk hb => ?_⟩
    · rcases φcase k with ⟨i, hi, rfl, e⟩ | ⟨_, e⟩
      · rw [e]
        have him : i < T.m := by
          rcases Nat.lt_or_ge i T.m with h1 | h1
          · exact h1
          · have := hnew i (by omega); omega
        rcases PO.old i him with q | q
        · rw [q, (hold i him).2.2]; exact .inl rfl
        · exact .inr q
      · exact .inl e
    · have hlt : b < c.w.heap.size := by have := I1.hs.lt b hb; rw [hw1] at this; exact this
      refine blk1 b hlt (fun hf => ?_)
      obtain ⟨i, s, hi, hb'⟩ := hfoot b hf
      exact (I1.hs.exc _ b s hb').2.1 hb
    · have hlt : b < c.w.heap.size := by
        rcases φcase k with ⟨i, hi, rfl, e⟩ | ⟨_, e⟩
        · rw [e] at hb
          have him : i < T.m := by
            rcases Nat.lt_or_ge i T.m with h1 | h1
            · exact h1
            · have := hnew i (by omega); omega
          rcases PO.old i him with q | q
          · rw [q, (hold i him).2.2] at hb; exact lt1 _ b s hb
          · rw [q] at hb; cases hb
        · rw [e] at hb; exact lt1 _ b s hb
      show sizeAt c2.w b = _
      rw [hfr.sz b hlt, hw1]
  have hcH : (callH T ρ ps h).b = putAll (delAll (delAll h.b ps) ρ) (renH (rn ρ T.m h.n) T.b1) := rfl
  have getNew : ∀ i, i < T.n1 → getB (renH (rn ρ T.m h.n) T.b1) (rn ρ T.m h.n i) = (getB T.b1 i).map (renB (rn ρ T.m h.n)) := fun i _ => getB_renH_in (fun q _ e => rinj _ _ e)
  have inρ : ∀ k, k ∈ ρ → ∃ i, i < T.m ∧ rn ρ T.m h.n i = k := by
    intro k hk
    rw [← range_rn (base := h.n) F.m.1] at hk
    obtain ⟨i, hi, e⟩ := List.mem_map.1 hk
    exact ⟨i, List.mem_range.1 hi, e⟩
  have ok2 : ∀ a, c2.ok a → c1.ok a ∨ foot T.m (narrowC c c1 (rn ρ T.m h.n) T.b0 T.m).φ a ∨ c.w.heap.size ≤ a := PO.okn
  have own : ∀ a, foot T.m (narrowC c c1 (rn ρ T.m h.n) T.b0 T.m).φ a ∨ c.w.heap.size ≤ a → z.F a ∨ z.w0.heap.size ≤ a := by
    intro a ha
    rcases ha with ha | ha
    · obtain ⟨i, s, hi, hb⟩ := hfoot a ha
      exact (I1.hs.exc _ a s hb).1
    · exact .inr (Nat.le_trans I.frame.size ha)
  have hs3 : HS z.w0.heap.size z.F c3 (callH T ρ ps h).b := by
    rw [hcH]
    refine ⟨fun k y hy => ?_, fun k hk => ?_, fun k a s hk => ?_, fun k l a s s' hk hl => ?_, PO.hs.lt⟩
    · rw [getB_putAll] at hy
      cases hg : getB (renH (rn ρ T.m h.n) T.b1) k with
      | some y' =>
        rw [hg] at hy
        cases hy
        obtain ⟨i, x, hm, rfl, rfl⟩ := getB_renH hg
        have hi : i < T.n1 := hks (i, x) hm
        rw [getNew i hi] at hg
        cases hgi : getB T.b1 i with
        | none => rw [hgi] at hg; cases hg
        | some x' =>
          rw [hgi] at hg
          have hb := (PO.hs.blk i x' hgi).2
          have he : renB (rn ρ T.m h.n) x = renB (rn ρ T.m h.n) x' := by simpa using hg.symm
          rw [he]
          refine ⟨fwd.lt i (by omega), ?_⟩
          cases x' with
          | var e =>
            obtain ⟨b, s, cur, t, cs, g1, g2, g3, g4, g5⟩ := hb
            exact ⟨b, s, cur, t, cs, (φin i hi).trans g1, g2, fwd.segs e cs g3, g4, g5⟩
          | row sz rr =>
            have rc : ∀ {cs}, RwCells c2 sz rr cs → RwCells c3 sz rr cs := by
              intro cs hc
              cases rr with
              | els l => exact Elems.ext fwd.deep sz l cs hc
              | _ => exact hc
            rcases hb with ⟨g1, g2, g3⟩ | ⟨b, s, cur, t, fr, cs, g1, g2, g3, g4, g5⟩
            · exact .inl ⟨(φin i hi).trans g1, g2, rc g3⟩
            · exact .inr ⟨b, s, cur, t, fr, cs, (φin i hi).trans g1, g2, g3, rc g4, g5⟩
          | map es =>
            obtain ⟨b, s, ents, clock, g1, g2, g3⟩ := hb
            exact ⟨b, s, ents, clock, (φin i hi).trans g1, g2, Ents.deep fwd.deep es _ g3⟩
      | none =>
        rw [hg] at hy
        simp only at hy
        rw [getB_delAll] at hy
        split at hy
        · cases hy
        · rename_i hkρ
          obtain ⟨g1, g2⟩ := I1.hs.blk k y hy
          have hkn : ∀ i, i < T.n1 → rn ρ T.m h.n i ≠ k := by
            intro i hi e
            by_cases him : i < T.m
            · apply hkρ
              rw [← range_rn (base := h.n) F.m.1, ← e]
              exact List.mem_map.2 ⟨i, List.mem_range.2 him, rfl⟩
            · have := hnew i him; omega
          refine ⟨Nat.lt_of_lt_of_le g1 ext13.n, g2.ext ext13 (φout k hkn) (fun b s hb => blk1 b (lt1 k b s hb) (far k hkn b s hb))⟩
    · rw [getB_putAll] at hk
      rcases φcase k with ⟨i, hi, rfl, e⟩ | ⟨hkn, e⟩
      · rw [e]
        refine PO.hs.dom i ?_
        rw [getNew i hi] at hk
        cases hgi : getB T.b1 i with
        | none => rfl
        | some x' => rw [hgi] at hk; cases hk
      · rw [e]
        refine I1.hs.dom k ?_
        cases hg : getB (renH (rn ρ T.m h.n) T.b1) k with
        | some y' => rw [hg] at hk; cases hk
        | none =>
          rw [hg] at hk
          simp only at hk
          rw [getB_delAll] at hk
          split at hk
          · rename_i hm
            obtain ⟨i, hi, e⟩ := inρ k hm
            exact absurd e (hkn i (by omega))
          · exact hk
    · rcases φcase k with ⟨i, hi, rfl, e⟩ | ⟨hkn, e⟩
      · rw [e] at hk
        obtain ⟨g1, g2, g3⟩ := PO.hs.exc i a s hk
        exact ⟨own a g1, g2, g3⟩
      · rw [e] at hk
        obtain ⟨g1, g2, g3⟩ := I1.hs.exc k a s hk
        have hlt := lt1 k a s hk
        refine ⟨g1, fun hok => ?_, Nat.lt_of_lt_of_le hlt hfr.size⟩
        rcases ok2 a hok with q | q | q
        · exact g2 q
        · exact far k hkn a s hk q
        · omega
    · have mixed : ∀ k l s s', (∃ i, i < T.n1 ∧ rn ρ T.m h.n i = k ∧ c3.φ k = c2.φ i) → ((∀ i, i < T.n1 → rn ρ T.m h.n i ≠ l) ∧ c3.φ l = c1.φ l) → c3.φ k = .at a s → c3.φ l = .at a s' → False := by
        rintro k l s s' ⟨i, hi, rfl, e⟩ ⟨hl, e'⟩ h1 h2
        rw [e] at h1; rw [e'] at h2
        rcases (PO.hs.exc i a s h1).1 with q | q
        · exact far l hl a s' h2 q
        · have := lt1 l a s' h2; omega
      rcases φcase k with A | A <;> rcases φcase l with B | B
      · obtain ⟨i, hi, rfl, e⟩ := A
        obtain ⟨j, hj, rfl, e'⟩ := B
        rw [e] at hk; rw [e'] at hl
        rw [PO.hs.inj i j a s s' hk hl]
      · exact (mixed k l s s' A B hk hl).elim
      · exact (mixed l k s' s B A hl hk).elim
      · rw [A.2] at hk; rw [B.2] at hl
        exact I1.hs.inj k l a s s' hk hl
  refine ⟨u, c3, rfl, rfl, ?_, N.ext.trans ext13, fwd.rep T.res u PO.res⟩
  refine I1.go ext13 (S := foot T.m (narrowC c c1 (rn ρ T.m h.n) T.b0 T.m).φ) ⟨hfr.os.trans (by rw [hw1]), hfr.tape.trans (by rw [hw1]), hfr.output.trans (by rw [hw1]), by rw [hw1]; exact hfr.size, fun b hb hf => blk1 b (by rw [hw1] at hb; exact hb) hf, fun b hb => by
    show sizeAt c2.w b = _
    rw [hw1] at hb ⊢; exact hfr.sz b hb⟩ (fun b hb => own b (.inl hb)) (fun b hb => ?_) rfl hs3
  rcases ok2 b hb with q | q | q
  · exact .inl q
  · exact .inr (own b (.inl q))
  · exact .inr (own b (.inr q))
end
end Go.AM
end

section
/- AM, part 24: each operation. -/
namespace Go.AM
section
variable {P : Program} {z : Ctx0} {c : Cx} {h : H}

/-! ### operands -/
theorem Reps.getU {c : Cx} : ∀ {l : List V} {us : List Value}, Reps c l us → ∀ i, Rep c (l.getD i .undef) (us.getD i undef)
  | [], us, h, i => by cases h; trivial
  | v :: r, us, h, 0 => by obtain ⟨u, us', rfl, h2, h3⟩ := h; exact h2
  | v :: r, us, h, i + 1 => by obtain ⟨u, us', rfl, h2, h3⟩ := h; simpa using Reps.getU h3 i
theorem Reps.setU {c : Cx} : ∀ {l : List V} {us : List Value}, Reps c l us → ∀ (i : Nat) {v : V} {u : Value}, Rep c v u → Reps c (l.set i v) (us.set i u)
  | [], us, h, i, v, u, hv => by cases h; exact rfl
  | x :: r, us, h, 0, v, u, hv => by obtain ⟨y, us', rfl, h2, h3⟩ := h; exact ⟨u, us', rfl, hv, h3⟩
  | x :: r, us, h, i + 1, v, u, hv => by obtain ⟨y, us', rfl, h2, h3⟩ := h; exact ⟨y, us'.set i u, rfl, h2, Reps.setU h3 i hv⟩
theorem ev_ok {t : List V} {a : Act} (ht : Reps c t a.tmps.toList) (x : Operand) : Rep c (ev t x) (a.eval x) := by
  cases x with
  | tmp i =>
    have := ht.getU i
    show Rep c (t.getD i .undef) (a.tmps.getD i undef)
    have e : a.tmps.getD i undef = a.tmps.toList.getD i undef := by simp [Array.getD_eq_getD_getElem?, List.getD_eq_getElem?_getD]
    rw [e]; exact this
  | const v =>
    show Rep c (ofVal v) v
    unfold ofVal
    split
    · exact rfl
    · exact rfl
    · show _ = Value.string (bs _); rfl
    · exact rfl
    · exact rfl
    · exact rfl
    · exact rfl
    · trivial
  | global g => trivial
  | func f => exact ⟨[], rfl, rfl⟩
theorem evs_ok {t : List V} {a : Act} (ht : Reps c t a.tmps.toList) : ∀ xs : List Operand, Reps c (xs.map (ev t)) (xs.map a.eval)
  | [] => rfl
  | x :: r => ⟨_, _, rfl, ev_ok ht x, evs_ok ht r⟩
theorem Reps.app {c : Cx} : ∀ {l m : List V} {us vs : List Value}, Reps c l us → Reps c m vs → Reps c (l ++ m) (us ++ vs)
  | [], m, us, vs, h, g => by cases h; exact g
  | v :: r, m, us, vs, h, g => by obtain ⟨u, us', rfl, h2, h3⟩ := h; exact ⟨u, us' ++ vs, rfl, h2, Reps.app h3 g⟩

/-- What an operation leaves. -/
def Nx (z : Ctx0) (c : Cx) (a : Act) (o : Oper) (K : V → H → Prop) (a' : Act) (w' : World) : Prop :=
  ∃ v h' c' u, K v h' ∧ Inv z c' h' ∧ Ext c c' ∧ c'.w = w' ∧ Rep c' v u ∧ a' = a.put o.dst u

theorem of_res {o : Oper} {a : Act} {s : Sem Value} {r : R} {K : V → H → Prop} {Q : Exit → Act → World → Prop} (hx : (execOp a.eval o).run P c.w = (do pure (.value (← s)) : Sem Next).run P c.w) (hr : Res P z c h s r) (hX : X r h K) :
    o.wp P a c.w (Nx z c a o K) Q := by
  cases r with
  | fail => exact hX.elim
  | ok p v u nw =>
    obtain ⟨hp, hK⟩ := hX
    obtain ⟨uu, c', h1, h2, h3, h4⟩ := hr hp
    unfold Oper.wp
    rw [hx]
    simp only [Sem.run_bind, h1, Result.andThen_ok, Sem.run_pure]
    exact ⟨v, _, c', uu, hK, h2, h3, rfl, h4, rfl⟩
theorem of_same {o : Oper} {a : Act} {v : V} {u : Value} {K : V → H → Prop} {Q : Exit → Act → World → Prop} (I : Inv z c h) (hx : (execOp a.eval o).run P c.w = .ok (.value u) c.w) (hv : Rep c v u) (hK : K v h) :
    o.wp P a c.w (Nx z c a o K) Q := by
  unfold Oper.wp
  rw [hx]
  exact ⟨v, h, c, u, hK, I, Ext.refl c, rfl, hv, rfl⟩
theorem callable_spec {f : FuncId} (hc : callable P f = true) : ∃ fn, P.funcs[f]? = some fn ∧ fn.name ≠ "runtime.NumGoroutine" ∧ fn.body.isSome = true := by
  unfold callable at hc
  cases hf : P.funcs[f]? with
  | none => rw [hf] at hc; cases hc
  | some fn =>
    rw [hf] at hc
    simp only [Bool.and_eq_true, bne_iff_ne, ne_eq] at hc
    exact ⟨fn, rfl, hc.1, hc.2⟩
theorem run_callFunc {f : FuncId} (hc : callable P f = true) (args : Array Value) (w : World) : (callFunc f args).run P w = .ok (.enter f args) w := by
  obtain ⟨fn, h1, h2, h3⟩ := callable_spec hc
  have h4 : ¬ fn.body = none := by intro e; rw [e] at h3; cases h3
  simp [callFunc, h1, h2, h4, program, Sem.run]

theorem parts_ok {t : List V} {a : Act} (ht : Reps c t a.tmps.toList) : ∀ ps : List (Nat × Operand), Prs c (ps.map fun q => (q.1, ev t q.2)) (ps.map fun q => (q.1, a.eval q.2))
  | [] => rfl
  | q :: r => ⟨_, _, rfl, rfl, ev_ok ht q.2, parts_ok ht r⟩
theorem zip_range (f : Operand → Value) : ∀ (ps : List (Nat × Operand)) (k n : Nat), ps.map (·.1) = List.range' k n → ps.map (fun q => (q.1, f q.2)) = ((ps.map fun q => f q.2).zipIdx k).map fun x => (x.2, x.1)
  | [], k, n, h => by simp
  | q :: r, k, n, h => by
    cases n with
    | zero => simp at h
    | succ n =>
      rw [List.range'_succ] at h
      simp only [List.map_cons, List.cons.injEq] at h
      simp only [List.map_cons, List.zipIdx_cons, h.1]
      rw [zip_range f r (k + 1) n h.2]

theorem opt_ok {t : List V} {a : Act} (ht : Reps c t a.tmps.toList) (x : Option Operand) : (∀ v, x.map (ev t) = some v → ∃ u, x.map a.eval = some u ∧ Rep c v u) ∧ (x.map (ev t) = none → x.map a.eval = none) := by
  cases x with
  | none =>
    refine ⟨fun v hv => ?_, fun _ => rfl⟩
    cases hv
  | some y =>
    refine ⟨fun v hv => ?_, fun h => ?_⟩
    · cases hv; exact ⟨_, rfl, ev_ok ht y⟩
    · cases h
theorem tyOk_spec {t : TypeId} (h : tyOk P t = true) : (∃ d, P.underlying t = some d) ∧ ∃ i, P.info? t = some i := by
  unfold tyOk at h
  simp only [Bool.and_eq_true] at h
  exact ⟨Option.isSome_iff_exists.1 h.2, Option.isSome_iff_exists.1 h.1⟩
theorem arr1 {α : Type} {x : Array α} (h : x.size = 1) (d : α) : x = #[x.getD 0 d] := by
  apply Array.ext (by simp [h])
  intro i h1 h2
  have : i = 0 := by omega
  subst this; simp [h]
theorem arr2 {α : Type} {x : Array α} (h : x.size = 2) (d : α) : x = #[x.getD 0 d, x.getD 1 d] := by
  apply Array.ext (by simp [h])
  intro i h1 h2
  have : i = 0 ∨ i = 1 := by omega
  rcases this with rfl | rfl <;> simp [h]

theorem of_resU {o : Oper} {a : Act} {s : Sem Unit} {r : R} {K : V → H → Prop} {Q : Exit → Act → World → Prop} (hx : (execOp a.eval o).run P c.w = (do s; pure .skip : Sem Next).run P c.w) (hr : ResU P z c h s r) (hv : ∀ p v u nw, r = .ok p v u nw → v = .undef) (hX : X r h K) :
    o.wp P a c.w (Nx z c a o K) Q := by
  cases r with
  | fail => exact hX.elim
  | ok p v u nw =>
    obtain ⟨hp, hK⟩ := hX
    obtain ⟨c', h1, h2, h3⟩ := hr hp
    have := hv _ _ _ _ rfl
    subst this
    unfold Oper.wp
    rw [hx]
    simp only [Sem.run_bind, h1, Result.andThen_ok, Sem.run_pure]
    exact ⟨.undef, _, c', undef, hK, h2, h3, rfl, trivial, rfl⟩
theorem pStore_undef {agg : Bool} {sz : Nat} {v x : V} {g : G} : ∀ p w u nw, pStore agg sz v x g = .ok p w u nw → w = .undef := by
  intro p w u nw hp
  unfold pStore at hp
  split at hp
  · split at hp
    · split at hp
      · cases hp; rfl
      · cases hp
    · cases hp
  · split at hp
    · split at hp
      · split at hp
        · cases hp
        · cases hp; rfl
      · cases hp
    · cases hp
  · cases hp
theorem eqGuard_skip {op : BinOp} {t : TypeId} {x y : Operand} {u v : Value} {w : World} (h : (op == .eql || op == .neq) = false) : (eqGuard op t x y u v).run P w = .ok () w := by
  unfold eqGuard
  cases op <;> first | (cases h; done) | rfl
theorem eqGuard_run {op : BinOp} {t : TypeId} {x y : Operand} {u v : Value} {w : World} (h1 : u ≠ .nilIface) (h2 : ∀ p q, u = .agg p → v = .agg q → P.eqGuardType P.depth t = false) : (eqGuard op t x y u v).run P w = .ok () w := by
  have core : ((match (generalizing := false) u, v with
    | .nilIface, .nilIface => (if (match x with | .const _ => true | _ => false) || (match y with | .const _ => true | _ => false) then pure () else do
        if ← Op.eqGuardIn Op.maxDepth t u v then unsupported (.noEntry "binop/eql: two nil values of an interface type with methods, neither of them the literal nil") else pure ())
    | .agg _, .agg _ => (do
        if !(← program).eqGuardType (← program).depth t then pure ()
        else do
        if ← Op.eqGuardIn Op.maxDepth t u v then unsupported (.noEntry "binop/eql: two nil values of an interface type with methods, in a part of a struct or an array") else pure ())
    | _, _ => pure () : Sem Unit)).run P w = .ok () w := by
    cases u <;> first
      | exact absurd rfl h1
      | rfl
      | skip
    cases v <;> first
      | rfl
      | skip
    have := h2 _ _ rfl rfl
    simp [program, Sem.run, this]
  unfold eqGuard
  split <;> first
    | (rw [if_neg (show ¬ (!true) = true from by decide)]; exact core)
    | rfl
theorem binop_hx {o : Oper} {a : Act} {op : BinOp} {ty yt : TypeId} {x y : Operand} {w : World} (ho : o.op = .binOp op ty x y yt) (hg : (eqGuard op ty x y (a.eval x) (a.eval y)).run P w = .ok () w) :
    (execOp a.eval o).run P w = (do pure (.value (← binOp op ty (a.eval x) (a.eval y))) : Sem Next).run P w := by
  simp only [execOp, ho, Sem.run_bind, hg, Result.andThen_ok]
theorem neg_op {op : BinOp} (h : (op == .eql || op == .neq) = true) : op = if (op == .neq) then .neq else .eql := by
  cases op <;> first | rfl | cases h
theorem pick_res (I : Inv z c h) {x y w : V} {ux uy uw : Value} (hx : Rep c x ux) (hy : Rep c y uy) (hw : Rep c w uw) : Res P z c h (do pure (if ← asBool ux then uy else uw)) (pPick x y w) := by
  unfold pPick
  split
  · rename_i q
    refine Res.same I fun _ => ?_
    cases hx
    cases q
    · exact ⟨uw, by simp [asBool], hw⟩
    · exact ⟨uy, by simp [asBool], hy⟩
  · trivial

theorem veqN_kind (I : Inv z c h) {nk : NK} {x y : V} {ux : Value} (hx : Rep c x ux) (hn : veqN h.get nk x y ≠ none) : ux ≠ .nilIface ∧ ∀ p, ux ≠ .agg p := by
  have ptr : ∀ {x : V}, isPtr h.get x = true → Rep c x ux → ux ≠ .nilIface ∧ ∀ p, ux ≠ .agg p := by
    intro x hp hx
    obtain ⟨a, rfl⟩ := isPtr_rep I hx hp
    exact ⟨nofun, nofun⟩
  cases x <;> first
    | (exfalso; apply hn; cases nk <;> cases y <;> rfl)
    | skip
  case nils => cases hx; exact ⟨nofun, nofun⟩
  case nilp => cases hx; exact ⟨nofun, nofun⟩
  case nilm => cases hx; exact ⟨nofun, nofun⟩
  case slb => obtain ⟨_, _, rfl, _⟩ := hx; exact ⟨nofun, nofun⟩
  case sli => obtain ⟨_, _, rfl, _⟩ := hx; exact ⟨nofun, nofun⟩
  case sls => obtain ⟨_, _, rfl, _⟩ := hx; exact ⟨nofun, nofun⟩
  case sle => obtain ⟨_, _, _, _, rfl, _⟩ := hx; exact ⟨nofun, nofun⟩
  case pat => obtain ⟨_, _, _, rfl, _⟩ := hx; exact ⟨nofun, nofun⟩
  case ref i off idx =>
    cases hg : h.get i with
    | none => exfalso; apply hn; cases nk <;> cases y <;> simp [veqN, isPtr, hg]
    | some x => exact ptr (by simp [isPtr, hg]) hx
  case eref i sz k off idx =>
    cases hg : h.get i with
    | none => exfalso; apply hn; cases nk <;> cases y <;> simp [veqN, isPtr, hg]
    | some x => exact ptr (by simp [isPtr, hg]) hx
  case mp i =>
    cases hg : h.get i with
    | none => exfalso; apply hn; cases nk <;> cases y <;> simp [veqN, hg, isPtr]
    | some x =>
      obtain ⟨_, h2⟩ := hx
      cases hφ : c.φ i with
      | dead => exact absurd hφ (alive I hg)
      | nil => rw [hφ] at h2; exact h2.elim
      | «at» b s => rw [hφ] at h2; cases h2; exact ⟨nofun, nofun⟩

theorem eop_ok {o : Oper} {t : List V} {a : Act} {K : V → H → Prop} {Q : Exit → Act → World → Prop} (I : Inv z c h) (ht : Reps c t a.tmps.toList) (hE : EOp P o t h K) : o.wp P a c.w (Nx z c a o K) Q := by
  have e := fun x => ev_ok ht x
  unfold EOp at hE
  split at hE
  · rename_i x ho
    exact of_same I (by simp [execOp, ho]) (e x) hE
  · rename_i x ho
    exact of_same I (by simp [execOp, ho]) (e x) hE
  · rename_i x y w ho
    exact of_res (by simp [execOp, ho]) (pick_res I (e x) (e y) (e w)) hE
  · rename_i el ho
    exact of_res (by simp [execOp, ho]) (pAlloc_res (t := el) I) hE
  · rename_i el x ho
    exact of_res (s := Instr.box el (a.eval x)) (by simp [execOp, ho]) (pBox_res I (e x)) hE
  · rename_i ty parts ho
    split at hE
    · exact hE.elim
    · rename_i hb
      simp only [Bool.not_eq_true', Bool.not_eq_false] at hb
      have hp : parts.map (fun q => (q.1, a.eval q.2)) = ⟨parts.toList.map fun q => (q.1, a.eval q.2)⟩ := by apply Array.ext'; simp
      have := pBuild_res (P := P) I (t := ty) (parts := parts.toList.map fun q => (q.1, ev t q.2)) (by rw [List.map_map]; exact hb) (parts_ok ht parts.toList)
      rw [List.map_map] at this
      exact of_res (by simp only [execOp, ho]; rw [← hp]) this hE
  · rename_i ty len parts ho
    split at hE
    · rename_i hc
      obtain ⟨h1, h2, h3, h4⟩ := hc
      have hp : parts.map (fun q => (q.1, a.eval q.2)) = ⟨((parts.toList.map fun q => a.eval q.2).zipIdx 0).map fun x => (x.2, x.1)⟩ := by
        apply Array.ext'
        rw [Array.toList_map]
        exact zip_range a.eval parts.toList 0 len (by rw [h1, List.range_eq_range'])
      have hr : Reps c (parts.toList.map fun q => ev t q.2) (parts.toList.map fun q => a.eval q.2) := by
        have := evs_ok ht (parts.toList.map (·.2))
        rw [List.map_map, List.map_map] at this
        exact this
      exact of_res (by simp only [execOp, ho]; rw [← hp]) (pBuildSlice_res (P := P) I (t := ty) (len := len) h2 h3 h4 hr) hE
    · exact hE.elim
  · rename_i ty x ho
    split at hE
    · rename_i hty
      obtain ⟨h1, h2⟩ := tyOk_spec hty
      exact of_res (by simp [execOp, ho]) (pLoad_res I h1 h2 (e x)) hE
    · exact hE.elim
  · rename_i ty x y ho
    split at hE
    · rename_i hty
      simp only [Bool.and_eq_true] at hty
      exact of_resU (by simp [execOp, ho]) (pStore_res I hty.1 hty.2 (e x) (e y)) pStore_undef hE
    · exact hE.elim
  · rename_i x ho
    cases hr : pNil (ev t x) h.get with
    | fail => rw [hr] at hE; exact hE.elim
    | ok p v u nw =>
      rw [hr] at hE
      obtain ⟨hp, hK⟩ := hE
      obtain ⟨h1, rfl, rfl, rfl⟩ := pNil_res (P := P) I (e x) o x a.eval ho rfl hr
      rw [app0] at hK
      exact of_same I h1 (e x) hK
  · rename_i op ty x y yt ho
    split at hE
    · rename_i hop
      have hne := neg_op hop
      have go : ∀ {q : Option Bool}, a.eval x ≠ .nilIface → (∀ p q, a.eval x = .agg p → a.eval y = .agg q → P.eqGuardType P.depth ty = false) →
          (∀ b, q = some b → (binOp (if (op == .neq) then .neq else .eql) ty (a.eval x) (a.eval y)).run P c.w = .ok (.bool (if (op == .neq) then !b else b)) c.w) →
          X (pNot (op == .neq) q) h K → o.wp P a c.w (Nx z c a o K) Q := by
        intro q h1 h2 h3 hX
        refine of_res (binop_hx ho (eqGuard_run h1 h2)) (pNot_res I (neg := (op == .neq)) fun b hb => ?_) hX
        rw [← hne] at h3
        exact h3 b hb
      have nn : ∀ {nk : NK} {x y : Operand}, (∃ b, veqN h.get nk (ev t x) (ev t y) = some b) → a.eval x ≠ .nilIface ∧ ∀ p, a.eval x ≠ .agg p := fun ⟨b, hb⟩ => veqN_kind I (e _) (by rw [hb]; simp)
      have goN : ∀ {nk : NK}, (match nk with | .ptr => ∃ e, P.underlying ty = some (.pointer e) | .slice => ∃ e, P.underlying ty = some (.slice e) | .map => ∃ k e, P.underlying ty = some (.map k e)) →
          X (pNot (op == .neq) (veqN h.get nk (ev t x) (ev t y))) h K → o.wp P a c.w (Nx z c a o K) Q := by
        intro nk hk hX
        cases hq : veqN h.get nk (ev t x) (ev t y) with
        | none => rw [hq] at hX; exact hX.elim
        | some b =>
          obtain ⟨n1, n2⟩ := nn ⟨b, hq⟩
          rw [hq] at hX
          exact go n1 (fun p q hp _ => absurd hp (n2 p)) (fun b' hb' => by cases hb'; exact veqN_run I hk (e x) (e y) hq _) hX
      split at hE
      · rename_i d hu; exact goN (nk := .ptr) ⟨_, hu⟩ hE
      · rename_i d hu; exact goN (nk := .slice) ⟨_, hu⟩ hE
      · rename_i k d hu; exact goN (nk := .map) ⟨_, _, hu⟩ hE
      · rename_i n el hu
        split at hE
        · rename_i k0 hel
          split at hE
          · rename_i hc
            cases hq : veqA n (ev t x) (ev t y) with
            | none => rw [hq] at hE; exact hE.elim
            | some b =>
              obtain ⟨⟨xs, ys, n1, n2⟩, _⟩ := veqA_run (P := P) hu hel hc.1 (e x) (e y) hq false
              rw [hq] at hE
              exact go (by rw [n1]; nofun) (fun _ _ _ _ => hc.2) (fun b' hb' => by cases hb'; exact (veqA_run (P := P) hu hel hc.1 (e x) (e y) hq _).2) hE
          · exact hE.elim
        · exact hE.elim
      · cases hq : veqI (ev t x) (ev t y) with
        | none => rw [hq] at hE; exact hE.elim
        | some b =>
          have ex : ∃ k n, a.eval x = .int k n := by
            have h1 := e x
            revert h1 hq
            cases ev t x <;> intro hq h1 <;> first | (cases hq; done) | exact ⟨_, _, h1⟩
          obtain ⟨k, n, hk⟩ := ex
          rw [hq] at hE
          exact go (by rw [hk]; nofun) (fun _ _ hp _ => by rw [hk] at hp; cases hp) (fun b' hb' => by cases hb'; exact veqI_run (P := P) (e x) (e y) hq _) hE
      · cases hq : veqS (ev t x) (ev t y) with
        | none => rw [hq] at hE; exact hE.elim
        | some b =>
          have ex : ∃ n, a.eval x = .string n := by
            have h1 := e x
            revert h1 hq
            cases ev t x <;> intro hq h1 <;> first | (cases hq; done) | exact ⟨_, h1⟩
          obtain ⟨n, hk⟩ := ex
          rw [hq] at hE
          exact go (by rw [hk]; nofun) (fun _ _ hp _ => by rw [hk] at hp; cases hp) (fun b' hb' => by cases hb'; exact veqS_run (P := P) (e x) (e y) hq _) hE
      · rename_i hu
        cases hq : veqB (ev t x) (ev t y) with
        | none => rw [hq] at hE; exact hE.elim
        | some b =>
          have ex : ∃ n, a.eval x = .bool n := by
            have h1 := e x
            revert h1 hq
            cases ev t x <;> intro hq h1 <;> first | (cases hq; done) | exact ⟨_, h1⟩
          obtain ⟨n, hk⟩ := ex
          rw [hq] at hE
          exact go (by rw [hk]; nofun) (fun _ _ hp _ => by rw [hk] at hp; cases hp) (fun b' hb' => by cases hb'; exact veqB_run (P := P) (e x) (e y) hq hu _) hE
      · exact hE.elim
    · rename_i hop
      refine of_res (binop_hx ho (eqGuard_skip ?_)) (pBin_res I (e x) (e y)) hE
      simpa using hop
  · rename_i op xt x ho
    exact of_res (by simp [execOp, ho]) (pUn_res I (e x) op) hE
  · rename_i src dst x ho
    exact of_res (by simp [execOp, ho]) (pConv_res I (e x)) hE
  · rename_i ty x lo hi ho
    obtain ⟨l1, l2⟩ := opt_ok ht lo
    obtain ⟨g1, g2⟩ := opt_ok ht hi
    split at hE
    · rename_i n el hu
      split at hE
      · rename_i hz
        exact of_res (by simp [execOp, ho]) (pSliceArr_res I hu hz (e x) l1 l2 g1 g2) hE
      · exact hE.elim
    · rename_i hu
      exact of_res (by simp [execOp, ho]) (pSliceStr_res I hu (e x) l1 l2 g1 g2) hE
    · rename_i el hu
      split at hE
      · exact hE.elim
      · rename_i hz
        exact of_res (by simp [execOp, ho]) (pSliceSl_res I hu hz (e x) l1 l2 g1 g2) hE
    · exact hE.elim
  · rename_i s x f ho
    split at hE
    · rename_i fs hu
      split at hE
      · rename_i d hd
        split at hE
        · exact hE.elim
        · rename_i hz
          exact of_res (by simp [execOp, ho]) (pFieldAddr_res I hu hd hz (e x)) hE
      · exact hE.elim
    · exact hE.elim
  · rename_i s x f ho
    split at hE
    · rename_i fs hu
      split at hE
      · rename_i d hd
        split at hE
        · exact hE.elim
        · rename_i hz
          simp only [Bool.not_eq_true', Bool.not_eq_false] at hz
          obtain ⟨h1, h2⟩ := tyOk_spec hz
          exact of_res (by simp [execOp, ho]) (pField_res I hu hd h1 h2 (e x)) hE
      · exact hE.elim
    · exact hE.elim
  · rename_i ty x i ho
    split at hE
    · rename_i n el hu
      split at hE
      · rename_i hz
        exact of_res (by simp [execOp, ho]) (pIndexArr_res I hu hz (e x) (e i)) hE
      · exact hE.elim
    · rename_i el hu
      split at hE
      · exact hE.elim
      · rename_i hz
        exact of_res (by simp [execOp, ho]) (pIndexSl_res I hu (e x) (e i) hz) hE
    · exact hE.elim
  · rename_i ty x i ho
    split at hE
    · rename_i hu
      exact of_res (by simp [execOp, ho]) (pIndexStr_res I hu (e x) (e i)) hE
    · rename_i n el hu
      split at hE
      · rename_i hz
        exact of_res (by simp [execOp, ho]) (pIndexAgg_res I hu hz.1 hz.2.1 hz.2.2 (e x) (e i)) hE
      · exact hE.elim
    · exact hE.elim
  · rename_i x i ho
    exact of_res (by simp [execOp, ho]) (pExtract_res I (e x) i) hE
  · rename_i ty x ho
    split at hE
    · rename_i n el hu
      exact of_res (by simp [execOp, ho]) (pS2A_res I hu (e x)) hE
    · exact hE.elim
  · rename_i ty l cp ho
    split at hE
    · exact hE.elim
    · rename_i hc
      simp only [Bool.not_eq_true', Bool.not_eq_false, Bool.and_eq_true] at hc
      exact of_res (by simp [execOp, ho]) (pMake_res I hc.1 hc.2 (e l) (e cp)) hE
  · rename_i f first caps ho
    split at hE
    · rename_i h0
      refine of_same (v := .fn f (caps.toList.map (ev t))) I (u := .func (.func f) #[] ⟨caps.toList.map a.eval⟩) ?_ ⟨_, rfl, evs_ok ht _⟩ hE
      have : first = #[] := Array.eq_empty_of_size_eq_zero h0
      subst this
      have hc : caps.map a.eval = ⟨caps.toList.map a.eval⟩ := by apply Array.ext'; simp
      simp [execOp, ho, Instr.makeFunc, hc]
    · exact hE.elim
  · rename_i cl ho
    have hb : ∀ (b : Builtin) (s : Sem Value), cl.callee = .builtin b → (∀ consts, builtin b cl.argTypes o.type consts (cl.args.map a.eval) = (do pure (.value (← s)))) →
        (execOp a.eval o).run P c.w = (do pure (.value (← s)) : Sem Next).run P c.w := by
      intro b s h1 h2
      simp only [execOp, ho, resolve, h1, Sem.run_bind, Sem.run_pure, Result.andThen_ok, invoke, h2]
    have e1 : cl.args.size = 1 → cl.args.map a.eval = #[a.eval (cl.args.getD 0 (.tmp 0))] := by
      intro h; conv => lhs; rw [arr1 h (.tmp 0)]
      simp
    have e2 : cl.args.size = 2 → cl.args.map a.eval = #[a.eval (cl.args.getD 0 (.tmp 0)), a.eval (cl.args.getD 1 (.tmp 0))] := by
      intro h; conv => lhs; rw [arr2 h (.tmp 0)]
      simp
    split at hE
    · rename_i hc
      split at hE
      · rename_i hs
        have t1 := arr1 hs.2 (0 : TypeId)
        split at hE
        · rename_i hu
          exact of_res (hb _ _ hc fun _ => by rw [e1 hs.1, t1]; rfl) (pLenStr_res I hu (e _)) hE
        · rename_i el hu
          exact of_res (hb _ _ hc fun _ => by rw [e1 hs.1, t1]; rfl) (pLenSl_res I hu (e _)) hE
        · rename_i k el hu
          exact of_res (hb _ _ hc fun _ => by rw [e1 hs.1, t1]; rfl) (pLenMap_res I hu (e _)) hE
        · exact hE.elim
      · exact hE.elim
    · rename_i hc
      split at hE
      · rename_i hs
        obtain ⟨h1, h2, h3, h4, h5⟩ := hs
        have t2 := arr2 h2 (0 : TypeId)
        exact of_res (hb _ _ hc fun _ => by rw [e2 h1, t2]; rfl) (pAppend_res I h3 h4 h5 (e _) (e _)) hE
      · exact hE.elim
    · rename_i hc
      split at hE
      · rename_i hs
        exact of_res (hb _ _ hc fun _ => by rw [e2 hs]; rfl) (pMin_res I (e _) (e _) _ _) hE
      · exact hE.elim
    · rename_i hc
      split at hE
      · rename_i hs
        exact of_res (hb _ _ hc fun _ => by rw [e2 hs]; rfl) (pMax_res I (e _) (e _) _ _) hE
      · exact hE.elim
    · rename_i hc
      split at hE
      · exact hE.elim
      · rename_i hs
        simp only [Bool.not_eq_true', Bool.not_eq_false, Bool.and_eq_true, beq_iff_eq] at hs
        obtain ⟨⟨⟨h1, h2⟩, h3⟩, h4⟩ := hs
        have t2 := arr2 h2 (0 : TypeId)
        exact of_res (hb _ _ hc fun _ => by rw [e2 h1]; rfl) (pCopy_res I (by rw [t2]; rfl) h3 h4 (e _) (e _)) hE
    · rename_i f hc
      split at hE
      · rename_i g caps hf
        obtain ⟨T, ρ, ps, hT, F, hK⟩ := hE
        have hr := e f
        rw [hf] at hr
        obtain ⟨vs, hv, hvs⟩ := hr
        have hcall := ecall_ok (P := P) I hT F (Reps.app (evs_ok ht cl.args.toList) hvs)
        have hcb : callable P g = true := by rw [← F.f]; exact hT.1
        have hx : (execOp a.eval o).run P c.w = .ok (.enter g ⟨cl.args.toList.map a.eval ++ vs⟩) c.w := by
          have : (cl.args.map a.eval ++ (⟨vs⟩ : Array Value)) = ⟨cl.args.toList.map a.eval ++ vs⟩ := by apply Array.ext'; simp
          simp only [execOp, ho, resolve, hc, hv, Deferred.ofValue, Sem.run_bind, Sem.run_pure, Result.andThen_ok, invoke, Array.empty_append, run_callFunc hcb, this]
        unfold Oper.wp
        rw [hx]
        refine hcall.mono ?_
        rintro e' w' ⟨u, c3, rfl, rfl, g1, g2, g3⟩
        exact ⟨_, _, c3, u, hK, g1, g2, rfl, g3, rfl⟩
      · exact hE.elim
    · exact hE.elim
  · exact hE.elim
end
end Go.AM
end

section
/- AM, part 27: an operation looks at nothing but its operands and the blocks that they name. -/
namespace Go.AM
section
variable {P : Program}

theorem deepen1_loc {g g' : G} {v : V} (h : ∀ i ∈ idsV v, g' i = g i) : deepen1 g' v = deepen1 g v := by
  cases v <;> first
    | rfl
    | (simp only [deepen1]; rw [h _ (by simp [idsV])])
theorem deepenL_loc {g g' : G} : ∀ {l : List V}, (∀ i ∈ idsL l, g' i = g i) → deepenL g' l = deepenL g l
  | [], _ => rfl
  | v :: r, h => by
    simp only [deepenL]
    rw [deepen1_loc (fun i hi => h i (by simp [idsL, hi])), deepenL_loc (fun i hi => h i (by simp [idsL, hi]))]
theorem deepen_loc {g g' : G} {v : V} (h : ∀ i ∈ idsV v, g' i = g i) : deepen g' v = deepen g v := by
  cases v
  case agg e => simp only [deepen]; rw [deepenL_loc (fun i hi => h i (by simpa [idsV] using hi))]
  all_goals exact deepen1_loc h
theorem deepens_loc {g g' : G} : ∀ {l : List V}, (∀ i ∈ idsL l, g' i = g i) → deepens g' l = deepens g l
  | [], _ => rfl
  | v :: r, h => by
    simp only [deepens]
    rw [deepen_loc (fun i hi => h i (by simp [idsL, hi])), deepens_loc (fun i hi => h i (by simp [idsL, hi]))]
theorem rwOf_loc {g g' : G} {ek : EK} {sz : Nat} {v : V} (h : ∀ i ∈ idsV v, g' i = g i) : rwOf g' ek sz v = rwOf g ek sz v := by
  cases v <;> first
    | rfl
    | (simp only [rwOf]; rw [h _ (by simp [idsV])])
theorem al_loc {g g' : G} {i : Nat} {r : R} (h : g' i = g i) : al g' i r = al g i r := by unfold al; rw [h]
theorem pLoad_loc {g g' : G} {agg : Bool} {sz : Nat} {v : V} (h : ∀ i ∈ idsV v, g' i = g i) : pLoad agg sz v g' = pLoad agg sz v g := by
  cases v <;> first
    | rfl
    | (simp only [pLoad]; rw [h _ (by simp [idsV])])
theorem pStore_loc {g g' : G} {agg : Bool} {sz : Nat} {v x : V} (h : ∀ i ∈ idsV v, g' i = g i) (hx : ∀ i ∈ idsV x, g' i = g i) : pStore agg sz v x g' = pStore agg sz v x g := by
  cases v <;> first
    | rfl
    | (simp only [pStore]; rw [h _ (by simp [idsV])]; done)
    | (simp only [pStore]; rw [h _ (by simp [idsV]), deepen_loc hx])
theorem pNil_loc {g g' : G} {v : V} (h : ∀ i ∈ idsV v, g' i = g i) : pNil v g' = pNil v g := by
  cases v <;> first
    | rfl
    | exact al_loc (h _ (by simp [idsV]))
theorem isPtr_loc {g g' : G} {v : V} (h : ∀ i ∈ idsV v, g' i = g i) : isPtr g' v = isPtr g v := by
  cases v <;> first
    | rfl
    | (simp only [isPtr]; rw [h _ (by simp [idsV])])
theorem veqN_loc {g g' : G} {nk : NK} {x y : V} (h : ∀ i ∈ idsV x, g' i = g i) (hy : ∀ i ∈ idsV y, g' i = g i) : veqN g' nk x y = veqN g nk x y := by
  have h1 := isPtr_loc h
  have h2 := isPtr_loc hy
  have h3 : ∀ i, x = .mp i → g' i = g i := fun i e => h i (by rw [e]; simp [idsV])
  unfold veqN
  split <;> first
    | rfl
    | (rw [h1]; done)
    | (rw [h2]; done)
    | (rw [h3 _ rfl]; done)
    | skip
theorem pFieldAddr_loc {g g' : G} {off : Nat} {v : V} (h : ∀ i ∈ idsV v, g' i = g i) : pFieldAddr off v g' = pFieldAddr off v g := by
  unfold pFieldAddr
  split <;> first
    | rfl
    | exact al_loc (h _ (by simp [idsV]))
theorem pIndexArr_loc {g g' : G} {n : Nat} {v x : V} (h : ∀ i ∈ idsV v, g' i = g i) : pIndexArr n v x g' = pIndexArr n v x g := by
  unfold pIndexArr
  split <;> first
    | rfl
    | exact al_loc (h _ (by simp [idsV]))
theorem pIndexSl_loc {g g' : G} {n : Nat} {v x : V} (h : ∀ i ∈ idsV v, g' i = g i) : pIndexSl n v x g' = pIndexSl n v x g := by
  unfold pIndexSl
  split <;> first
    | rfl
    | (rw [al_loc (h _ (by simp [idsV]))])
theorem pLenSl_loc {g g' : G} {v : V} (h : ∀ i ∈ idsV v, g' i = g i) : pLenSl v g' = pLenSl v g := by
  unfold pLenSl
  split <;> first
    | rfl
    | exact al_loc (h _ (by simp [idsV]))
theorem pLenMap_loc {g g' : G} {v : V} (h : ∀ i ∈ idsV v, g' i = g i) : pLenMap v g' = pLenMap v g := by
  unfold pLenMap
  split <;> first
    | rfl
    | (rw [h _ (by simp [idsV])])
theorem pSliceSl_loc {g g' : G} {n : Nat} {v : V} {lo hi : Option V} (h : ∀ i ∈ idsV v, g' i = g i) : pSliceSl n v lo hi g' = pSliceSl n v lo hi g := by
  unfold pSliceSl
  split <;> first
    | rfl
    | (split <;> first | rfl | (rw [al_loc (h _ (by simp [idsV]))]))
theorem pSliceArr_loc {g g' : G} {n : Nat} {v : V} {lo hi : Option V} (h : ∀ i ∈ idsV v, g' i = g i) : pSliceArr n v lo hi g' = pSliceArr n v lo hi g := by
  unfold pSliceArr
  split <;> first
    | rfl
    | (split <;> first | rfl | exact al_loc (h _ (by simp [idsV])))
theorem pAppend_loc {g g' : G} {ek : EK} {sz b n : Nat} {s x : V} (h : ∀ i ∈ idsV s, g' i = g i) (hx : ∀ i ∈ idsV x, g' i = g i) : pAppend ek sz b s x g' n = pAppend ek sz b s x g n := by
  unfold pAppend
  rw [rwOf_loc hx]
  cases rwOf g ek sz x with
  | none => rfl
  | some q =>
    simp only
    cases s <;> first
      | rfl
      | (simp only; rw [h _ (by simp [idsV])])
theorem pCopy_loc {g g' : G} {s x : V} (h : ∀ i ∈ idsV s, g' i = g i) (hx : ∀ i ∈ idsV x, g' i = g i) : pCopy s x g' = pCopy s x g := by
  unfold pCopy
  cases s <;> first
    | rfl
    | skip
  simp only
  rw [h _ (by simp [idsV])]
  split <;> first
    | rfl
    | (split <;> first | rfl | (rw [rwOf_loc hx]))
theorem pConv_loc {g g' : G} {ck : CK} {v : V} {n n' : Nat} (h : ∀ i ∈ idsV v, g' i = g i) (hn : ck = .toBytes → n' = n) : pConv ck v g' n' = pConv ck v g n := by
  cases ck
  case toStr => cases v <;> first | rfl | (simp only [pConv]; rw [rwOf_loc h])
  case same => cases v <;> first | rfl | (simp only [pConv]; rw [h _ (by simp [idsV])])
  case toBytes => rw [hn rfl]; cases v <;> rfl
  all_goals (cases v <;> rfl)
theorem pBuildSlice_loc {g g' : G} {ek : EK} {sz len n : Nat} {xs : List V} (h : ∀ i ∈ idsL xs, g' i = g i) : pBuildSlice ek sz len xs g' n = pBuildSlice ek sz len xs g n := by
  unfold pBuildSlice; rw [deepens_loc h]

theorem mem_idsL {v : V} {l : List V} (h : v ∈ l) {i : Nat} (hi : i ∈ idsV v) : i ∈ idsL l := by
  induction l with
  | nil => cases h
  | cons w r ih =>
    simp only [idsL, List.mem_append]
    rcases List.mem_cons.1 h with rfl | h
    · exact .inl hi
    · exact .inr (ih h)
theorem getD_mem {α : Type} {x : Array α} {i : Nat} (h : i < x.size) (d : α) : x.getD i d ∈ x.toList := by
  simp [Array.getD_eq_getD_getElem?, h]
theorem ckP_bytes {src dst : TypeId} (h : ckP P src dst = .toBytes) : isSl P dst = true := by
  have := ckP_inv (P := P) src dst
  rw [h] at this
  obtain ⟨e, _, h2, _⟩ := this
  unfold isSl; rw [h2]

theorem opR_loc {o : Oper} {t t' : List V} {g g' : G} {n n' : Nat} (ht : ∀ x ∈ opds o.op, ev t' x = ev t x) (hg : ∀ i ∈ idsL ((opds o.op).map (ev t)), g' i = g i) (hn : allocy P o.op = true → n' = n) :
    opR P o t' g' n' = opR P o t g n := by
  have hi : ∀ x ∈ opds o.op, ∀ i ∈ idsV (ev t x), g' i = g i := fun x hx i hi' => hg i (mem_idsL (List.mem_map.2 ⟨x, hx, rfl⟩) hi')
  have om : ∀ x : Option Operand, (∀ y ∈ x.toList, ev t' y = ev t y) → x.map (ev t') = x.map (ev t) := by
    intro x hx
    cases x with
    | none => rfl
    | some y => simp [hx y (by simp)]
  unfold opR
  split
  · rename_i e ho; rw [hn (by rw [ho]; rfl)]
  · rename_i e x ho
    rw [hn (by rw [ho]; rfl), ht x (by rw [ho]; simp [opds])]
  · rename_i ty len parts ho
    have e1 : (parts.toList.map fun q => ev t' q.2) = parts.toList.map fun q => ev t q.2 := by
      apply List.map_congr_left
      intro q hq
      exact ht q.2 (by rw [ho]; exact List.mem_map.2 ⟨q, hq, rfl⟩)
    rw [e1, hn (by rw [ho]; rfl), pBuildSlice_loc]
    intro i hi'
    refine hg i ?_
    rw [ho]
    simp only [opds, List.map_map]
    exact hi'
  · rename_i ty x ho
    have hm : x ∈ opds o.op := by rw [ho]; simp [opds]
    rw [ht x hm, pLoad_loc (hi x hm)]
  · rename_i ty x y ho
    have hm : x ∈ opds o.op := by rw [ho]; simp [opds]
    have hm2 : y ∈ opds o.op := by rw [ho]; simp [opds]
    rw [ht x hm, ht y hm2, pStore_loc (hi x hm) (hi y hm2)]
  · rename_i x ho
    have hm : x ∈ opds o.op := by rw [ho]; simp [opds]
    rw [ht x hm, pNil_loc (hi x hm)]
  · rename_i op ty x y yt ho
    have hm : x ∈ opds o.op := by rw [ho]; simp [opds]
    have hm2 : y ∈ opds o.op := by rw [ho]; simp [opds]
    rw [ht x hm, ht y hm2]
    simp only [veqN_loc (hi x hm) (hi y hm2)]
  · rename_i src dst x ho
    have hm : x ∈ opds o.op := by rw [ho]; simp [opds]
    rw [ht x hm]
    exact pConv_loc (hi x hm) (fun hc => hn (by rw [ho]; exact ckP_bytes hc))
  · rename_i ty x lo hi' ho
    have hm : x ∈ opds o.op := by rw [ho]; simp [opds]
    rw [ht x hm, om lo (fun y hy => ht y (by rw [ho]; simp only [opds]; simp; right; left; simpa using hy)), om hi' (fun y hy => ht y (by rw [ho]; simp only [opds]; simp; right; right; simpa using hy))]
    simp only [pSliceArr_loc (hi x hm), pSliceSl_loc (hi x hm)]
  · rename_i s x f ho
    have hm : x ∈ opds o.op := by rw [ho]; simp [opds]
    rw [ht x hm]
    simp only [pFieldAddr_loc (hi x hm)]
  · rename_i ty x i ho
    have hm : x ∈ opds o.op := by rw [ho]; simp [opds]
    have hm2 : i ∈ opds o.op := by rw [ho]; simp [opds]
    rw [ht x hm, ht i hm2]
    simp only [pIndexArr_loc (hi x hm), pIndexSl_loc (hi x hm)]
  · rename_i ty x ho
    have hm : x ∈ opds o.op := by rw [ho]; simp [opds]
    rw [ht x hm]
    unfold pS2A
    simp only [deepen1_loc (hi x hm)]
  · rename_i ty l cc ho
    have hm : l ∈ opds o.op := by rw [ho]; simp [opds]
    have hm2 : cc ∈ opds o.op := by rw [ho]; simp [opds]
    rw [ht l hm, ht cc hm2, hn (by rw [ho]; rfl)]
  · rename_i cl ho
    have hmem : ∀ i, i < cl.args.size → cl.args.getD i (.tmp 0) ∈ opds o.op := by
      intro i hi'
      have := getD_mem hi' (.tmp 0 : Operand)
      rw [ho]
      simp only [opds]
      split
      · exact List.mem_cons_of_mem _ this
      · exact this
    split
    · split
      · rename_i hs
        have hm := hmem 0 (by omega)
        rw [ht _ hm]
        simp only [pLenSl_loc (hi _ hm), pLenMap_loc (hi _ hm)]
      · rfl
    · rename_i hc
      split
      · rename_i hs
        have hm := hmem 0 (by omega)
        have hm2 := hmem 1 (by omega)
        rw [ht _ hm, ht _ hm2, pAppend_loc (hi _ hm) (hi _ hm2), hn (by rw [ho]; simp only [allocy, hc])]
      · rfl
    · split
      · rename_i hs
        rw [ht _ (hmem 0 (by omega)), ht _ (hmem 1 (by omega))]
      · rfl
    · split
      · rename_i hs
        rw [ht _ (hmem 0 (by omega)), ht _ (hmem 1 (by omega))]
      · rfl
    · split
      · rfl
      · rename_i hs
        simp only [Bool.not_eq_true', Bool.not_eq_false, Bool.and_eq_true, beq_iff_eq] at hs
        have hm := hmem 0 (by omega)
        have hm2 := hmem 1 (by omega)
        rw [ht _ hm, ht _ hm2, pCopy_loc (hi _ hm) (hi _ hm2)]
    · rfl
  · rfl
end
end Go.AM
end
