/- A machine of our own for Go code without shared memory: one step of it stands for the model's steps. Part of the proof; no condition of its own. -/
import Derived.Test.YtmgjmdlmnbjaiaaMa
import Derived.ChangeKeysEq
import Derived.Laws.AppendOwn
import Derived.Great.BuildSlice
import Derived.Laws.MakeOwn
import Derived.Laws.IdiomCopy
import Derived.Laws.BytesArg
import Derived.Laws.IdiomStrings

section
/- AM, part 7: the operations that only compute, continued. -/
namespace Go.AM
section
variable {P : Program} {z : Ctx0} {c : Cx} {h : H}

theorem bs_size (l : List UInt8) : (bs l).size = l.length := rfl
theorem bs_data (l : List UInt8) : (bs l).data.toList = l := rfl
theorem toList_loop (s : ByteArray) : ∀ (n i : Nat) (r : List UInt8), s.size - i = n → ByteArray.toList.loop s i r = r.reverse ++ s.data.toList.drop i
  | 0, i, r, h => by
    have hi : s.size ≤ i := by omega
    have hi' : s.data.toList.length ≤ i := by simpa using hi
    rw [ByteArray.toList.loop, if_neg (by omega), List.drop_eq_nil_of_le hi', List.append_nil]
  | n + 1, i, r, h => by
    have hi : i < s.size := by omega
    have hi' : i < s.data.toList.length := by simpa using hi
    rw [ByteArray.toList.loop, if_pos hi, toList_loop s n (i + 1) _ (by omega), List.reverse_cons, List.append_assoc]
    congr 1
    rw [List.drop_eq_getElem_cons hi']
    congr 1
    have : s.get! i = s.data[i]! := rfl
    rw [this, getElem!_pos s.data i (by simpa using hi')]
    simp
theorem bs_toList (l : List UInt8) : (bs l).toList = l := by
  unfold ByteArray.toList
  rw [toList_loop (bs l) (bs l).size 0 [] (by simp)]
  simp [bs_data]
theorem bs_get (l : List UInt8) (i : Nat) (hi : i < l.length) : (bs l)[i]? = some (l.getD i 0) := by
  have : i < (bs l).size := hi
  rw [getElem?_pos (bs l) i this]
  simp only [List.getD, List.getElem?_eq_getElem hi, Option.getD_some]
  rfl
theorem bs_extract (l : List UInt8) (a b : Nat) : (bs l).extract a b = bs ((l.drop a).take (b - a)) := by
  apply ByteArray.ext
  apply Array.ext'
  rw [ByteArray.data_extract]
  simp only [bs_data, Array.toList_extract]
theorem bs_append (a b : List UInt8) : bs a ++ bs b = bs (a ++ b) := by
  apply ByteArray.ext
  apply Array.ext'
  simp [bs]

theorem pIndexStr_res (I : Inv z c h) {t : TypeId} (ht : P.underlying t = some .string) {v x : V} {u ux : Value} (hv : Rep c v u) (hx : Rep c x ux) :
    Res P z c h (Instr.index t u ux) (pIndexStr v x) := by
  unfold pIndexStr
  split
  · rename_i s ik k
    refine Res.same I fun hp => ?_
    cases hx; cases hv
    refine ⟨_, ?_, rfl⟩
    simp [Instr.index, asIntOf, run_underlying ht, hp.1, bs_get s k.toNat (toNat_lt hp.1 hp.2)]
  · trivial

theorem pIndexAgg_res (I : Inv z c h) {t e : TypeId} {n : Nat} (ht : P.underlying t = some (.array n e)) (hz : szP P e = 1) (hu : P.underlying e ≠ none) (hag : aggP P e = false) {v x : V} {u ux : Value} (hv : Rep c v u) (hx : Rep c x ux) :
    Res P z c h (Instr.index t u ux) (pIndexAgg n v x) := by
  obtain ⟨d, hd⟩ := Option.ne_none_iff_exists'.1 hu
  obtain ⟨i, hi⟩ := szP_some (P := P) (t := e) (by omega)
  unfold pIndexAgg
  split
  · rename_i m l ik k
    split
    · rename_i hm
      refine Res.same I fun hp => ?_
      cases hx
      obtain ⟨cs, rfl, b, h1, h2, h3⟩ := hv
      cases h3
      subst hm
      have hk : k.toNat < l.length := by rw [h1]; exact toNat_lt hp.1 hp.2
      have hg := byteCells_get l k.toNat hk
      refine ⟨_, ?_, rfl⟩
      simp only [List.append_nil] at h2
      subst h2
      simp [Instr.index, asIntOf, run_underlying ht, hp.1, hp.2, run_sizeOf' hi, hz, part, aggP_run hd, hag, hg]
    · trivial
  · rename_i ak m l ik k
    split
    · rename_i hm
      refine Res.same I fun hp => ?_
      cases hx
      obtain ⟨cs, rfl, b, h1, h2, h3⟩ := hv
      cases h3
      subst hm
      have hk : k.toNat < l.length := by rw [h1]; exact toNat_lt hp.1 hp.2
      have hg := intCells_get ak l k.toNat hk
      refine ⟨_, ?_, rfl⟩
      simp only [List.append_nil] at h2
      subst h2
      simp [Instr.index, asIntOf, run_underlying ht, hp.1, hp.2, run_sizeOf' hi, hz, part, aggP_run hd, hag, hg]
    · trivial
  · trivial

theorem pLenStr_res (I : Inv z c h) {t ty : TypeId} (ht : P.underlying t = some .string) {v : V} {u : Value} (hv : Rep c v u) :
    Res P z c h (Builtin.len_ #[t] ty #[u]) (pLenStr v) := by
  unfold pLenStr
  split
  · refine Res.same I fun _ => ?_
    cases hv
    exact ⟨_, by simp [Builtin.len_, run_underlying ht, bs_size]; rfl, rfl⟩
  · trivial
theorem run_len_slice {t e ty : TypeId} (ht : P.underlying t = some (.slice e)) (a : Option Addr) (n cap : Nat) (w : World) :
    (Builtin.len_ #[t] ty #[.slice a n cap]).run P w = .ok (.int .i64 n) w := by
  simp [Builtin.len_, run_underlying ht, goInt]
theorem pLenSl_res (I : Inv z c h) {t e ty : TypeId} (ht : P.underlying t = some (.slice e)) {v : V} {u : Value} (hv : Rep c v u) :
    Res P z c h (Builtin.len_ #[t] ty #[u]) (pLenSl v h.get) := by
  unfold pLenSl
  split
  · refine Res.same I fun _ => ?_
    cases hv
    exact ⟨_, run_len_slice ht _ _ _ _, rfl⟩
  · refine Res.same I fun _ => ?_
    obtain ⟨a, cap, rfl, _⟩ := hv
    exact ⟨_, run_len_slice ht _ _ _ _, rfl⟩
  · refine Res.same I fun _ => ?_
    obtain ⟨a, cap, rfl, _⟩ := hv
    exact ⟨_, run_len_slice ht _ _ _ _, rfl⟩
  · refine Res.same I fun _ => ?_
    obtain ⟨a, cap, rfl, _⟩ := hv
    exact ⟨_, run_len_slice ht _ _ _ _, rfl⟩
  · refine Res.same I fun _ => ?_
    obtain ⟨_, _, a, cap, rfl, _⟩ := hv
    exact ⟨_, run_len_slice ht _ _ _ _, rfl⟩
  · rename_i i s lo n
    refine Res.al fun x hg => Res.same I fun _ => ?_
    obtain ⟨_, hu⟩ := hv
    unfold ownFit at hu
    cases hφ : c.φ i with
    | dead => exact absurd hφ (alive I hg)
    | nil => rw [hφ] at hu; obtain ⟨rfl, _, rfl⟩ := hu; exact ⟨_, run_len_slice ht _ _ _ _, rfl⟩
    | «at» b s' => rw [hφ] at hu; obtain ⟨a, cap, m, rfl, _⟩ := hu; exact ⟨_, run_len_slice ht _ _ _ _, rfl⟩
  · rename_i i off lo n
    refine Res.al fun x hg => Res.same I fun _ => ?_
    obtain ⟨_, hu⟩ := hv
    cases hφ : c.φ i with
    | dead => exact absurd hφ (alive I hg)
    | nil => rw [hφ] at hu; exact hu.elim
    | «at» b s' => rw [hφ] at hu; obtain ⟨a, cap, rfl, _⟩ := hu; exact ⟨_, run_len_slice ht _ _ _ _, rfl⟩
  · trivial
theorem Ents.len : ∀ (l : List (V × V)) (es : List MapEntry), Ents c l es → es.length = l.length
  | [], es, h => by cases h; rfl
  | (k, v) :: r, es, h => by obtain ⟨e, es', rfl, _, _, h4⟩ := h; simp [Ents.len r es' h4]
theorem pLenMap_res (I : Inv z c h) {t k e ty : TypeId} (ht : P.underlying t = some (.map k e)) {v : V} {u : Value} (hv : Rep c v u) :
    Res P z c h (Builtin.len_ #[t] ty #[u]) (pLenMap v h.get) := by
  unfold pLenMap
  split
  · refine Res.same I fun _ => ?_
    cases hv
    exact ⟨_, by simp [Builtin.len_, run_underlying ht, goInt], rfl⟩
  · rename_i i
    cases hg : h.get i with
    | none => trivial
    | some x =>
      cases x with
      | var _ => trivial
      | row _ _ => trivial
      | map es =>
        refine Res.same I fun _ => ?_
        obtain ⟨_, b, s, ents, clock, h1, h2, h3⟩ := getB_at I hg
        obtain ⟨_, hu⟩ := hv
        rw [h1] at hu
        simp only at hu
        subst hu
        refine ⟨_, ?_, rfl⟩
        simp [Builtin.len_, run_underlying ht, goInt, getObj, Sem.run, h2, ← Ents.len es _ h3]
  · trivial

theorem pNil_res (I : Inv z c h) {v : V} {u : Value} (hv : Rep c v u) (o : Oper) (x : Operand) (ρ : Operand → Value) (ho : o.op = .nilCheck x) (hρ : ρ x = u)
    {p : Prop} {v' : V} {up : List (Nat × Option Blk)} {nw : Nat} (hr : pNil v h.get = .ok p v' up nw) : (execOp ρ o).run P c.w = .ok (.value u) c.w ∧ v' = v ∧ up = [] ∧ nw = 0 := by
  have go : ∀ a, (u = .pointer (some a)) → (execOp ρ o).run P c.w = .ok (.value u) c.w := by
    intro a ha; subst ha; simp [execOp, ho, hρ]
  cases v <;> simp only [pNil] at hr <;> try cases hr
  · exact ⟨(by obtain ⟨cs, ad, _, hu, _⟩ := hv; exact go _ hu), rfl, rfl, rfl⟩
  · exact ⟨(by obtain ⟨vs, hu, _⟩ := hv; subst hu; simp [execOp, ho, hρ]), rfl, rfl, rfl⟩
  · rename_i i off idx
    unfold AM.al at hr
    cases hg : h.get i with
    | none => rw [hg] at hr; cases hr
    | some x =>
      rw [hg] at hr; cases hr
      obtain ⟨b, s, _, hu⟩ := ref_at I hg hv; exact ⟨go _ hu, rfl, rfl, rfl⟩
  · rename_i i sz k off idx
    unfold AM.al at hr
    cases hg : h.get i with
    | none => rw [hg] at hr; cases hr
    | some x =>
      rw [hg] at hr; cases hr
      obtain ⟨b, s, _, hu⟩ := eref_at I hg hv; exact ⟨go _ hu, rfl, rfl, rfl⟩

theorem Reps.get : ∀ (l : List V) (us : List Value), Reps c l us → ∀ (i : Nat) (v : V), l[i]? = some v → ∃ u, us[i]? = some u ∧ Rep c v u
  | [], _, _, i, v, h => by simp at h
  | w :: r, us, hr, i, v, h => by
    obtain ⟨u, us', rfl, h2, h3⟩ := hr
    cases i with
    | zero => simp only [List.getElem?_cons_zero, Option.some.injEq] at h; subst h; exact ⟨u, rfl, h2⟩
    | succ i => simpa using Reps.get r us' h3 i v (by simpa using h)
theorem pExtract_res (I : Inv z c h) {v : V} {u : Value} (hv : Rep c v u) (i : Nat) : Res P z c h (Instr.extract u i) (pExtract v i) := by
  unfold pExtract
  split
  · rename_i l
    cases hl : l[i]? with
    | none => trivial
    | some v' =>
      refine Res.same I fun _ => ?_
      obtain ⟨vs, rfl, h2⟩ := hv
      obtain ⟨uu, h3, h4⟩ := Reps.get l vs h2 i v' hl
      exact ⟨uu, by simp [Instr.extract, h3], h4⟩
  · trivial

theorem pUn_res (I : Inv z c h) {v : V} {u : Value} (hv : Rep c v u) (op : UnOp) : Res P z c h (Op.unary op u) (pUn op v) := by
  unfold pUn
  split
  · refine Res.same I fun _ => ?_
    cases hv; exact ⟨_, rfl, rfl⟩
  · refine Res.same I fun _ => ?_
    cases hv; exact ⟨_, rfl, rfl⟩
  · trivial
theorem pMin_res (I : Inv z c h) {x y : V} {ux uy : Value} (hx : Rep c x ux) (hy : Rep c y uy) (a : Array TypeId) (t : TypeId) : Res P z c h (Builtin.min_ a t #[ux, uy]) (pMin x y) := by
  unfold pMin
  split
  · split
    · refine Res.same I fun _ => ?_
      cases hx; cases hy; exact ⟨_, rfl, rfl⟩
    · trivial
  · trivial
theorem pMax_res (I : Inv z c h) {x y : V} {ux uy : Value} (hx : Rep c x ux) (hy : Rep c y uy) (a : Array TypeId) (t : TypeId) : Res P z c h (Builtin.max_ a t #[ux, uy]) (pMax x y) := by
  unfold pMax
  split
  · split
    · refine Res.same I fun _ => ?_
      cases hx; cases hy
      refine ⟨_, rfl, ?_⟩
      simp only [Rep]
    · trivial
  · trivial
end
end Go.AM
end

section
/- AM, part 8: slices of slices; binary operations; conversions. -/
namespace Go.AM
section
variable {P : Program} {z : Ctx0} {c : Cx} {h : H}

/-- The bounds, as the model reckons them. -/
theorem bnd_run {isS : Bool} {len cap : Nat} (hc : len ≤ cap) {lo hi : Option V} {ulo uhi : Option Value} (hlo : ∀ v, lo = some v → ∃ u, ulo = some u ∧ Rep c v u) (hlo' : lo = none → ulo = none)
    (hhi : ∀ v, hi = some v → ∃ u, uhi = some u ∧ Rep c v u) (hhi' : hi = none → uhi = none) {p : Prop} {a b : Nat} (hb : bnd len lo hi = some (p, a, b)) (hp : p) :
    (Instr.sliceBounds isS len cap ulo uhi none).run P c.w = .ok (a, b, cap) c.w ∧ a ≤ b ∧ b ≤ len := by
  unfold bnd at hb
  split at hb
  · simp only [Option.some.injEq, Prod.mk.injEq] at hb
    obtain ⟨rfl, rfl, rfl⟩ := hb
    rw [hlo' rfl, hhi' rfl]
    exact ⟨by simp [Instr.sliceBounds], by omega, by omega⟩
  · rename_i ik k
    simp only [Option.some.injEq, Prod.mk.injEq] at hb
    obtain ⟨rfl, rfl, rfl⟩ := hb
    obtain ⟨u, hu, hr⟩ := hlo _ rfl
    cases hr
    rw [hu, hhi' rfl]
    obtain ⟨h1, h2⟩ := hp
    exact ⟨by simp [Instr.sliceBounds, Instr.sliceBound, asIntOf, h1, h2], by omega, by omega⟩
  · rename_i ik k
    simp only [Option.some.injEq, Prod.mk.injEq] at hb
    obtain ⟨rfl, rfl, rfl⟩ := hb
    obtain ⟨u, hu, hr⟩ := hhi _ rfl
    cases hr
    rw [hu, hlo' rfl]
    obtain ⟨h1, h2⟩ := hp
    have h3 : k ≤ (cap : Int) := by omega
    exact ⟨by simp [Instr.sliceBounds, Instr.sliceBound, asIntOf, h1, h3], by omega, by omega⟩
  · rename_i ik k ik2 k2
    simp only [Option.some.injEq, Prod.mk.injEq] at hb
    obtain ⟨rfl, rfl, rfl⟩ := hb
    obtain ⟨u, hu, hr⟩ := hlo _ rfl
    cases hr
    obtain ⟨u2, hu2, hr2⟩ := hhi _ rfl
    cases hr2
    rw [hu, hu2]
    obtain ⟨h1, h2, h4⟩ := hp
    have h3 : k2 ≤ (cap : Int) := by omega
    have h5 : (0 : Int) ≤ k2 := by omega
    have h6 : ¬ (max k2 0 < k) := by omega
    exact ⟨by simp [Instr.sliceBounds, Instr.sliceBound, asIntOf, h1, h3, h5, h6], by omega, by omega⟩
  · cases hb

theorem pSliceStr_res (I : Inv z c h) {t : TypeId} (ht : P.underlying t = some .string) {v : V} {u : Value} (hv : Rep c v u) {lo hi : Option V} {ulo uhi : Option Value}
    (hlo : ∀ v, lo = some v → ∃ u, ulo = some u ∧ Rep c v u) (hlo' : lo = none → ulo = none) (hhi : ∀ v, hi = some v → ∃ u, uhi = some u ∧ Rep c v u) (hhi' : hi = none → uhi = none) :
    Res P z c h (Instr.sliceAt t u ulo uhi none) (pSliceStr v lo hi) := by
  unfold pSliceStr
  split
  · rename_i s
    cases hb : bnd s.length lo hi with
    | none => trivial
    | some q =>
      obtain ⟨p, a, b⟩ := q
      refine Res.same I fun hp => ?_
      cases hv
      obtain ⟨h1, h2, h3⟩ := bnd_run (P := P) (isS := false) (Nat.le_refl s.length) hlo hlo' hhi hhi' hb hp
      refine ⟨.string ((bs s).extract a b), ?_, by simp [Rep, bs_extract]⟩
      simp [Instr.sliceAt, Instr.slice, run_underlying ht, bs_size, h1]
  · trivial

theorem run_slice_sl {t e : TypeId} (ht : P.underlying t = some (.slice e)) (hz : szP P e ≠ 0) {a : Option Addr} {n cap : Nat} {w : World} {ulo uhi : Option Value} {x y : Nat}
    (hb : (Instr.sliceBounds true n cap ulo uhi none).run P w = .ok (x, y, cap) w) :
    (Instr.sliceAt t (.slice a n cap) ulo uhi none).run P w = .ok (.slice (if cap = x then a else a.map (·.add (x * szP P e))) (y - x) (cap - x)) w := by
  obtain ⟨i, hi⟩ := szP_some hz
  simp [Instr.sliceAt, Instr.slice, run_underlying ht, hb, run_sizeOf' hi]

theorem Sl.cut {zz : Option Bool} {n sz : Nat} {cs : List Value} {u : Value} (hs : Sl c zz n cs u) (hl : cs.length = n * sz) {t e : TypeId} (ht : P.underlying t = some (.slice e)) (hz : szP P e ≠ 0) (hsz : szP P e = sz)
    {lo hi : Option V} {ulo uhi : Option Value} (hlo : ∀ v, lo = some v → ∃ u, ulo = some u ∧ Rep c v u) (hlo' : lo = none → ulo = none) (hhi : ∀ v, hi = some v → ∃ u, uhi = some u ∧ Rep c v u) (hhi' : hi = none → uhi = none)
    {p : Prop} {a b : Nat} (hb : bnd n lo hi = some (p, a, b)) (hp : p) :
    ∃ uu, (Instr.sliceAt t u ulo uhi none).run P c.w = .ok uu c.w ∧ Sl c zz (b - a) ((cs.drop (a * sz)).take ((b - a) * sz)) uu ∧ a ≤ b ∧ b ≤ n := by
  obtain ⟨ad, cap, rfl, h2, h3, h4⟩ := hs
  obtain ⟨r1, r2, r3⟩ := bnd_run (P := P) (isS := true) h2 hlo hlo' hhi hhi' hb hp
  refine ⟨_, run_slice_sl ht hz r1, ⟨_, _, rfl, by omega, ?_, ?_⟩, r2, r3⟩
  · intro q hq
    have := h3 q hq
    by_cases e : cap = a
    · rw [if_pos e]; exact this
    · rw [if_neg e]; cases ad <;> simpa using this
  · intro hne
    have hba : a < b := by
      rcases Nat.lt_or_ge a b with h | h
      · exact h
      · rw [show b - a = 0 by omega, Nat.zero_mul] at hne; simp at hne
    have hcs : cs ≠ [] := by
      rintro rfl; simp at hne
    obtain ⟨ad', rfl, g1, g2⟩ := h4 hcs
    rw [if_neg (by omega)]
    refine ⟨ad'.add (a * szP P e), rfl, by rw [add_block]; exact g1, fun j q hj => ?_⟩
    rw [add_add, hsz]
    refine g2 _ q ?_
    rw [List.getElem?_take] at hj
    split at hj
    · rw [List.getElem?_drop] at hj; exact hj
    · cases hj

theorem byteCells_cut (l : List UInt8) (a n : Nat) : ((byteCells l).drop (a * 1)).take (n * 1) = byteCells ((l.drop a).take n) := by simp [byteCells, List.map_take, List.map_drop]
theorem intCells_cut (k : IntKind) (l : List Int) (a n : Nat) : ((intCells k l).drop (a * 1)).take (n * 1) = intCells k ((l.drop a).take n) := by simp [intCells, List.map_take, List.map_drop]
theorem strCells_cut (l : List (List UInt8)) (a n : Nat) : ((strCells l).drop (a * 1)).take (n * 1) = strCells ((l.drop a).take n) := by simp [strCells, List.map_take, List.map_drop]
theorem Elems.drop {sz : Nat} : ∀ (l : List (List V)) (cs : List Value), Elems c sz l cs → ∀ k, Elems c sz (l.drop k) (cs.drop (k * sz))
  | l, cs, h, 0 => by simpa using h
  | [], cs, h, k + 1 => by cases h; simp [Elems]
  | e :: r, cs, h, k + 1 => by
    obtain ⟨a, b, rfl, h2, h3, h4⟩ := h
    have := Elems.drop r b h4 k
    have e1 : (a ++ b).drop ((k + 1) * sz) = b.drop (k * sz) := by
      rw [List.drop_append, List.drop_eq_nil_of_le (by rw [h2, Nat.succ_mul]; omega), List.nil_append]
      congr 1; rw [h2, Nat.succ_mul]; omega
    rw [e1]
    exact this
theorem Elems.take {sz : Nat} : ∀ (l : List (List V)) (cs : List Value), Elems c sz l cs → ∀ k, Elems c sz (l.take k) (cs.take (k * sz))
  | l, cs, h, 0 => by simp [Elems]
  | [], cs, h, k + 1 => by cases h; simp [Elems]
  | e :: r, cs, h, k + 1 => by
    obtain ⟨a, b, rfl, h2, h3, h4⟩ := h
    refine ⟨a, b.take (k * sz), ?_, h2, h3, Elems.take r b h4 k⟩
    rw [List.take_append, List.take_of_length_le (by rw [h2, Nat.succ_mul]; omega)]
    congr 2; rw [h2, Nat.succ_mul]; omega

theorem len_cut {α : Type} (l : List α) (a b : Nat) (hab : a ≤ b) (hb : b ≤ l.length) : ((l.drop a).take (b - a)).length = b - a := by simp; omega

theorem pSliceSl_res (I : Inv z c h) {t e : TypeId} (ht : P.underlying t = some (.slice e)) (hz : szP P e ≠ 0) {v : V} {u : Value} (hv : Rep c v u) {lo hi : Option V} {ulo uhi : Option Value}
    (hlo : ∀ v, lo = some v → ∃ u, ulo = some u ∧ Rep c v u) (hlo' : lo = none → ulo = none) (hhi : ∀ v, hi = some v → ∃ u, uhi = some u ∧ Rep c v u) (hhi' : hi = none → uhi = none) :
    Res P z c h (Instr.sliceAt t u ulo uhi none) (pSliceSl (szP P e) v lo hi h.get) := by
  unfold pSliceSl
  split
  · rename_i zz l
    cases hb : bnd l.length lo hi with
    | none => trivial
    | some q =>
      obtain ⟨p, a, b⟩ := q
      simp only
      split
      · rename_i h1
        refine Res.same I fun hp => ?_
        obtain ⟨uu, r1, r2, r3, r4⟩ := Sl.cut hv (by simp [byteCells]) ht hz h1 hlo hlo' hhi hhi' hb hp
        exact ⟨uu, r1, by rw [byteCells_cut] at r2; show Sl c zz _ _ uu; rw [len_cut l a b r3 r4]; exact r2⟩
      · trivial
  · rename_i zz k l
    cases hb : bnd l.length lo hi with
    | none => trivial
    | some q =>
      obtain ⟨p, a, b⟩ := q
      simp only
      split
      · rename_i h1
        refine Res.same I fun hp => ?_
        obtain ⟨uu, r1, r2, r3, r4⟩ := Sl.cut hv (by simp [intCells]) ht hz h1 hlo hlo' hhi hhi' hb hp
        exact ⟨uu, r1, by rw [intCells_cut] at r2; show Sl c zz _ _ uu; rw [len_cut l a b r3 r4]; exact r2⟩
      · trivial
  · rename_i zz l
    cases hb : bnd l.length lo hi with
    | none => trivial
    | some q =>
      obtain ⟨p, a, b⟩ := q
      simp only
      split
      · rename_i h1
        refine Res.same I fun hp => ?_
        obtain ⟨uu, r1, r2, r3, r4⟩ := Sl.cut hv (by simp [strCells]) ht hz h1 hlo hlo' hhi hhi' hb hp
        exact ⟨uu, r1, by rw [strCells_cut] at r2; show Sl c zz _ _ uu; rw [len_cut l a b r3 r4]; exact r2⟩
      · trivial
  · rename_i zz s l
    cases hb : bnd l.length lo hi with
    | none => trivial
    | some q =>
      obtain ⟨p, a, b⟩ := q
      simp only
      split
      · rename_i h1
        refine Res.same I fun hp => ?_
        obtain ⟨cs, he, hs⟩ := hv
        obtain ⟨uu, r1, r2, r3, r4⟩ := Sl.cut hs (Elems.len l cs he) ht hz h1.symm hlo hlo' hhi hhi' hb hp
        exact ⟨uu, r1, _, Elems.take _ _ (Elems.drop l cs he a) (b - a), by rw [len_cut l a b r3 r4]; exact r2⟩
      · trivial
  · cases hb : bnd 0 lo hi with
    | none => trivial
    | some q =>
      obtain ⟨p, a, b⟩ := q
      refine Res.same I fun hp => ?_
      cases hv
      obtain ⟨r1, r2, r3⟩ := bnd_run (P := P) (isS := true) (Nat.le_refl 0) hlo hlo' hhi hhi' hb hp
      obtain rfl : b = 0 := by omega
      obtain rfl : a = 0 := by omega
      refine ⟨_, run_slice_sl ht hz r1, ?_⟩
      simp [Rep]
  · rename_i i s o n
    cases hb : bnd n lo hi with
    | none => trivial
    | some q =>
      obtain ⟨p, a, b⟩ := q
      simp only
      split
      · rename_i h1
        refine Res.al fun x hg => Res.same I fun hp => ?_
        obtain ⟨hin, hu⟩ := hv
        unfold ownFit at hu
        cases hφ : c.φ i with
        | dead => exact absurd hφ (alive I hg)
        | nil =>
          rw [hφ] at hu
          obtain ⟨rfl, rfl, rfl⟩ := hu
          obtain ⟨r1, r2, r3⟩ := bnd_run (P := P) (isS := true) (Nat.le_refl 0) hlo hlo' hhi hhi' hb hp
          obtain rfl : b = 0 := by omega
          obtain rfl : a = 0 := by omega
          refine ⟨_, run_slice_sl ht hz r1, hin, ?_⟩
          unfold ownFit; rw [hφ]; simp
        | «at» bb ss =>
          rw [hφ] at hu
          obtain ⟨ad, cap, m, rfl, h2, h3, h4, h5⟩ := hu
          obtain ⟨r1, r2, r3⟩ := bnd_run (P := P) (isS := true) h2 hlo hlo' hhi hhi' hb hp
          refine ⟨_, run_slice_sl ht hz r1, hin, ?_⟩
          unfold ownFit; rw [hφ]
          by_cases e : cap = a
          · rw [if_pos e]
            refine ⟨ad, _, m, rfl, by omega, ⟨h3.1, fun hpos => by omega⟩, h4, ?_⟩
            rw [show o + a + (cap - a) = o + cap by omega]; exact h5
          · rw [if_neg e]
            refine ⟨_, _, m, rfl, by omega, ⟨(add_block _ _).trans h3.1, fun hpos => ?_⟩, h4, ?_⟩
            · rw [h3.2 (by omega)]; show Addr.add _ _ = _; rw [addr_add, h1, Nat.add_mul]; simp [Nat.add_assoc]
            · rw [show o + a + (cap - a) = o + cap by omega]; exact h5
      · trivial
  · trivial

theorem pSliceArr_res (I : Inv z c h) {t e : TypeId} {len : Nat} (ht : P.underlying t = some (.array len e)) (hz : szP P e = 1) {v : V} {u : Value} (hv : Rep c v u) {lo hi : Option V} {ulo uhi : Option Value}
    (hlo : ∀ v, lo = some v → ∃ u, ulo = some u ∧ Rep c v u) (hlo' : lo = none → ulo = none) (hhi : ∀ v, hi = some v → ∃ u, uhi = some u ∧ Rep c v u) (hhi' : hi = none → uhi = none) :
    Res P z c h (Instr.sliceAt t u ulo uhi none) (pSliceArr len v lo hi h.get) := by
  obtain ⟨i0, hi0⟩ := szP_some (P := P) (t := e) (by omega)
  have run : ∀ (ad : Addr) (x y : Nat), (Instr.sliceBounds false len len ulo uhi none).run P c.w = .ok (x, y, len) c.w →
      (Instr.sliceAt t (.pointer (some ad)) ulo uhi none).run P c.w = .ok (.slice (some (if len = x then ad else ad.add x)) (y - x) (len - x)) c.w := by
    intro ad x y hb
    simp [Instr.sliceAt, run_underlying ht, Instr.sureAddr, hb, run_sizeOf' hi0, hz]
  unfold pSliceArr
  split
  · rename_i i off
    cases hb : bnd len lo hi with
    | none => trivial
    | some q =>
      obtain ⟨p, a, b⟩ := q
      refine Res.al fun x hg => Res.same I fun hp => ?_
      obtain ⟨bb, s, hφ, rfl⟩ := ref_at I hg hv
      obtain ⟨r1, r2, r3⟩ := bnd_run (P := P) (isS := false) (Nat.le_refl len) hlo hlo' hhi hhi' hb hp
      refine ⟨_, run _ _ _ r1, hv.1, ?_⟩
      rw [hφ]
      refine ⟨_, _, rfl, by omega, fun hpos => ?_⟩
      rw [if_neg (by omega), addr_add]
      simp
  · rename_i e' off
    split
    · rename_i q1 n l q2 p a b hsp hb
      split
      · rename_i hn
        refine Res.same I fun hp => ?_
        obtain ⟨cs, ad, h1, rfl, h3, h4⟩ := hv
        obtain ⟨ca, cr, e1, e2, e3, e4, _⟩ := splitC_spec e' off _ _ cs hsp h1
        obtain ⟨bb, g1, g2, g3⟩ := e4
        obtain ⟨r1, r2, r3⟩ := bnd_run (P := P) (isS := false) (Nat.le_refl len) hlo hlo' hhi hhi' hb hp
        refine ⟨_, run _ _ _ r1, some (if len = a then ad.add (off + 0) else (ad.add (off + 0)).add a), len - a, ?_, ?_, ?_, ?_⟩
        · rw [len_cut l a b r2 (by omega)]
        · rw [len_cut l a b r2 (by omega)]; omega
        · intro b' hb'; cases hb'; rfl
        · intro hne
          have hba : a < b := by
            rcases Nat.lt_or_ge a b with h | h
            · exact h
            · rw [show b - a = 0 by omega] at hne; simp [byteCells] at hne
          rw [if_neg (by omega)]
          refine ⟨_, rfl, by rw [add_block, add_block]; exact h3, fun j q hj => ?_⟩
          rw [add_add, add_add]
          refine h4 _ q ?_
          rw [e1, List.getElem?_append_right (by omega), g2]
          have hjl := (List.getElem?_eq_some_iff.1 hj).1
          have hjl' : j < b - a := by rw [← len_cut l a b r2 (by omega)]; simpa [byteCells] using hjl
          rw [List.getElem?_append_left (by simp [byteCells]; omega)]
          rw [← hj]
          simp only [byteCells, List.map_take, List.map_drop, List.getElem?_take, hjl', if_true, List.getElem?_drop]
          congr 1; omega
      · trivial
    · rename_i q1 k n l q2 p a b hsp hb
      split
      · rename_i hn
        refine Res.same I fun hp => ?_
        obtain ⟨cs, ad, h1, rfl, h3, h4⟩ := hv
        obtain ⟨ca, cr, e1, e2, e3, e4, _⟩ := splitC_spec e' off _ _ cs hsp h1
        obtain ⟨bb, g1, g2, g3⟩ := e4
        obtain ⟨r1, r2, r3⟩ := bnd_run (P := P) (isS := false) (Nat.le_refl len) hlo hlo' hhi hhi' hb hp
        refine ⟨_, run _ _ _ r1, some (if len = a then ad.add (off + 0) else (ad.add (off + 0)).add a), len - a, ?_, ?_, ?_, ?_⟩
        · rw [len_cut l a b r2 (by omega)]
        · rw [len_cut l a b r2 (by omega)]; omega
        · intro b' hb'; cases hb'; rfl
        · intro hne
          have hba : a < b := by
            rcases Nat.lt_or_ge a b with h | h
            · exact h
            · rw [show b - a = 0 by omega] at hne; simp [intCells] at hne
          rw [if_neg (by omega)]
          refine ⟨_, rfl, by rw [add_block, add_block]; exact h3, fun j q hj => ?_⟩
          rw [add_add, add_add]
          refine h4 _ q ?_
          rw [e1, List.getElem?_append_right (by omega), g2]
          have hjl := (List.getElem?_eq_some_iff.1 hj).1
          have hjl' : j < b - a := by rw [← len_cut l a b r2 (by omega)]; simpa [intCells] using hjl
          rw [List.getElem?_append_left (by simp [intCells]; omega)]
          rw [← hj]
          simp only [intCells, List.map_take, List.map_drop, List.getElem?_take, hjl', if_true, List.getElem?_drop]
          congr 1; omega
      · trivial
    · trivial
  · trivial
end
end Go.AM
end

section
/- AM, part 9: binary operations; conversions; fields of values. -/
namespace Go.AM
section
variable {P : Program} {z : Ctx0} {c : Cx} {h : H}

theorem wrapBits (k : IntKind) (op : BinOp) (a b : Int) (ho : op = .and ∨ op = .or ∨ op = .xor ∨ op = .andNot) : (Op.intBits op k a b).run P c.w = .ok (.int k (vbits op k a b)) c.w := by
  rcases ho with rfl | rfl | rfl | rfl <;> rfl

theorem pNot_res (I : Inv z c h) {s : Sem Value} {neg : Bool} {q : Option Bool} (hq : ∀ b, q = some b → s.run P c.w = .ok (.bool (if neg then !b else b)) c.w) : Res P z c h s (pNot neg q) := by
  unfold pNot
  cases q with
  | none => trivial
  | some b => exact Res.same I fun _ => ⟨_, hq b rfl, rfl⟩

theorem equal_succ (t : TypeId) (x y : Value) : Op.equal t x y = Op.equalIn (9999 + 1) t x y := rfl
theorem eqIn_bool {t : TypeId} (ht : P.underlying t = some .bool) (d : Nat) (a b : Bool) (w : World) : (Op.equalIn (d + 1) t (.bool a) (.bool b)).run P w = .ok (a == b) w := by
  simp only [Op.equalIn, Sem.run_bind, run_underlying ht, Result.andThen_ok, Sem.run_pure]
theorem run_eq {t : TypeId} {ux uy : Value} {b : Bool} {w : World} (h1 : (Op.equal t ux uy).run P w = .ok b w) (e1 : binOp .eql t ux uy = (do pure (.bool (← Op.equal t ux uy)) : Sem Value)) (e2 : binOp .neq t ux uy = (do pure (.bool (!(← Op.equal t ux uy))) : Sem Value)) (neg : Bool) :
    (binOp (if neg then .neq else .eql) t ux uy).run P w = .ok (.bool (if neg then !b else b)) w := by
  cases neg
  · simp only [Bool.false_eq_true, if_false, e1, Sem.run_bind, h1, Result.andThen_ok, Sem.run_pure]
  · simp only [if_true, e2, Sem.run_bind, h1, Result.andThen_ok, Sem.run_pure]
theorem beq_dec {α : Type} [BEq α] [LawfulBEq α] [DecidableEq α] (a b : α) : (a == b) = decide (a = b) := by
  by_cases e : a = b
  · subst e; simp
  · rw [decide_eq_false e]; exact beq_eq_false_iff_ne.2 e

theorem veqI_run {x y : V} {ux uy : Value} (hx : Rep c x ux) (hy : Rep c y uy) {b : Bool} (h : veqI x y = some b) {t : TypeId} (neg : Bool) :
    (binOp (if neg then .neq else .eql) t ux uy).run P c.w = .ok (.bool (if neg then !b else b)) c.w := by
  unfold veqI at h
  split at h
  · split at h
    · rename_i hk
      cases hx; cases hy; cases h; subst hk
      cases neg
      · simp only [binOp, Op.intCmp, Bool.false_eq_true, if_false, ne_eq, not_true, Sem.run_pure, beq_dec]
      · simp only [binOp, Op.intCmp, if_true, ne_eq, not_true, Sem.run_pure, bne, beq_dec, if_false]
    · cases h
  · cases h
theorem veqS_run {x y : V} {ux uy : Value} (hx : Rep c x ux) (hy : Rep c y uy) {b : Bool} (h : veqS x y = some b) {t : TypeId} (neg : Bool) :
    (binOp (if neg then .neq else .eql) t ux uy).run P c.w = .ok (.bool (if neg then !b else b)) c.w := by
  unfold veqS at h
  split at h
  · cases hx; cases hy; cases h
    cases neg
    · simp only [binOp, Op.stringOp, bs_toList, Sem.run_pure, beq_dec, Bool.false_eq_true, if_false]
    · simp only [binOp, Op.stringOp, bs_toList, Sem.run_pure, beq_dec, if_true]
  · cases h
theorem veqB_run {x y : V} {ux uy : Value} (hx : Rep c x ux) (hy : Rep c y uy) {b : Bool} (h : veqB x y = some b) {t : TypeId} (ht : P.underlying t = some .bool) (neg : Bool) :
    (binOp (if neg then .neq else .eql) t ux uy).run P c.w = .ok (.bool (if neg then !b else b)) c.w := by
  unfold veqB at h
  split at h
  · rename_i p q
    cases hx; cases hy; cases h
    exact run_eq (by rw [equal_succ, eqIn_bool ht, beq_dec]) rfl rfl neg
  · cases h

theorem pBin_res (I : Inv z c h) {op : BinOp} {t : TypeId} {x y : V} {ux uy : Value} (hx : Rep c x ux) (hy : Rep c y uy) :
    Res P z c h (binOp op t ux uy) (pBin op x y) := by
  unfold pBin
  split
  · rename_i b
    refine Res.same I fun hp => ?_
    cases hx; cases hy
    have hb : ¬ b < 0 := by omega
    exact ⟨_, by simp only [binOp, Op.shift, if_neg hb, Sem.run_pure], rfl⟩
  · rename_i b
    refine Res.same I fun hp => ?_
    cases hx; cases hy
    have hb : ¬ b < 0 := by omega
    exact ⟨_, by simp only [binOp, Op.shift, if_neg hb, Sem.run_pure], rfl⟩
  · rename_i a b
    refine Res.same I fun hp => ?_
    cases hx; cases hy
    refine ⟨.string (bs a ++ bs b), ?_, by simp [Rep, bs_append]⟩
    have : ¬ (((bs a).size + (bs b).size : Nat) : Int) > IntKind.i64.max := by
      rw [bs_size, bs_size]
      simp [IntKind.max, IntKind.signed, IntKind.bits]; omega
    simp only [binOp, Op.stringOp, if_neg this, Sem.run_pure]
  · refine Res.same I fun _ => ?_
    cases hx; cases hy
    exact ⟨_, by simp only [binOp, Op.stringOp, bs_toList, Sem.run_pure], rfl⟩
  · rename_i a b
    refine Res.same I fun _ => ?_
    cases hx; cases hy
    exact ⟨.bool _, by simp only [binOp, Op.stringOp, bs_toList, Sem.run_pure, beq_dec], rfl⟩
  · rename_i a b
    refine Res.same I fun _ => ?_
    cases hx; cases hy
    exact ⟨.bool _, by simp only [binOp, Op.stringOp, bs_toList, Sem.run_pure, beq_dec], rfl⟩
  · refine Res.same I fun _ => ?_
    cases hx; cases hy
    exact ⟨_, by simp only [binOp, Op.stringOp, bs_toList, Sem.run_pure], rfl⟩
  · split
    · rename_i k a k' b _ _ hk
      cases hx; cases hy; subst hk
      split
      · exact Res.same I fun _ => ⟨_, by simp [binOp, Op.intArith], rfl⟩
      · exact Res.same I fun _ => ⟨_, by simp [binOp, Op.intArith], rfl⟩
      · exact Res.same I fun _ => ⟨_, by simp [binOp, Op.intArith], rfl⟩
      · exact Res.same I fun hp => ⟨_, by simp [binOp, Op.intDiv, hp], rfl⟩
      · exact Res.same I fun hp => ⟨_, by simp [binOp, Op.intDiv, hp], rfl⟩
      · exact Res.same I fun _ => ⟨_, by simp [binOp, Op.intCmp], rfl⟩
      · exact Res.same I fun _ => ⟨_, by simp [binOp, Op.intCmp], rfl⟩
      · exact Res.same I fun _ => ⟨_, by simp [binOp, Op.intCmp], rfl⟩
      · exact Res.same I fun _ => ⟨_, by simp [binOp, Op.intCmp], rfl⟩
      · exact Res.same I fun _ => ⟨_, by simpa [binOp] using wrapBits k .and a b (by simp), rfl⟩
      · exact Res.same I fun _ => ⟨_, by simpa [binOp] using wrapBits k .or a b (by simp), rfl⟩
      · exact Res.same I fun _ => ⟨_, by simpa [binOp] using wrapBits k .xor a b (by simp), rfl⟩
      · exact Res.same I fun _ => ⟨_, by simpa [binOp] using wrapBits k .andNot a b (by simp), rfl⟩
      · trivial
    · trivial
  · trivial

/-! ### against nil -/
theorem isPtr_rep (I : Inv z c h) {x : V} {u : Value} (hx : Rep c x u) (h1 : isPtr h.get x = true) : ∃ a, u = .pointer (some a) := by
  cases x <;> simp only [isPtr] at h1 <;> try cases h1
  · obtain ⟨cs, ad, _, hu, _⟩ := hx; exact ⟨_, hu⟩
  · obtain ⟨x, hg⟩ := Option.isSome_iff_exists.1 h1; obtain ⟨b, s, _, hu⟩ := ref_at I hg hx; exact ⟨_, hu⟩
  · obtain ⟨x, hg⟩ := Option.isSome_iff_exists.1 h1; obtain ⟨b, s, _, hu⟩ := eref_at I hg hx; exact ⟨_, hu⟩

theorem eqIn_pnil {t e : TypeId} (ht : P.underlying t = some (.pointer e)) (d : Nat) (b : Option Addr) (w : World) : (Op.equalIn (d + 1) t (.pointer none) (.pointer b)).run P w = .ok b.isNone w := by
  simp only [Op.equalIn, Sem.run_bind, run_underlying ht, Result.andThen_ok, Sem.run_pure]
theorem eqIn_nilp {t e : TypeId} (ht : P.underlying t = some (.pointer e)) (d : Nat) (a : Addr) (w : World) : (Op.equalIn (d + 1) t (.pointer (some a)) (.pointer none)).run P w = .ok false w := by
  simp only [Op.equalIn, Sem.run_bind, run_underlying ht, Result.andThen_ok, Sem.run_pure]
theorem eqIn_snil {t e : TypeId} (ht : P.underlying t = some (.slice e)) (d : Nat) (a : Option Addr) (n m : Nat) (w : World) : (Op.equalIn (d + 1) t (.slice a n m) (.slice none 0 0)).run P w = .ok a.isNone w := by
  cases a <;> simp only [Op.equalIn, Sem.run_bind, run_underlying ht, Result.andThen_ok, Sem.run_pure, Option.isNone]
theorem eqIn_mnil {t k e : TypeId} (ht : P.underlying t = some (.map k e)) (d : Nat) (a : Option Nat) (w : World) : (Op.equalIn (d + 1) t (.map a) (.map none)).run P w = .ok a.isNone w := by
  cases a <;> simp only [Op.equalIn, Sem.run_bind, run_underlying ht, Result.andThen_ok, Sem.run_pure, Option.isNone]
theorem veqN_run (I : Inv z c h) {nk : NK} {t : TypeId} (ht : match nk with | .ptr => ∃ e, P.underlying t = some (.pointer e) | .slice => ∃ e, P.underlying t = some (.slice e) | .map => ∃ k e, P.underlying t = some (.map k e))
    {x y : V} {ux uy : Value} (hx : Rep c x ux) (hy : Rep c y uy) {b : Bool} (hb : veqN h.get nk x y = some b) (neg : Bool) :
    (binOp (if neg then .neq else .eql) t ux uy).run P c.w = .ok (.bool (if neg then !b else b)) c.w := by
  have sl : ∀ {zz : Option Bool} {n : Nat} {cs : List Value} {u : Value} {q : Bool}, Sl c zz n cs u → zz = some q → (∃ e, P.underlying t = some (.slice e)) → (Op.equal t u (.slice none 0 0)).run P c.w = .ok (!q) c.w ∧ ∃ a n m, u = .slice a n m := by
    intro zz n cs u q hs hz he
    obtain ⟨e, he⟩ := he
    obtain ⟨a, cap, rfl, _, h3, _⟩ := hs
    refine ⟨?_, _, _, _, rfl⟩
    rw [equal_succ, eqIn_snil he]
    have := h3 q hz
    cases a <;> cases q <;> simp_all
  unfold veqN at hb
  split at hb
  · cases hx; cases hy; cases hb
    obtain ⟨e, he⟩ := ht
    exact run_eq (by rw [equal_succ, eqIn_pnil he]; rfl) rfl rfl neg
  · split at hb
    · rename_i hp
      cases hx; cases hb
      obtain ⟨e, he⟩ := ht
      obtain ⟨a, rfl⟩ := isPtr_rep I hy hp
      exact run_eq (by rw [equal_succ, eqIn_pnil he]; rfl) rfl rfl neg
    · cases hb
  · split at hb
    · rename_i hp
      cases hy; cases hb
      obtain ⟨e, he⟩ := ht
      obtain ⟨a, rfl⟩ := isPtr_rep I hx hp
      exact run_eq (by rw [equal_succ, eqIn_nilp he]) rfl rfl neg
    · cases hb
  · cases hx; cases hy; cases hb
    obtain ⟨e, he⟩ := ht
    exact run_eq (by rw [equal_succ, eqIn_snil he]; rfl) rfl rfl neg
  · cases hy; cases hb
    obtain ⟨h1, a, n, m, rfl⟩ := sl hx rfl ht
    exact run_eq h1 rfl rfl neg
  · cases hy; cases hb
    obtain ⟨h1, a, n, m, rfl⟩ := sl hx rfl ht
    exact run_eq h1 rfl rfl neg
  · cases hy; cases hb
    obtain ⟨h1, a, n, m, rfl⟩ := sl hx rfl ht
    exact run_eq h1 rfl rfl neg
  · cases hy; cases hb
    obtain ⟨cs, _, hs⟩ := hx
    obtain ⟨h1, a, n, m, rfl⟩ := sl hs rfl ht
    exact run_eq h1 rfl rfl neg
  · cases hx; cases hy; cases hb
    obtain ⟨k, e, he⟩ := ht
    exact run_eq (by rw [equal_succ, eqIn_mnil he]; rfl) rfl rfl neg
  · rename_i i
    split at hb
    · rename_i hp
      cases hy; cases hb
      obtain ⟨k, e, he⟩ := ht
      obtain ⟨x, hg⟩ := Option.isSome_iff_exists.1 hp
      obtain ⟨_, hu⟩ := hx
      cases hφ : c.φ i with
      | dead => exact absurd hφ (alive I hg)
      | nil => rw [hφ] at hu; exact hu.elim
      | «at» b s => rw [hφ] at hu; simp only at hu; subst hu; exact run_eq (by rw [equal_succ, eqIn_mnil he]; rfl) rfl rfl neg
    · cases hb
  · cases hb
end
end Go.AM
end

section
/- AM, part 10: arrays against arrays; conversions; fields of values. -/
namespace Go.AM
section
variable {P : Program} {z : Ctx0} {c : Cx} {h : H}

theorem eqItems_ints {e : TypeId} {k0 : IntKind} (hu : P.underlying e = some (.int k0)) (d : Nat) (k : IntKind) (x y : List Int) (n : Nat) (hx : x.length = n) (hy : y.length = n) (w : World) :
    ∀ is : List Nat, (∀ i ∈ is, i < n) → (Op.eqItems (d + 1) e 1 ⟨intCells k x⟩ ⟨intCells k y⟩ is).run P w = .ok (is.all fun i => x.getD i 0 == y.getD i 0) w
  | [], _ => by simp [Op.eqItems]
  | i :: is, h => by
    have hi := h i (by simp)
    have ih := eqItems_ints hu d k x y n hx hy w is (fun j hj => h j (by simp [hj]))
    have hag : aggP P e = false := by simp [aggP, hu]
    have p1 : ∀ l : List Int, l.length = n → (part e ⟨intCells k l⟩ (i * 1)).run P w = .ok (.int k (l.getD i 0)) w := by
      intro l hl
      have hg := intCells_get k l i (by omega)
      have hg' : (⟨intCells k l⟩ : Array Value)[i * 1]? = some (.int k (l.getD i 0)) := by simpa using hg
      simp only [part, Sem.run_bind, aggP_run hu, hag, Result.andThen_ok, Bool.false_eq_true, if_false, hg', Sem.run_pure]
    have p3 : (Op.equalIn (d + 1) e (.int k (x.getD i 0)) (.int k (y.getD i 0))).run P w = .ok (x.getD i 0 == y.getD i 0) w := by
      simp only [Op.equalIn, Sem.run_bind, run_underlying hu, Result.andThen_ok, if_true, Sem.run_pure]
    simp only [Op.eqItems, Sem.run_bind, p1 x hx, p1 y hy, p3, Result.andThen_ok, List.all_cons]
    cases hq : (x.getD i 0 == y.getD i 0)
    · simp
    · simpa using ih

theorem all_eq (x y : List Int) (n : Nat) (hx : x.length = n) (hy : y.length = n) : ((List.range n).all fun i => x.getD i 0 == y.getD i 0) = decide (x = y) := by
  by_cases e : x = y
  · subst e; simp
  · rw [decide_eq_false e]
    apply Bool.eq_false_iff.2
    intro hall
    apply e
    apply List.ext_getElem (by omega)
    intro i h1 h2
    have := List.all_eq_true.1 hall i (by simp; omega)
    simpa [List.getD, List.getElem?_eq_getElem h1, List.getElem?_eq_getElem h2] using this

theorem byteCells_ints (l : List UInt8) : byteCells l = intCells .u8 (l.map fun x => (x.toNat : Int)) := by simp [byteCells, intCells]
theorem map_toNat_inj (x y : List UInt8) : (x.map (fun a => (a.toNat : Int)) = y.map fun a => (a.toNat : Int)) ↔ x = y := by
  constructor
  · intro h
    exact List.map_inj_right (fun a b hab => UInt8.toNat_inj.1 (by have hab' : ((a.toNat : Nat) : Int) = b.toNat := hab; omega)) |>.1 h
  · rintro rfl; rfl

theorem veqA_run {t e : TypeId} {n : Nat} {k0 : IntKind} (ht : P.underlying t = some (.array n e)) (hu : P.underlying e = some (.int k0)) (hz : szP P e = 1) {x y : V} {ux uy : Value} (hx : Rep c x ux) (hy : Rep c y uy)
    {b : Bool} (hb : veqA n x y = some b) (neg : Bool) : (∃ xs ys, ux = .agg xs ∧ uy = .agg ys) ∧ (binOp (if neg then .neq else .eql) t ux uy).run P c.w = .ok (.bool (if neg then !b else b)) c.w := by
  obtain ⟨i, hi⟩ := szP_some (P := P) (t := e) (by omega)
  have hc : P.cellsOf e = 1 := by rw [← hz]; simp [Program.cellsOf, szP, hi]
  have go : ∀ (k : IntKind) (xs ys : List Int), xs.length = n → ys.length = n → (Op.equal t (.agg ⟨intCells k xs⟩) (.agg ⟨intCells k ys⟩)).run P c.w = .ok (decide (xs = ys)) c.w := by
    intro k xs ys h1 h2
    rw [equal_succ, run_equalIn_array c.w 9999 _ _ ht hi, hc, eqItems_ints hu 9998 k xs ys n h1 h2 c.w _ (by simp), all_eq xs ys n h1 h2]
  unfold veqA at hb
  split at hb
  · rename_i m l m' l'
    split at hb
    · rename_i hm
      cases hb
      obtain ⟨cs, rfl, q, h1, h2, h3⟩ := hx
      obtain ⟨cs', rfl, q', g1, g2, g3⟩ := hy
      cases h3; cases g3
      rw [List.append_nil] at h2 g2
      subst h2; subst g2
      refine ⟨⟨_, _, rfl, rfl⟩, run_eq ?_ rfl rfl neg⟩
      rw [byteCells_ints, byteCells_ints, go .u8 _ _ (by simp; omega) (by simp; omega)]
      simp only [map_toNat_inj]
    · cases hb
  · rename_i k m l k' m' l'
    split at hb
    · rename_i hm
      cases hb
      obtain ⟨cs, rfl, q, h1, h2, h3⟩ := hx
      obtain ⟨cs', rfl, q', g1, g2, g3⟩ := hy
      cases h3; cases g3
      rw [List.append_nil] at h2 g2
      subst h2; subst g2
      obtain ⟨e1, e2, e3⟩ := hm
      subst e3
      exact ⟨⟨_, _, rfl, rfl⟩, run_eq (go k l l' (by omega) (by omega)) rfl rfl neg⟩
    · cases hb
  · cases hb

theorem pField_res (I : Inv z c h) {s : TypeId} {fs : Array Field} {f : Nat} {d : Field} (hs : P.underlying s = some (.struct fs)) (hf : fs[f]? = some d) (ht : ∃ e, P.underlying d.type = some e) (hi : ∃ i, P.info? d.type = some i) {v : V} {u : Value} (hv : Rep c v u) :
    Res P z c h (Instr.field s u f) (pField (aggP P d.type) (szP P d.type) d.offset v) := by
  obtain ⟨e0, he0⟩ := ht
  obtain ⟨i, hi⟩ := hi
  unfold pField
  split
  · rename_i e
    cases he : loadE (aggP P d.type) (szP P d.type) e d.offset 0 with
    | none => trivial
    | some pv =>
      obtain ⟨p, v'⟩ := pv
      refine Res.same I fun hp => ?_
      obtain ⟨cs, rfl, h1⟩ := hv
      unfold loadE at he
      cases hsp : splitC e d.offset with
      | none => rw [hsp] at he; cases he
      | some ar =>
        obtain ⟨a, r⟩ := ar
        rw [hsp] at he
        obtain ⟨ca, cr, e1, e2, e3, e4, _⟩ := splitC_spec e d.offset a r cs hsp h1
        simp only at he
        cases hag : aggP P d.type with
        | true =>
          rw [hag] at he
          simp only at he
          cases hs2 : splitC r (szP P d.type) with
          | none => rw [hs2] at he; cases he
          | some cb =>
            obtain ⟨e', b⟩ := cb
            rw [hs2] at he
            simp only [Option.some.injEq, Prod.mk.injEq] at he
            obtain ⟨rfl, rfl⟩ := he
            obtain ⟨x, y, f1, f2, f3, f4, _⟩ := splitC_spec r _ e' b cr hs2 e4
            refine ⟨.agg ⟨x⟩, ?_, x, rfl, f3⟩
            simp only [Instr.field, Sem.run_bind, run_underlying hs, Result.andThen_ok, hf, asAgg, Sem.run_pure, part, aggP_run he0, hag, if_true, run_sizeOf' hi]
            congr 2
            apply Array.ext'
            rw [Array.toList_extract]
            show List.extract cs d.offset (d.offset + szP P d.type) = x
            rw [List.extract_eq_take_drop, e1, f1, List.drop_append, List.drop_eq_nil_of_le (by omega), e2]
            simp [f2]
        | false =>
          rw [hag] at he
          simp only at he
          cases r with
          | nil => cases he
          | cons s' r =>
            simp only at he
            obtain ⟨u, g1, g2⟩ := readSeg_spec he hp e4
            refine ⟨u, ?_, g2⟩
            have hcell : (⟨cs⟩ : Array Value)[d.offset]? = some u := by
              rw [← Array.getElem?_toList]
              show cs[d.offset]? = _
              rw [e1, List.getElem?_append_right (by omega), e2, Nat.sub_self]; exact g1
            simp only [Instr.field, Sem.run_bind, run_underlying hs, Result.andThen_ok, hf, asAgg, Sem.run_pure, part, aggP_run he0, hag, Bool.false_eq_true, if_false, hcell]
  · trivial
end
end Go.AM
end

section
/- AM, part 11: what is given up for good; new variables; literals. -/
namespace Go.AM
section
variable {P : Program} {z : Ctx0} {c : Cx} {h : H}

theorem seg_one {v : V} {u : Value} (hv : Rep c v u) (h1 : u.oneCell' = true) : Segs c [v] [u] := by
  cases v
  case arr => exact hv.elim
  case byt => exact hv.elim
  all_goals exact ⟨u, [], rfl, h1, hv, rfl⟩
theorem cells_one {u : Value} (h : u.oneCell' = true) : u.cells = #[u] := by cases u <;> first | rfl | cases h
theorem rep_oneCell {v : V} {u : Value} (hv : Rep c v u) {e : List V} (h : segsOf v = some e) (ha : ∀ e', v ≠ .agg e') : u.oneCell' = true ∧ e = [v] := by
  cases v <;> simp only [segsOf, Option.some.injEq, reduceCtorEq] at h <;> (try subst h)
  case agg e' => exact absurd rfl (ha _)
  case slb => obtain ⟨a, cap, rfl, _⟩ := hv; exact ⟨rfl, rfl⟩
  case sli => obtain ⟨a, cap, rfl, _⟩ := hv; exact ⟨rfl, rfl⟩
  case sls => obtain ⟨a, cap, rfl, _⟩ := hv; exact ⟨rfl, rfl⟩
  case sle => obtain ⟨_, _, a, cap, rfl, _⟩ := hv; exact ⟨rfl, rfl⟩
  case pat => obtain ⟨_, _, _, rfl, _⟩ := hv; exact ⟨rfl, rfl⟩
  case fn => obtain ⟨_, rfl, _⟩ := hv; exact ⟨rfl, rfl⟩
  case ref => exact ⟨ref_one hv, rfl⟩
  case own => exact ⟨hv.2.one, rfl⟩
  case eref => exact ⟨eref_one hv, rfl⟩
  case vsl => exact ⟨vsl_one hv, rfl⟩
  case mp => exact ⟨mp_one hv, rfl⟩
  all_goals (cases hv; exact ⟨rfl, rfl⟩)
/-- A value's cells. -/
theorem rep_cells {v : V} {u : Value} (hv : Rep c v u) {e : List V} (h : segsOf v = some e) : Segs c e u.cells.toList := by
  by_cases ha : ∃ e', v = .agg e'
  · obtain ⟨e', rfl⟩ := ha
    simp only [segsOf, Option.some.injEq] at h
    subst h
    obtain ⟨cs, rfl, h2⟩ := hv
    exact h2
  · obtain ⟨h1, rfl⟩ := rep_oneCell hv h (fun e' he => ha ⟨e', he⟩)
    rw [cells_one h1]
    exact seg_one hv h1

/-! ### zero values -/
theorem zbytes (n : Nat) (l : List UInt8) (s : List Value) (h1 : (s.take n).length = n) (h2 : l.length = n) (h3 : l.all (· == 0) = true) (h4 : (s.take n).all (fun | .int .u8 0 => true | _ => false) = true) : s.take n = byteCells l := by
  apply List.ext_getElem (by rw [h1]; simp [byteCells, h2])
  intro i hi1 hi2
  have hi3 : i < l.length := by omega
  have q := List.all_eq_true.1 h4 _ (List.getElem_mem hi1)
  have q2 := List.all_eq_true.1 h3 l[i] (List.getElem_mem _)
  have q3 : l[i] = 0 := by simpa using q2
  simp only [byteCells, List.getElem_map, q3]
  revert q
  generalize (s.take n)[i] = x
  intro q
  split at q
  · rfl
  · cases q
theorem zints (k : IntKind) (n : Nat) (l : List Int) (s : List Value) (h1 : (s.take n).length = n) (h2 : l.length = n) (h3 : l.all (· == 0) = true) (h4 : (s.take n).all (fun | .int k' 0 => k == k' | _ => false) = true) : s.take n = intCells k l := by
  apply List.ext_getElem (by rw [h1]; simp [intCells, h2])
  intro i hi1 hi2
  have hi3 : i < l.length := by omega
  have q := List.all_eq_true.1 h4 _ (List.getElem_mem hi1)
  have q2 := List.all_eq_true.1 h3 l[i] (List.getElem_mem _)
  have q3 : l[i] = 0 := by simpa using q2
  simp only [intCells, List.getElem_map, q3]
  revert q
  generalize (s.take n)[i] = x
  intro q
  split at q
  · simp only [beq_iff_eq] at q; rw [q]
  · cases q
theorem zcheck_spec (l : List V) : ∀ (cs : List Value), zcheck l cs = true → Segs c l cs := by
  induction l with
  | nil =>
    intro cs h
    cases cs with
    | nil => rfl
    | cons a b => simp [zcheck] at h
  | cons v r ih =>
    intro cs h
    have fin : ∀ {x : Value} {s : List Value} {v : V}, Rep c v x → x.oneCell' = true → zcheck r s = true → Segs c (v :: r) (x :: s) := by
      intro x s v hx h1 hs
      have := Segs.append [v] r [x] s (seg_one hx h1) (ih s hs)
      exact this
    cases v
    case byt n l =>
      simp only [zcheck, Bool.and_eq_true, beq_iff_eq] at h
      obtain ⟨⟨⟨⟨h1, h2⟩, h3⟩, h4⟩, h5⟩ := h
      refine ⟨cs.drop n, h2, ?_, ih _ h5⟩
      rw [← zbytes n l cs h1 h2 h3 h4, List.take_append_drop]
    case arr k n l =>
      simp only [zcheck, Bool.and_eq_true, beq_iff_eq] at h
      obtain ⟨⟨⟨⟨h1, h2⟩, h3⟩, h4⟩, h5⟩ := h
      refine ⟨cs.drop n, h2, ?_, ih _ h5⟩
      rw [← zints k n l cs h1 h2 h3 h4, List.take_append_drop]
    case int k m =>
      unfold zcheck at h
      split at h <;> first | cases h | skip
      all_goals first | (rename_i e; cases e; done) | skip
      all_goals simp only [List.cons.injEq, V.int.injEq] at *
      rename_i e
      obtain ⟨⟨rfl, rfl⟩, rfl⟩ := e
      simp only [Bool.and_eq_true, beq_iff_eq] at h
      obtain ⟨rfl, h2⟩ := h
      exact fin rfl rfl h2
    case bool b =>
      cases cs with
      | nil => cases b <;> simp [zcheck] at h
      | cons x s => cases b <;> cases x <;> (try simp [zcheck] at h); rename_i q; cases q <;> (try simp [zcheck] at h); exact fin rfl rfl h
    case str b =>
      cases cs with
      | nil => cases b <;> simp [zcheck] at h
      | cons x s =>
        cases b <;> cases x <;> (try simp [zcheck] at h)
        obtain ⟨h1, h2⟩ := h
        refine fin ?_ rfl h2
        show _ = Value.string (bs [])
        congr 1
        apply ByteArray.ext; rw [h1]; rfl
    case nils =>
      cases cs with
      | nil => simp [zcheck] at h
      | cons x s =>
        cases x <;> (try simp [zcheck] at h)
        rename_i a n m
        unfold zcheck at h
        split at h <;> simp_all
        exact fin rfl rfl h
    case nilp =>
      cases cs with
      | nil => simp [zcheck] at h
      | cons x s =>
        cases x <;> (try simp [zcheck] at h)
        rename_i a
        cases a <;> (try simp [zcheck] at h)
        exact fin rfl rfl h
    case nilm =>
      cases cs with
      | nil => simp [zcheck] at h
      | cons x s =>
        cases x <;> (try simp [zcheck] at h)
        rename_i a
        cases a <;> (try simp [zcheck] at h)
        exact fin rfl rfl h
    case nilf =>
      cases cs with
      | nil => simp [zcheck] at h
      | cons x s => cases x <;> (try simp [zcheck] at h); exact fin rfl rfl h
    all_goals (simp [zcheck] at h)
theorem zeroP_spec {t : TypeId} {e : List V} (h : zeroP P t = some e) : ∃ i v, P.info? t = some i ∧ i.zero = some v ∧ ∀ c, Segs c e v.cells.toList := by
  unfold zeroP at h
  cases hi : P.info? t with
  | none => rw [hi] at h; cases h
  | some i =>
    rw [hi] at h
    simp only at h
    cases hz : i.zero with
    | none => rw [hz] at h; cases h
    | some v =>
      rw [hz] at h
      simp only at h
      split at h
      · rename_i hc; cases h; exact ⟨i, v, rfl, hz, fun c => zcheck_spec _ _ hc⟩
      · cases h

theorem run_zero {t : TypeId} {i : TypeInfo} {v : Value} (hi : P.info? t = some i) (hz : i.zero = some v) (w : World) : (zeroValue t).run P w = .ok v w := by
  simp [zeroValue, typeInfo, hi, hz]

/-! ### new variables -/
theorem new_var (I : Inv z c h) {e : List V} {cells : Array Value} {t : TypeId} (hs : Segs c e cells.toList) :
    Inv z (allocC c (.cells cells t)) ⟨setB h.b h.n (.var e), h.n + 1⟩ ∧ Ext c (allocC c (.cells cells t)) ∧ Rep (allocC c (.cells cells t)) (.ref h.n 0 0) (.pointer (some ⟨c.w.heap.size, 0, none⟩)) := by
  have ext := I.alloc_ext (.cells cells t)
  have hφ : (allocC c (.cells cells t)).φ c.n = .at c.w.heap.size 0 := if_pos rfl
  have hb : HBlk (allocC c (.cells cells t)) c.n (.var e) :=
    ⟨c.w.heap.size, 0, cells, t, cells.toList, hφ, heap_alloc_new _ _, Segs.ext ext e _ hs, by simp, fun j u hj => by rw [Nat.zero_add, ← Array.getElem?_toList]; exact hj⟩
  have I' := I.alloc (.cells cells t) (.var e) hb
  rw [I.n] at I' hφ
  refine ⟨I', ext, ?_, ?_⟩
  · show h.n < c.n + 1; rw [I.n]; exact Nat.lt_succ_self _
  · rw [hφ]
theorem pAlloc_res (I : Inv z c h) {t : TypeId} : Res P z c h (Instr.alloc t true (.tuple #[])) (pAlloc (zeroP P t) h.n) := by
  unfold pAlloc
  cases he : zeroP P t with
  | none => trivial
  | some e =>
    intro _
    obtain ⟨i, v, hi, hz, hs⟩ := zeroP_spec he
    obtain ⟨h1, h2, h3⟩ := new_var I (t := t) (hs c)
    refine ⟨_, _, ?_, h1, h2, h3⟩
    simp [Instr.alloc, run_zero hi hz, newVar, newRow, allocC]
theorem pBox_res (I : Inv z c h) {t : TypeId} {v : V} {u : Value} (hv : Rep c v u) : Res P z c h (Instr.box t u) (pBox v h.n) := by
  unfold pBox
  cases he : segsOf v with
  | none => trivial
  | some e =>
    intro _
    obtain ⟨h1, h2, h3⟩ := new_var I (t := t) (rep_cells hv he)
    refine ⟨_, _, ?_, h1, h2, h3⟩
    simp [Instr.box, newVar, newRow, allocC]
end
end Go.AM
end

section
/- AM, part 12: what is given up for good; what slices hold; literals; append. -/
namespace Go.AM
section
variable {P : Program} {z : Ctx0} {c : Cx} {h : H}

theorem updB_pubs (b : List (Nat × Blk)) : ∀ (ps : List Nat) (r : List (Nat × Option Blk)), updB b (pubs ps ++ r) = updB (delAll b ps) r
  | [], r => rfl
  | p :: ps, r => by
    show updB (delB b p) (pubs ps ++ r) = _
    rw [updB_pubs (delB b p) ps r]; rfl

/-- Several blocks are given up at once. -/
theorem Inv.pubAll (I : Inv z c h) : ∀ ps : List Nat, ∃ c', Inv z c' ⟨delAll h.b ps, h.n⟩ ∧ Ext c c' ∧ c'.w = c.w ∧ c'.n = c.n ∧ (∀ i ∈ ps, ∀ a s, c.φ i = .at a s → c'.ok a) ∧ (∀ i, i ∉ ps → c'.φ i = c.φ i) := by
  have key : ∀ (ps : List Nat) (c1 : Cx) (h1 : H), Inv z c1 h1 → ∃ c', Inv z c' ⟨delAll h1.b ps, h1.n⟩ ∧ Ext c1 c' ∧ c'.w = c1.w ∧ c'.n = c1.n ∧ (∀ i ∈ ps, ∀ a s, c1.φ i = .at a s → c'.ok a) ∧ (∀ i, i ∉ ps → c'.φ i = c1.φ i) := by
    intro ps
    induction ps with
    | nil => intro c1 h1 I1; exact ⟨c1, I1, Ext.refl _, rfl, rfl, by simp, fun _ _ => rfl⟩
    | cons p ps ih =>
      intro c1 h1 I1
      have I2 := I1.pub p (fun a => ∃ s, c1.φ p = .at a s) (fun a ha => ha)
      have e2 := pub_ext c1 p (fun a => ∃ s, c1.φ p = .at a s)
      obtain ⟨c', J, e, hw, hn, hok, hφ⟩ := ih _ _ I2
      refine ⟨c', J, ⟨Nat.le_trans e2.n e.n, fun i hi => ?_, fun b hb => e.ok b (e2.ok b hb), fun b hb => by rw [e.blk b (e2.ok b hb), e2.blk b hb], fun i b s hi hb => ?_⟩, hw, hn, fun i hi a s ha => ?_, fun i hi => ?_⟩
      · rcases e.φ i hi with q | q
        · rw [q]; exact e2.φ i hi
        · exact .inr q
      · rw [hw]; rfl
      · by_cases hip : i = p
        · subst hip; exact e.ok a (.inr ⟨s, ha⟩)
        · rcases List.mem_cons.1 hi with hi | hi
          · exact absurd hi hip
          · exact hok i hi a s ((killC_ne hip).trans ha)
      · rw [hφ i (fun hm => hi (List.mem_cons_of_mem _ hm))]
        exact killC_ne (fun e => hi (by rw [e]; exact List.mem_cons_self))
  exact fun ps => key ps c h I

/-- A context in which what was given up may be read. -/
structure Open (c c' : Cx) (ps : List Nat) : Prop where
  w : c'.w = c.w
  ok : ∀ a, c.ok a → c'.ok a
  ps : ∀ i ∈ ps, ∀ a s, c.φ i = .at a s → c'.ok a
theorem Open.dp {c c' : Cx} {ps : List Nat} (o : Open c c' ps) : Ext (dp c) (dp c') :=
  ⟨Nat.le_refl _, fun _ hi => absurd hi (Nat.not_lt_zero _), o.ok, fun b _ => by show c'.w.heap[b]? = c.w.heap[b]?; rw [o.w], fun _ _ _ hi => absurd hi (Nat.not_lt_zero _)⟩

theorem rw_len {c : Cx} {sz : Nat} {r : Rw} {cs : List Value} (h : RwCells c sz r cs) : cs.length = r.len * sz := by
  cases r with
  | bytes l => obtain ⟨rfl, rfl⟩ := h; simp [Rw.len, byteCells]
  | ints k l => obtain ⟨rfl, rfl⟩ := h; simp [Rw.len, intCells]
  | strs l => obtain ⟨rfl, rfl⟩ := h; simp [Rw.len, strCells]
  | els l => exact Elems.len l cs h
theorem rw_one {c : Cx} {sz : Nat} {r : Rw} {cs : List Value} (h : RwCells c sz r cs) : ∀ u ∈ cs, u.oneCell' = true := by
  cases r with
  | bytes l => obtain ⟨rfl, rfl⟩ := h; intro u hu; obtain ⟨x, _, rfl⟩ := List.mem_map.1 hu; rfl
  | ints k l => obtain ⟨rfl, rfl⟩ := h; intro u hu; obtain ⟨x, _, rfl⟩ := List.mem_map.1 hu; rfl
  | strs l => obtain ⟨rfl, rfl⟩ := h; intro u hu; obtain ⟨x, _, rfl⟩ := List.mem_map.1 hu; rfl
  | els l => exact Elems.one l cs h
theorem rw_cut {c : Cx} {sz : Nat} {r : Rw} {cs : List Value} (h : RwCells c sz r cs) (lo n : Nat) : RwCells c sz (r.cut lo n) ((cs.drop (lo * sz)).take (n * sz)) := by
  cases r with
  | bytes l => obtain ⟨rfl, rfl⟩ := h; exact ⟨rfl, byteCells_cut l lo n⟩
  | ints k l => obtain ⟨rfl, rfl⟩ := h; exact ⟨rfl, intCells_cut k l lo n⟩
  | strs l => obtain ⟨rfl, rfl⟩ := h; exact ⟨rfl, strCells_cut l lo n⟩
  | els l => exact Elems.take _ _ (Elems.drop l cs h lo) n
theorem cut_len {r : Rw} {lo n : Nat} (h : lo + n ≤ r.len) : (r.cut lo n).len = n := by
  cases r <;> simp only [Rw.len, Rw.cut] at * <;> simp <;> omega
theorem rwV_rep {c : Cx} {zz : Option Bool} {sz n : Nat} {r : Rw} {cs : List Value} {u : Value} (h : RwCells c sz r cs) (hs : Sl c zz n cs u) (hn : n = r.len) {lo m : Nat} (r0 : Rw) (hr : r = r0.cut lo m) : Rep (dp c) (rwV zz sz r0 lo m) u := by
  subst hr
  have hs' : Sl (dp c) zz n cs u := hs
  cases r0 with
  | bytes l => obtain ⟨_, rfl⟩ := h; subst hn; exact hs'
  | ints k l => obtain ⟨_, rfl⟩ := h; subst hn; exact hs'
  | strs l => obtain ⟨_, rfl⟩ := h; subst hn; exact hs'
  | els l => subst hn; exact ⟨cs, h, hs'⟩

/-- The cells of a row of the call's own, seen through a slice. -/
theorem own_cells (I : Inv z c h) {i s lo n : Nat} {r : Rw} {s' : Nat} (hg : h.get i = some (.row s' r)) (hs : s' = s) {u : Value} (hv : Rep c (.own i s lo n) u) (hr : lo + n ≤ r.len) :
    ∃ A cap cs, u = .slice A n cap ∧ n ≤ cap ∧ RwCells c s (r.cut lo n) cs ∧ (cs ≠ [] → ∃ ad b t, A = some ad ∧ c.φ i = .at b t ∧ ad.block = b ∧ ∀ j q, cs[j]? = some q → c.w.cell? (ad.add j) = some q) := by
  subst hs
  obtain ⟨hin, hb⟩ := getB_at I hg
  obtain ⟨_, hu⟩ := hv
  unfold ownFit at hu
  rcases hb with ⟨hφ, hl, hc⟩ | ⟨b, t, cur, ty, fr, cs, hφ, h2, h3, h4, h5, h6⟩
  · rw [hφ] at hu
    obtain ⟨rfl, rfl, rfl⟩ := hu
    exact ⟨none, 0, [], rfl, Nat.le_refl _, by simpa using rw_cut hc 0 0, fun hne => absurd rfl hne⟩
  · rw [hφ] at hu
    obtain ⟨a, cap, m, rfl, g2, g3, g4, g5⟩ := hu
    refine ⟨some a, cap, _, rfl, g2, rw_cut h4 lo n, fun hne => ?_⟩
    have hpos : 0 < cap := by
      rcases Nat.eq_zero_or_pos cap with e | e
      · exfalso; apply hne
        have : n = 0 := by omega
        subst this; simp
      · exact e
    refine ⟨a, b, t, rfl, hφ, by rw [g3.2 hpos], fun j q hj => ?_⟩
    rw [g3.2 hpos, addr_add, cell_row h2]
    rw [List.getElem?_take] at hj
    split at hj
    · rw [List.getElem?_drop] at hj
      rw [← h6 _ _ hj]
      congr 1; omega
    · cases hj

/-- An array of the call's own, seen through a slice. -/
theorem vsl_cells (I : Inv z c h) {i off lo n : Nat} {e a : List V} {sg : V} {r : List V} (hg : h.get i = some (.var e)) (hsp : splitC e off = some (a, sg :: r)) {u : Value} (hv : Rep c (.vsl i off lo n) u)
    {m : Nat} {all : List Value} (hall : ∀ q, Segs c (sg :: r) q → ∃ q', q = all ++ q') (hlen : all.length = m) (hn : lo + n ≤ m) :
    ∃ ad cap b t, u = .slice (some ad) n cap ∧ n ≤ cap ∧ c.φ i = .at b t ∧ (0 < cap → ad.block = b ∧ ∀ j q, ((all.drop lo).take n)[j]? = some q → c.w.cell? (ad.add j) = some q) := by
  obtain ⟨hin, b, t, cur, ty, cs, hφ, h2, h3, h4, h5⟩ := getB_at I hg
  obtain ⟨_, hu⟩ := hv
  rw [hφ] at hu
  obtain ⟨ad, cap, rfl, g2, g3⟩ := hu
  refine ⟨ad, cap, b, t, rfl, g2, hφ, fun hpos => ?_⟩
  rw [g3 hpos]
  refine ⟨rfl, fun j q hj => ?_⟩
  obtain ⟨ca, cr, e1, e2, e3, e4, _⟩ := splitC_spec e off a _ cs hsp h3
  obtain ⟨q', hq'⟩ := hall cr e4
  rw [addr_add, cell_row h2]
  rw [List.getElem?_take] at hj
  split at hj
  · rename_i hjn
    rw [List.getElem?_drop] at hj
    have : cs[off + (lo + j)]? = some q := by
      rw [e1, List.getElem?_append_right (by omega), e2, hq', List.getElem?_append_left (by omega), ← hj]
      congr 1; omega
    rw [← h5 _ _ this]
    congr 1; omega
  · cases hj

theorem deepen1_spec (I : Inv z c h) {c' : Cx} {v v' : V} {u : Value} {p : Prop} {ps ps' : List Nat} (hd : deepen1 h.get v = some (p, v', ps)) (hp : p) (hv : Rep c v u) (hsub : ∀ i ∈ ps, i ∈ ps') (o : Open c c' ps') : Rep (dp c') v' u := by
  have same : ∀ {v : V} {u : Value}, Rep (dp c) v u → Rep (dp c') v u := fun {v u} hv => Rep.ext o.dp v u hv
  cases v <;> simp only [deepen1] at hd <;> try (simp only [Option.some.injEq, Prod.mk.injEq, reduceCtorEq] at hd)
  case own i s lo n =>
    cases hg : h.get i with
    | none => rw [hg] at hd; cases hd
    | some x =>
      rw [hg] at hd
      cases x with
      | var _ => cases hd
      | map _ => cases hd
      | row s' r =>
        simp only at hd
        split at hd
        · rename_i hs
          simp only [Option.some.injEq, Prod.mk.injEq] at hd
          obtain ⟨rfl, rfl, rfl⟩ := hd
          obtain ⟨A, cap, cs, rfl, g2, g3, g4⟩ := own_cells I hg hs hv hp
          have g3' : RwCells c' s (r.cut lo n) cs := by
            cases hr : r.cut lo n with
            | els l => rw [hr] at g3; exact Elems.ext o.dp s l cs g3
            | _ => rw [hr] at g3; exact g3
          refine rwV_rep (c := c') g3' ⟨A, cap, rfl, g2, (fun b hb => by cases hb), fun hne => ?_⟩ (cut_len hp).symm r rfl
          obtain ⟨ad, b, t, h1, h2, h3, h4⟩ := g4 hne
          exact ⟨ad, h1, by rw [h3]; exact o.ps i (hsub i (by simp)) b t h2, fun j q hj => by rw [o.w]; exact h4 j q hj⟩
        · cases hd
  case vsl i off lo n =>
    cases hg : h.get i with
    | none => rw [hg] at hd; cases hd
    | some x =>
      rw [hg] at hd
      cases x with
      | row _ _ => cases hd
      | map _ => cases hd
      | var e =>
        simp only at hd
        split at hd
        · rename_i a m l r hsp
          simp only [Option.some.injEq, Prod.mk.injEq] at hd
          obtain ⟨rfl, rfl, rfl⟩ := hd
          obtain ⟨hin, b0, t0, cur0, ty0, cs0, hφ0, _, hs0, _, _⟩ := getB_at I hg
          obtain ⟨ca, cr, e1, e2, e3, e4, _⟩ := splitC_spec e off a _ cs0 hsp hs0
          obtain ⟨q0, hl, _, _⟩ := e4
          obtain ⟨ad, cap, b, t, rfl, g2, g3, g4⟩ := vsl_cells I hg hsp hv (m := m) (all := byteCells l) (fun q hq => by obtain ⟨q', _, h2, _⟩ := hq; exact ⟨q', h2⟩) (by simp [byteCells, hl]) hp
          have hlen : ((l.drop lo).take n).length = n := by simp; omega
          refine ⟨some ad, cap, by rw [hlen], by rw [hlen]; exact g2, (fun b hb => by cases hb; rfl), fun hne => ?_⟩
          have hpos : 0 < cap := by
            rcases Nat.eq_zero_or_pos cap with e | e
            · exfalso; apply hne; have : n = 0 := by omega
              subst this; simp [byteCells]
            · exact e
          obtain ⟨k1, k2⟩ := g4 hpos
          refine ⟨ad, rfl, ?_, fun j q hj => ?_⟩
          · show c'.ok _; rw [k1]; exact o.ps i (hsub i (by simp)) b t g3
          · show c'.w.cell? _ = _
            rw [o.w]
            exact k2 j q (by rw [← hj]; simp [byteCells, List.map_take, List.map_drop])
        · rename_i a k m l r hsp
          simp only [Option.some.injEq, Prod.mk.injEq] at hd
          obtain ⟨rfl, rfl, rfl⟩ := hd
          obtain ⟨hin, b0, t0, cur0, ty0, cs0, hφ0, _, hs0, _, _⟩ := getB_at I hg
          obtain ⟨ca, cr, e1, e2, e3, e4, _⟩ := splitC_spec e off a _ cs0 hsp hs0
          obtain ⟨q0, hl, _, _⟩ := e4
          obtain ⟨ad, cap, b, t, rfl, g2, g3, g4⟩ := vsl_cells I hg hsp hv (m := m) (all := intCells k l) (fun q hq => by obtain ⟨q', _, h2, _⟩ := hq; exact ⟨q', h2⟩) (by simp [intCells, hl]) hp
          have hlen : ((l.drop lo).take n).length = n := by simp; omega
          refine ⟨some ad, cap, by rw [hlen], by rw [hlen]; exact g2, (fun b hb => by cases hb; rfl), fun hne => ?_⟩
          have hpos : 0 < cap := by
            rcases Nat.eq_zero_or_pos cap with e | e
            · exfalso; apply hne; have : n = 0 := by omega
              subst this; simp [intCells]
            · exact e
          obtain ⟨k1, k2⟩ := g4 hpos
          refine ⟨ad, rfl, ?_, fun j q hj => ?_⟩
          · show c'.ok _; rw [k1]; exact o.ps i (hsub i (by simp)) b t g3
          · show c'.w.cell? _ = _
            rw [o.w]
            exact k2 j q (by rw [← hj]; simp [intCells, List.map_take, List.map_drop])
        · cases hd
  all_goals first
    | (exfalso; exact hd.elim)
    | (obtain ⟨_, rfl, _⟩ := hd; exact same (v := _) hv)
end
end Go.AM
end

section
/- AM, part 13: literals; what is appended; append. -/
namespace Go.AM
section
variable {P : Program} {z : Ctx0} {c : Cx} {h : H}

theorem nseg1 {g : G} {v v' : V} {p : Prop} {ps : List Nat} (hd : deepen1 g v = some (p, v', ps)) : nseg v' = nseg v ∧ (∀ e, v' ≠ .agg e) := by
  cases v <;> simp only [deepen1] at hd <;> try (simp only [Option.some.injEq, Prod.mk.injEq, reduceCtorEq] at hd)
  case own i s lo n =>
    split at hd
    · split at hd
      · rename_i r _ _
        simp only [Option.some.injEq, Prod.mk.injEq] at hd
        obtain ⟨_, rfl, _⟩ := hd
        cases r <;> exact ⟨rfl, fun e he => by cases he⟩
      · cases hd
    · cases hd
  case vsl i off lo n =>
    split at hd
    · split at hd
      · simp only [Option.some.injEq, Prod.mk.injEq] at hd; obtain ⟨_, rfl, _⟩ := hd; exact ⟨rfl, fun e he => by cases he⟩
      · simp only [Option.some.injEq, Prod.mk.injEq] at hd; obtain ⟨_, rfl, _⟩ := hd; exact ⟨rfl, fun e he => by cases he⟩
      · cases hd
    · cases hd
  all_goals first
    | (exfalso; exact hd.elim)
    | (obtain ⟨_, rfl, _⟩ := hd; exact ⟨rfl, fun e he => by cases he⟩)

theorem deepen1_arr {g : G} {k : IntKind} {n : Nat} {l : List Int} : deepen1 g (.arr k n l) = some (True, .arr k n l, []) := rfl

theorem deepenL_spec (I : Inv z c h) {c' : Cx} : ∀ (l : List V) {l' : List V} {p : Prop} {ps ps' : List Nat} {cs : List Value}, deepenL h.get l = some (p, l', ps) → p → Segs c l cs → (∀ i ∈ ps, i ∈ ps') → Open c c' ps' → Segs (dp c') l' cs
  | [], l', p, ps, ps', cs, hd, hp, hs, hsub, o => by
    simp only [deepenL, Option.some.injEq, Prod.mk.injEq] at hd
    obtain ⟨_, rfl, _⟩ := hd
    exact hs
  | v :: r, l', p, ps, ps', cs, hd, hp, hs, hsub, o => by
    simp only [deepenL] at hd
    split at hd
    · rename_i q1 v' a q2 r' b h1 h2
      simp only [Option.some.injEq, Prod.mk.injEq] at hd
      obtain ⟨rfl, rfl, rfl⟩ := hd
      obtain ⟨hp1, hp2⟩ := hp
      have hsa : ∀ i ∈ a, i ∈ ps' := fun i hi => hsub i (List.mem_append.2 (.inl hi))
      have hsb : ∀ i ∈ b, i ∈ ps' := fun i hi => hsub i (List.mem_append.2 (.inr hi))
      cases v
      case arr k n l =>
        rw [deepen1_arr] at h1
        simp only [Option.some.injEq, Prod.mk.injEq] at h1
        obtain ⟨_, rfl, _⟩ := h1
        obtain ⟨q, e1, e2, e3⟩ := hs
        exact ⟨q, e1, e2, deepenL_spec I r h2 hp2 e3 hsb o⟩
      case byt n l =>
        have : deepen1 h.get (.byt n l) = some (True, .byt n l, []) := rfl
        rw [this] at h1
        simp only [Option.some.injEq, Prod.mk.injEq] at h1
        obtain ⟨_, rfl, _⟩ := h1
        obtain ⟨q, e1, e2, e3⟩ := hs
        exact ⟨q, e1, e2, deepenL_spec I r h2 hp2 e3 hsb o⟩
      all_goals
        (obtain ⟨u, q, e1, e2, e3, e4⟩ := hs
         subst e1
         have g1 := deepen1_spec I h1 hp1 e3 hsa o
         exact Segs.append [v'] r' [u] q (seg_one g1 e2) (deepenL_spec I r h2 hp2 e4 hsb o))
    · cases hd

theorem deepen_spec (I : Inv z c h) {c' : Cx} {v v' : V} {u : Value} {p : Prop} {ps ps' : List Nat} (hd : deepen h.get v = some (p, v', ps)) (hp : p) (hv : Rep c v u) (hsub : ∀ i ∈ ps, i ∈ ps') (o : Open c c' ps') : Rep (dp c') v' u := by
  cases v
  case agg e =>
    simp only [deepen] at hd
    split at hd
    · rename_i q e' a he
      simp only [Option.some.injEq, Prod.mk.injEq] at hd
      obtain ⟨rfl, rfl, rfl⟩ := hd
      obtain ⟨cs, rfl, h2⟩ := hv
      exact ⟨cs, rfl, deepenL_spec I e he hp h2 hsub o⟩
    · cases hd
  all_goals (simp only [deepen] at hd; exact deepen1_spec I hd hp hv hsub o)

theorem deepens_spec (I : Inv z c h) {c' : Cx} : ∀ (l : List V) {l' : List V} {p : Prop} {ps ps' : List Nat} {us : List Value}, deepens h.get l = some (p, l', ps) → p → Reps c l us → (∀ i ∈ ps, i ∈ ps') → Open c c' ps' → Reps (dp c') l' us
  | [], l', p, ps, ps', us, hd, hp, hs, hsub, o => by
    simp only [deepens, Option.some.injEq, Prod.mk.injEq] at hd
    obtain ⟨_, rfl, _⟩ := hd
    exact hs
  | v :: r, l', p, ps, ps', us, hd, hp, hs, hsub, o => by
    simp only [deepens] at hd
    split at hd
    · rename_i q1 v' a q2 r' b h1 h2
      simp only [Option.some.injEq, Prod.mk.injEq] at hd
      obtain ⟨rfl, rfl, rfl⟩ := hd
      obtain ⟨u, us', e1, e2, e3⟩ := hs
      exact ⟨u, us', e1, deepen_spec I h1 hp.1 e2 (fun i hi => hsub i (List.mem_append.2 (.inl hi))) o, deepens_spec I r h2 hp.2 e3 (fun i hi => hsub i (List.mem_append.2 (.inr hi))) o⟩
    · cases hd

/-! ### a row of values -/
theorem rowOf_spec {c : Cx} {sz : Nat} (ek : EK) (hek : (match ek with | .els => True | _ => sz = 1)) : ∀ (l : List V) {p : Prop} {r : Rw} {us : List Value}, rowOf ek l = some (p, r) → p → Reps (dp c) l us → (∀ u ∈ us, u.cells.size = sz) →
    RwCells c sz r (us.flatMap fun u => u.cells.toList) ∧ r.len = l.length
  | [], p, r, us, hr, hp, hs, hsz => by
    cases hs
    cases ek <;> (simp only [rowOf, Rw.nil, Option.some.injEq, Prod.mk.injEq] at hr; obtain ⟨_, rfl⟩ := hr)
    · exact ⟨⟨hek, rfl⟩, rfl⟩
    · exact ⟨⟨hek, rfl⟩, rfl⟩
    · exact ⟨⟨hek, rfl⟩, rfl⟩
    · exact ⟨rfl, rfl⟩
  | v :: q, p, r, us, hr, hp, hs, hsz => by
    obtain ⟨u, us', rfl, h2, h3⟩ := hs
    have hu := hsz u (by simp)
    have hus : ∀ u ∈ us', u.cells.size = sz := fun x hx => hsz x (by simp [hx])
    simp only [rowOf] at hr
    split at hr
    · rename_i m p' l hq
      simp only [Option.some.injEq, Prod.mk.injEq] at hr
      obtain ⟨rfl, rfl⟩ := hr
      obtain ⟨⟨_, g1⟩, g2⟩ := rowOf_spec .byte hek q hq hp.2.2 h3 hus
      cases h2
      refine ⟨⟨hek, ?_⟩, by simp [Rw.len] at g2 ⊢; omega⟩
      rw [List.flatMap_cons, g1]
      have : (((UInt8.ofNat m.toNat).toNat : Nat) : Int) = m := by
        rw [UInt8.toNat_ofNat']; have := hp.1; have := hp.2.1; omega
      simp only [byteCells, List.map_cons, this]
      rfl
    · rename_i k k' m _ p' k2 l hq
      split at hr
      · rename_i hk
        simp only [Option.some.injEq, Prod.mk.injEq] at hr
        obtain ⟨rfl, rfl⟩ := hr
        obtain ⟨rfl, rfl⟩ := hk
        obtain ⟨⟨_, g1⟩, g2⟩ := rowOf_spec (.int _) hek q hq hp h3 hus
        cases h2
        refine ⟨⟨hek, ?_⟩, by simp [Rw.len] at g2 ⊢; omega⟩
        rw [List.flatMap_cons, g1]
        simp [intCells, Value.cells]
      · cases hr
    · rename_i s _ p' l hq
      simp only [Option.some.injEq, Prod.mk.injEq] at hr
      obtain ⟨rfl, rfl⟩ := hr
      obtain ⟨⟨_, g1⟩, g2⟩ := rowOf_spec .str hek q hq hp h3 hus
      cases h2
      refine ⟨⟨hek, ?_⟩, by simp [Rw.len] at g2 ⊢; omega⟩
      rw [List.flatMap_cons, g1]
      simp [strCells, Value.cells]
    · rename_i p' l hq
      split at hr
      · rename_i e he
        simp only [Option.some.injEq, Prod.mk.injEq] at hr
        obtain ⟨rfl, rfl⟩ := hr
        obtain ⟨g1, g2⟩ := rowOf_spec .els hek q hq hp h3 hus
        refine ⟨⟨u.cells.toList, _, by rw [List.flatMap_cons], by rw [Array.length_toList]; exact hu, rep_cells h2 he, g1⟩, by simp [Rw.len] at g2 ⊢; omega⟩
      · cases hr
    · cases hr

/-! ### literals -/
def Prs (c : Cx) : List (Nat × V) → List (Nat × Value) → Prop
  | [], us => us = []
  | q :: r, us => ∃ u us', us = u :: us' ∧ u.1 = q.1 ∧ Rep c q.2 u.2 ∧ Prs c r us'

theorem fold_cells (u : Value) (ca cm cb : List Value) (hl : u.cells.toList.length = cm.length) :
    (u.cells.zipIdx.foldl (fun cs (x : Value × Nat) => cs.setIfInBounds (ca.length + x.2) x.1) (⟨ca ++ cm ++ cb⟩ : Array Value)) = ⟨ca ++ u.cells.toList ++ cb⟩ := by
  rw [← Array.foldl_toList, Array.toList_zipIdx]
  obtain ⟨h1, h2⟩ := Great.foldl_set ca.length u.cells.toList 0 (⟨ca ++ cm ++ cb⟩ : Array Value)
  apply Array.ext_getElem?
  intro k
  rw [h2 k]
  have hs : (⟨ca ++ cm ++ cb⟩ : Array Value).size = ca.length + cm.length + cb.length := by simp; omega
  rw [hs]
  simp only [List.getElem?_toArray, Nat.add_zero, hl]
  by_cases h3 : ca.length ≤ k ∧ k < ca.length + cm.length ∧ k < ca.length + cm.length + cb.length
  · rw [if_pos h3, List.getElem?_append_left (by simp; rw [Array.length_toList] at hl; omega), List.getElem?_append_right (by omega)]
  · rw [if_neg h3]
    by_cases h4 : k < ca.length
    · rw [List.getElem?_append_left (by simp; omega), List.getElem?_append_left h4, List.getElem?_append_left (by simp; omega), List.getElem?_append_left h4]
    · rw [List.getElem?_append_right (by simp; omega), List.getElem?_append_right (by simp; rw [Array.length_toList] at hl; omega)]
      congr 1
      simp; rw [Array.length_toList] at hl; omega

theorem storeE_agg {c : Cx} {sz off : Nat} {e e' : List V} {x : V} {p : Prop} {cs : List Value} {u : Value} (h : storeE true sz e off 0 x = some (p, e')) (hs : Segs c e cs) (hx : Rep c x u) :
    ∃ ca cm cb, cs = ca ++ cm ++ cb ∧ ca.length = off ∧ cm.length = sz ∧ u.cells.toList.length = sz ∧ Segs c e' (ca ++ u.cells.toList ++ cb) := by
  unfold storeE at h
  split at h
  · cases h
  · rename_i a r hsp
    obtain ⟨ca, cr, e1, e2, e3, e4, _⟩ := splitC_spec e off a r cs hsp hs
    simp only at h
    split at h
    · rename_i _ b ns hsp2 hseg
      obtain ⟨cm, cb, f1, f2, f3, f4, _⟩ := splitC_spec r sz _ b cr hsp2 e4
      split at h
      · rename_i hn
        simp only [Option.some.injEq, Prod.mk.injEq] at h
        obtain ⟨_, rfl⟩ := h
        have hc := rep_cells hx hseg
        refine ⟨ca, cm, cb, by rw [e1, f1]; simp, e2, f2, by rw [Segs.len ns _ hc]; exact hn, ?_⟩
        exact Segs.append _ _ _ _ (Segs.append _ _ _ _ e3 hc) f4
      · cases h
    · cases h

theorem fill_spec {c : Cx} {place : Nat → Option (Nat × Nat)} (pl : Nat → Nat × Nat) : ∀ (parts : List (Nat × V)) {us : List (Nat × Value)} {e e' : List V} {cs : Array Value},
    Prs c parts us → (∀ q ∈ parts, place q.1 = some (pl q.1)) → fillE e (parts.map fun q => ((pl q.1).1, (pl q.1).2, q.2)) = some e' → Segs c e cs.toList →
    ∃ cs' : Array Value, Instr.fill place cs us = some cs' ∧ Segs c e' cs'.toList
  | [], us, e, e', cs, hp, _, hf, hs => by
    cases hp
    simp only [List.map_nil, fillE, Option.some.injEq] at hf
    subst hf
    exact ⟨cs, rfl, hs⟩
  | q :: r, us, e, e', cs, hp, hpl, hf, hs => by
    obtain ⟨⟨i, u⟩, us', rfl, h1, h2, h3⟩ := hp
    simp only at h1 h2
    subst h1
    simp only [List.map_cons, fillE] at hf
    split at hf
    · rename_i p e1 hst
      obtain ⟨ca, cm, cb, g1, g2, g3, g4, g5⟩ := storeE_agg hst hs h2
      have hcs : cs = ⟨ca ++ cm ++ cb⟩ := by rw [← g1]
      obtain ⟨cs', k1, k2⟩ := fill_spec pl r (cs := ⟨ca ++ u.cells.toList ++ cb⟩) h3 (fun x hx => hpl x (by simp [hx])) hf g5
      refine ⟨cs', ?_, k2⟩
      unfold Instr.fill
      simp only [hpl q (by simp)]
      have g4' : u.cells.size = (pl q.1).2 := by rw [← Array.length_toList]; exact g4
      rw [if_neg (by rw [hcs, g4']; simp; omega)]
      rw [← k1]
      congr 1
      rw [hcs, ← g2]
      exact fold_cells u ca cm cb (by rw [g4, g3])
    · cases hf

theorem mapM_some {α β : Type} (f : α → Option β) (g : α → β) : ∀ l : List α, (∀ x ∈ l, f x = some (g x)) → l.mapM f = some (l.map g)
  | [], _ => rfl
  | x :: r, h => by
    rw [List.mapM_cons, h x (by simp), mapM_some f g r (fun y hy => h y (by simp [hy]))]
    rfl

theorem pBuild_res (I : Inv z c h) {t : TypeId} {parts : List (Nat × V)} {us : List (Nat × Value)} (hok : buildOk P t (parts.map (·.1)) = true) (hp : Prs c parts us) :
    Res P z c h (Instr.build t ⟨us⟩) (pBuild (zeroP P t) (parts.map fun q => ((partP P t q.1).1, (partP P t q.1).2, q.2))) := by
  unfold pBuild
  cases he : zeroP P t with
  | none => trivial
  | some e =>
    simp only
    cases hf : fillE e (parts.map fun q => ((partP P t q.1).1, (partP P t q.1).2, q.2)) with
    | none => trivial
    | some e' =>
      refine Res.same I fun _ => ?_
      obtain ⟨i, v, hi, hz, hs⟩ := zeroP_spec he
      have key : ∃ cs' : Array Value, P.built t us = some cs' ∧ Segs c e' cs'.toList := by
        unfold buildOk at hok
        unfold Program.built
        rw [hi]
        cases hu : P.underlying t with
        | none => rw [hu] at hok; cases hok
        | some d =>
          rw [hu] at hok
          cases d <;> try (cases hok; done)
          case array n el =>
            simp only at hok
            obtain ⟨ie, hie⟩ := Option.isSome_iff_exists.1 hok
            simp only [hz, hie]
            have hpl : ∀ j, partP P t j = (j * ie.size, ie.size) := by intro j; simp [partP, hu, szP, hie]
            exact fill_spec (partP P t) parts hp (fun q _ => by rw [hpl]) hf (hs c)
          case struct fs =>
            simp only [Bool.and_eq_true] at hok
            have hm : fs.toList.mapM (fun f => (P.info? f.type).map fun i => (f.offset, i.size)) = some (fs.toList.map fun f => (f.offset, szP P f.type)) := by
              apply mapM_some
              intro f hf
              obtain ⟨ie, hie⟩ := Option.isSome_iff_exists.1 (List.all_eq_true.1 hok.1 f hf)
              simp [hie, szP]
            simp only [hz, hm]
            refine fill_spec (partP P t) parts hp (fun q hq => ?_) hf (hs c)
            have hq' : q.1 < fs.size := by
              have := List.all_eq_true.1 hok.2 q.1 (List.mem_map.2 ⟨q, hq, rfl⟩)
              simpa using this
            simp [partP, hu, hq']
      obtain ⟨cs', k1, k2⟩ := key
      exact ⟨.agg cs', run_build c.w t ⟨us⟩ cs' k1, cs'.toList, rfl, k2⟩
end
end Go.AM
end

section
/- AM, part 14: new rows; what a slice holds; append. -/
namespace Go.AM
section
variable {P : Program} {z : Ctx0} {c : Cx} {h : H}

theorem setB_setB (b : List (Nat × Blk)) (i : Nat) (x y : Blk) : setB (setB b i x) i y = setB b i y := by
  have dd : ∀ b : List (Nat × Blk), delB (delB b i) i = delB b i := by
    intro b
    induction b with
    | nil => rfl
    | cons q r ih =>
      obtain ⟨j, w⟩ := q
      by_cases hj : j = i
      · simp only [delB, hj, if_true, ih]
      · simp only [delB, hj, if_false, ih]
  induction b with
  | nil => simp [setB, delB]
  | cons q r ih =>
    obtain ⟨j, w⟩ := q
    by_cases hj : j = i
    · simp only [setB, hj, if_true, dd]
    · simp only [setB, hj, if_false, ih]

theorem Ext.trans {c c' c2 : Cx} (a : Ext c c') (b : Ext c' c2) : Ext c c2 where
  n := Nat.le_trans a.n b.n
  φ := fun i hi => by
    rcases b.φ i (Nat.lt_of_lt_of_le hi a.n) with q | q
    · rw [q]; exact a.φ i hi
    · exact .inr q
  ok := fun _ hb => b.ok _ (a.ok _ hb)
  blk := fun k hb => by rw [b.blk k (a.ok k hb), a.blk k hb]
  sz := fun i k s hi hb => by
    have hi' := Nat.lt_of_lt_of_le hi a.n
    rw [b.sz i k s hi' hb]
    rcases b.φ i hi' with q | q
    · exact a.sz i k s hi (q.symm.trans hb)
    · rw [q] at hb; cases hb

/-- A row of cells, with room behind it. -/
theorem new_row (I : Inv z c h) {cells : Array Value} {t : TypeId} {sz cap : Nat} {r : Rw} {cs : List Value} (hc : RwCells c sz r cs) (hsub : ∀ (j : Nat) (u : Value), cs[j]? = some u → cells[j]? = some u)
    (hcap : cap * sz ≤ cells.size) (hr : r.len ≤ cap) {fr : Nat × Nat} (hfr : noFz cells.size fr) :
    Inv z (allocC c (.cells cells t fr)) ⟨setB h.b h.n (.row sz r), h.n + 1⟩ ∧ Ext c (allocC c (.cells cells t fr)) ∧ Rep (allocC c (.cells cells t fr)) (.own h.n sz 0 r.len) (.slice (some ⟨c.w.heap.size, 0, none⟩) r.len cap) := by
  have ext := I.alloc_ext (.cells cells t fr)
  have hφ : (allocC c (.cells cells t fr)).φ c.n = .at c.w.heap.size 0 := if_pos rfl
  have hb : HBlk (allocC c (.cells cells t fr)) c.n (.row sz r) := by
    refine .inr ⟨c.w.heap.size, 0, cells, t, fr, cs, hφ, heap_alloc_new _ _, hfr, hc.ext ext, ?_, fun j u hj => by rw [Nat.zero_add]; exact hsub j u hj⟩
    rw [rw_len hc, Nat.zero_add]
    exact Nat.le_trans (Nat.mul_le_mul_right _ hr) hcap
  have I' := I.alloc (.cells cells t fr) (.row sz r) hb
  rw [I.n] at I' hφ
  refine ⟨I', ext, ?_, ?_⟩
  · show h.n < c.n + 1; rw [I.n]; exact Nat.lt_succ_self _
  · show ownFit _ _ _ _ _ _
    unfold ownFit
    rw [hφ]
    refine ⟨_, cap, cells.size, rfl, hr, ⟨rfl, fun _ => by simp⟩, ?_, by simpa using hcap⟩
    show sizeAt (c.w.alloc _) _ = _
    unfold sizeAt
    rw [heap_alloc_new]

theorem noFz0 (n : Nat) : noFz n (0, 0) := .inl rfl
theorem noFz.not {n : Nat} {fr : Nat × Nat} (h : noFz n fr) : ∀ i, i < n → ¬ (fr.1 ≤ i ∧ i < fr.2) := by
  intro i hi
  rcases h with rfl | h
  · simp
  · omega

theorem ekFit_spec {ek : EK} {sz : Nat} (h : ekFit ek sz = true) : match (generalizing := false) ek with | .els => True | _ => sz = 1 := by
  cases ek <;> simp [ekFit] at h <;> simp [h]
theorem zokP_spec {t : TypeId} (h : zokP P t = true) : ∃ i v, P.info? t = some i ∧ i.zero = some v ∧ v.cells.size = i.size ∧ 0 < i.size ∧ 0 < i.bytes ∧ szP P t = i.size ∧ bytesP P t = i.bytes := by
  unfold zokP at h
  cases hi : P.info? t with
  | none => rw [hi] at h; cases h
  | some i =>
    rw [hi] at h
    simp only at h
    cases hz : i.zero with
    | none => rw [hz] at h; cases h
    | some v =>
      rw [hz] at h
      simp only [Bool.and_eq_true, beq_iff_eq, bne_iff_ne] at h
      exact ⟨i, v, rfl, hz, h.1.1, by omega, by omega, by simp [szP, hi], by simp [bytesP, hi]⟩
theorem isSl_spec {t : TypeId} (h : isSl P t = true) : P.underlying t = some (.slice (elemP P t)) := by
  unfold isSl at h
  unfold elemP
  cases hu : P.underlying t with
  | none => rw [hu] at h; cases h
  | some d => rw [hu] at h; cases d <;> first | rfl | cases h

theorem szFits {c : Cx} {sz : Nat} : ∀ (l : List V) (us : List Value), Reps c l us → l.all (szFit sz) = true → ∀ u ∈ us, u.cells.size = sz
  | [], us, h, _, u, hu => by cases h; cases hu
  | v :: r, us, h, ha, u, hu => by
    obtain ⟨x, us', rfl, h2, h3⟩ := h
    simp only [List.all_cons, Bool.and_eq_true] at ha
    rcases List.mem_cons.1 hu with rfl | hu
    · have ha1 := ha.1
      unfold szFit at ha1
      cases he : segsOf v with
      | none => rw [he] at ha1; cases ha1
      | some e =>
        rw [he] at ha1
        simp only [beq_iff_eq] at ha1
        rw [← Array.length_toList, Segs.len e _ (rep_cells h2 he), ha1]
    · exact szFits r us' h3 ha.2 u hu
theorem Reps.len {c : Cx} : ∀ (l : List V) (us : List Value), Reps c l us → us.length = l.length
  | [], us, h => by cases h; rfl
  | v :: r, us, h => by obtain ⟨x, us', rfl, _, h3⟩ := h; simp [Reps.len r us' h3]
theorem deepens_len {g : G} : ∀ (l : List V) {l' : List V} {p : Prop} {ps : List Nat}, deepens g l = some (p, l', ps) → l'.length = l.length
  | [], l', p, ps, h => by simp only [deepens, Option.some.injEq, Prod.mk.injEq] at h; obtain ⟨_, rfl, _⟩ := h; rfl
  | v :: r, l', p, ps, h => by
    simp only [deepens] at h
    split at h
    · rename_i h1 h2
      simp only [Option.some.injEq, Prod.mk.injEq] at h
      obtain ⟨_, rfl, _⟩ := h
      simp [deepens_len r h2]
    · cases h

theorem app_pubs (h : H) (ps : List Nat) (i : Nat) (x : Blk) (n : Nat) : h.app (pubs ps ++ [(i, some x)]) n = ⟨setB (delAll h.b ps) i x, h.n + n⟩ := by
  unfold H.app; rw [updB_pubs]; rfl

theorem pBuildSlice_res (I : Inv z c h) {t : TypeId} {len : Nat} {xs : List V} {us : List Value} (hsl : isSl P t = true) (hz : zokP P (elemP P t) = true) (hsm : len * szP P (elemP P t) ≤ 16777216) (hx : Reps c xs us) :
    Res P z c h (Instr.buildSlice t len ⟨(us.zipIdx 0).map fun x => (x.2, x.1)⟩) (pBuildSlice (ekP P t) (szP P (elemP P t)) len xs h.get h.n) := by
  obtain ⟨i, v, hi, hzz, hs1, hs2, _, hs3, _⟩ := zokP_spec hz
  have hu := isSl_spec hsl
  unfold pBuildSlice
  cases hd : deepens h.get xs with
  | none => trivial
  | some q =>
    obtain ⟨p, ys, ps⟩ := q
    simp only
    cases hr : rowOf (ekP P t) ys with
    | none => trivial
    | some q =>
      obtain ⟨p2, r⟩ := q
      simp only
      split
      · rename_i hc
        obtain ⟨hlen, hek, hsz⟩ := hc
        rintro ⟨hp, hp2⟩
        obtain ⟨c', I', e', hw, hn, hok, hφ⟩ := I.pubAll ps
        have o : Open c c' ps := ⟨hw, fun a ha => e'.ok a ha, hok⟩
        have hy := deepens_spec I xs hd hp hx (fun _ h => h) o
        have hus := szFits ys us hy hsz
        obtain ⟨hrc, hrl⟩ := rowOf_spec (ekP P t) (ekFit_spec hek) ys hr hp2 hy hus
        have hul : us.length = len := by rw [Reps.len _ _ hx, hlen]
        have hrl' : r.len = len := by rw [hrl, deepens_len xs hd, hlen]
        rw [hs3] at hrc hus hsm
        have hflat : (us.flatMap fun u => u.cells.toList).length = len * i.size := by
          rw [rw_len hrc, hrl']
        obtain ⟨J1, J2, J3⟩ := new_row I' (cells := ⟨us.flatMap fun u => u.cells.toList⟩) (t := elemP P t) (sz := i.size) (cap := len) (r := r) (cs := us.flatMap fun u => u.cells.toList) hrc
          (fun j u hj => by simpa using hj) (by rw [← Array.length_toList]; show _ ≤ (List.flatMap _ us).length; rw [hflat]; exact Nat.le_refl _) (by rw [hrl']; exact Nat.le_refl _) (noFz0 _)
        refine ⟨_, _, ?_, by rw [app_pubs, hs3]; exact J1, e'.trans J2, by rw [hs3]; rw [hrl'] at J3; exact J3⟩
        · by_cases hl0 : len = 0
          · subst hl0
            have : us = [] := List.eq_nil_of_length_eq_zero hul
            subst this
            simp [Instr.buildSlice, run_underlying hu, sizeOf, typeInfo, hi, Instr.fill, newRow, allocC, hw, Array.range_zero']
          · have hpos : ¬ len * i.size = 0 := by
              intro h0
              rcases Nat.mul_eq_zero.1 h0 with h0 | h0
              · exact hl0 h0
              · omega
            have hf := Great.fill_whole hs2 us ((Array.range (len * i.size)).map (v.cells[· % v.cells.size]!)) hus (by rw [hul]; simp)
            have := run_buildSlice (P := P) c.w t (elemP P t) len ⟨(us.zipIdx 0).map fun x => (x.2, x.1)⟩ _ i v hu hi hzz (by omega) hpos hf
            rw [this, hw]
            show _ = Result.ok _ (c'.w.alloc _)
            rw [hw]
      · trivial
theorem app_pubs0 (h : H) (ps : List Nat) : h.app (pubs ps) 0 = ⟨delAll h.b ps, h.n⟩ := by
  have : updB h.b (pubs ps) = delAll h.b ps := by
    have := updB_pubs h.b ps []
    rw [List.append_nil] at this
    rw [this]; rfl
  unfold H.app; rw [this]; rfl
theorem pS2A_res (I : Inv z c h) {t e : TypeId} {n : Nat} {v : V} {u : Value} (hu : P.underlying t = some (.array n e)) (hv : Rep c v u) : Res P z c h (Instr.arrayAt t u) (pS2A n v h.get) := by
  have fin : ∀ {q : Prop} {ps : List Nat} {v' : V} {zz : Option Bool} {m : Nat} {cs : List Value} {sg : V}, deepen1 h.get v = some (q, v', ps) → cs.length = m → (∀ cc : Cx, ∀ u, Rep (dp cc) v' u → Sl (dp cc) zz m cs u) → (∀ cc : Cx, n ≤ m → Segs (dp (dp cc)) [sg] (cs.take n)) →
      (q ∧ 0 < n ∧ n ≤ m) → ∃ uu c', (Instr.arrayAt t u).run P c.w = .ok uu c'.w ∧ Inv z c' (h.app (pubs ps) 0) ∧ Ext c c' ∧ Rep c' (.pat [sg] 0 0) uu := by
    intro q ps v' zz m cs sg hd hcl hsl hsg ⟨hq, hn, hnm⟩
    obtain ⟨c', I', e', hw, hn', hok, hφ⟩ := I.pubAll ps
    have o : Open c c' ps := ⟨hw, fun a ha => e'.ok a ha, hok⟩
    have hy := hsl c' u (deepen1_spec I hd hq hv (fun _ h => h) o)
    obtain ⟨a, cap, rfl, h2, h3, h4⟩ := hy
    have hne : cs ≠ [] := by intro e; subst e; simp at hcl; omega
    obtain ⟨ad, rfl, h5, h6⟩ := h4 hne
    refine ⟨.pointer (some ad), c', ?_, by rw [app_pubs0]; exact I', e', ?_⟩
    · have : ¬ m < n := by omega
      simp [Instr.arrayAt, run_underlying hu, this, hw]
    · refine ⟨cs.take n, ad, hsg c' hnm, by rw [Nat.zero_add, add_zero], h5, fun j w hj => h6 j w ?_⟩
      rw [List.getElem?_take] at hj
      split at hj
      · exact hj
      · cases hj
  unfold pS2A
  split
  · rename_i q zz l ps hd
    exact fin (m := l.length) (cs := byteCells l) hd (by simp [byteCells]) (fun cc u h => h) (fun cc hm => ⟨[], by simp; omega, by simp [byteCells, List.map_take], rfl⟩)
  · rename_i q zz k l ps hd
    exact fin (m := l.length) (cs := intCells k l) hd (by simp [intCells]) (fun cc u h => h) (fun cc hm => ⟨[], by simp; omega, by simp [intCells, List.map_take], rfl⟩)
  · trivial
end
end Go.AM
end

section
/- AM, part 15: what a slice holds, for append and copy; append. -/
namespace Go.AM
section
variable {P : Program} {z : Ctx0} {c : Cx} {h : H}

def SrcAt (P : Program) (w : World) (sz n : Nat) (news : List Value) (u : Value) : Prop :=
  (∀ w', (Builtin.lenOf u).run P w' = .ok n w') ∧ ∀ w' : World, w'.heap = w.heap → (Builtin.firstCells sz n u).run P w' = .ok ⟨news⟩ w' ∧ ∀ k, k ≤ n → (Builtin.firstCells sz k u).run P w' = .ok ⟨news.take (k * sz)⟩ w'

theorem cell_heap {w w' : World} (h : w'.heap = w.heap) (a : Addr) : w'.cell? a = w.cell? a := by unfold World.cell?; rw [h]

theorem mem_src {w : World} {sz n cap : Nat} {A : Option Addr} {cs : List Value} (hl : cs.length = n * sz) (hm : cs ≠ [] → ∃ ad, A = some ad ∧ ∀ j q, cs[j]? = some q → w.cell? (ad.add j) = some q) :
    SrcAt P w sz n cs (.slice A n cap) := by
  refine ⟨fun w' => by simp [Builtin.lenOf], fun w' hw => ?_⟩
  cases A with
  | none =>
    have : cs = [] := by
      cases cs with
      | nil => rfl
      | cons a b => obtain ⟨ad, e, _⟩ := hm (by simp); cases e
    subst this
    exact ⟨run_firstCells_none w' sz n n cap, fun k _ => by rw [List.take_nil]; exact run_firstCells_none w' sz k n cap⟩
  | some ad =>
    have key : ∀ j q, cs[j]? = some q → w'.cell? (ad.add j) = some q := fun j q hj => by
      have hne : cs ≠ [] := by intro e; subst e; simp at hj
      obtain ⟨ad', e, hc⟩ := hm hne
      cases e
      rw [cell_heap hw]; exact hc j q hj
    refine ⟨run_firstCells_some w' sz n ad n cap cs hl key, fun k hk => run_firstCells_some w' sz k ad n cap _ ?_ fun j q hj => ?_⟩
    · rw [List.length_take, hl, Nat.min_eq_left (Nat.mul_le_mul_right _ hk)]
    · rw [List.getElem?_take] at hj
      split at hj
      · exact key j q hj
      · cases hj
theorem sl_src {zz : Option Bool} {sz n : Nat} {cs : List Value} {u : Value} (hs : Sl c zz n cs u) (hl : cs.length = n * sz) : SrcAt P c.w sz n cs u := by
  obtain ⟨a, cap, rfl, _, _, hm⟩ := hs
  exact mem_src hl fun hne => by
    obtain ⟨ad, h1, _, h2⟩ := hm hne
    exact ⟨ad, h1, h2⟩

theorem rwOf_spec (I : Inv z c h) {ek : EK} {sz : Nat} {v : V} {q : Prop} {r : Rw} {u : Value} (hr : rwOf h.get ek sz v = some (q, r)) (hq : q) (hv : Rep c v u) :
    ∃ cs, RwCells c sz r cs ∧ SrcAt P c.w sz r.len cs u := by
  cases v <;> simp only [rwOf] at hr <;> try (simp only [reduceCtorEq] at hr)
  case nils =>
    split at hr
    · rename_i hek
      simp only [Option.some.injEq, Prod.mk.injEq] at hr
      obtain ⟨_, rfl⟩ := hr
      cases hv
      have hf := ekFit_spec hek
      refine ⟨[], ?_, ?_⟩
      · cases ek
        · exact ⟨hf, rfl⟩
        · exact ⟨hf, rfl⟩
        · exact ⟨hf, rfl⟩
        · exact rfl
      · have : (Rw.nil ek).len = 0 := by cases ek <;> rfl
        rw [this]
        exact mem_src (by simp) (fun hne => absurd rfl hne)
    · cases hr
  case slb zz l =>
    split at hr
    · rename_i hs; subst hs
      simp only [Option.some.injEq, Prod.mk.injEq] at hr
      obtain ⟨_, rfl⟩ := hr
      exact ⟨_, ⟨rfl, rfl⟩, sl_src hv (by simp [byteCells, Rw.len])⟩
    · cases hr
  case sli zz k l =>
    split at hr
    · rename_i hs; subst hs
      simp only [Option.some.injEq, Prod.mk.injEq] at hr
      obtain ⟨_, rfl⟩ := hr
      exact ⟨_, ⟨rfl, rfl⟩, sl_src hv (by simp [intCells, Rw.len])⟩
    · cases hr
  case sls zz l =>
    split at hr
    · rename_i hs; subst hs
      simp only [Option.some.injEq, Prod.mk.injEq] at hr
      obtain ⟨_, rfl⟩ := hr
      exact ⟨_, ⟨rfl, rfl⟩, sl_src hv (by simp [strCells, Rw.len])⟩
    · cases hr
  case sle zz s l =>
    split at hr
    · rename_i hs; subst hs
      simp only [Option.some.injEq, Prod.mk.injEq] at hr
      obtain ⟨_, rfl⟩ := hr
      obtain ⟨cs, h1, h2⟩ := hv
      exact ⟨cs, h1, sl_src h2 (Elems.len l cs h1)⟩
    · cases hr
  case str s =>
    split at hr
    · rename_i hs; subst hs
      simp only [Option.some.injEq, Prod.mk.injEq] at hr
      obtain ⟨_, rfl⟩ := hr
      cases hv
      refine ⟨_, ⟨rfl, rfl⟩, fun w' => by simp [Builtin.lenOf, Rw.len, bs, ByteArray.size], fun w' _ => ?_⟩
      simp only [Builtin.firstCells, Sem.run_pure, Result.ok.injEq, and_true]
      refine ⟨?_, fun k _ => ?_⟩ <;> apply Array.ext' <;> simp [bs, byteCells, Rw.len, ByteArray.extract, ByteArray.copySlice, List.map_take]
    · cases hr
  case own i s lo n =>
    cases hg : h.get i with
    | none => rw [hg] at hr; cases hr
    | some x =>
      rw [hg] at hr
      cases x with
      | var _ => cases hr
      | map _ => cases hr
      | row s' r0 =>
        simp only at hr
        split at hr
        · rename_i hs
          simp only [Option.some.injEq, Prod.mk.injEq] at hr
          obtain ⟨rfl, rfl⟩ := hr
          obtain ⟨rfl, rfl⟩ := hs
          obtain ⟨A, cap, cs, rfl, g2, g3, g4⟩ := own_cells I hg rfl hv hq
          rw [cut_len hq]
          refine ⟨cs, g3, mem_src (by rw [rw_len g3, cut_len hq]) fun hne => ?_⟩
          obtain ⟨ad, b, t, h1, _, _, h4⟩ := g4 hne
          exact ⟨ad, h1, h4⟩
        · cases hr
  case vsl i off lo n =>
    split at hr
    · rename_i hs; subst hs
      cases hg : h.get i with
      | none => rw [hg] at hr; cases hr
      | some x =>
        rw [hg] at hr
        cases x with
        | row _ _ => cases hr
        | map _ => cases hr
        | var e =>
          simp only at hr
          obtain ⟨hin, b0, t0, cur0, ty0, cs0, hφ0, _, hs0, _, _⟩ := getB_at I hg
          split at hr
          · rename_i a m l rr hsp
            simp only [Option.some.injEq, Prod.mk.injEq] at hr
            obtain ⟨rfl, rfl⟩ := hr
            obtain ⟨ca, cr, e1, e2, e3, e4, _⟩ := splitC_spec e off a _ cs0 hsp hs0
            obtain ⟨q0, hl, _, _⟩ := e4
            obtain ⟨ad, cap, b, t, rfl, g2, g3, g4⟩ := vsl_cells I hg hsp hv (m := m) (all := byteCells l) (fun q hq => by obtain ⟨q', _, h2, _⟩ := hq; exact ⟨q', h2⟩) (by simp [byteCells, hl]) hq
            have hlen : ((l.drop lo).take n).length = n := by simp; omega
            refine ⟨_, ⟨rfl, rfl⟩, ?_⟩
            show SrcAt P c.w 1 ((l.drop lo).take n).length _ _
            rw [hlen]
            refine mem_src (by simp [byteCells]; omega) fun hne => ?_
            have hpos : 0 < cap := by
              rcases Nat.eq_zero_or_pos cap with e | e
              · exfalso; apply hne; have : n = 0 := by omega
                subst this; simp [byteCells]
              · exact e
            obtain ⟨k1, k2⟩ := g4 hpos
            exact ⟨ad, rfl, fun j q hj => k2 j q (by rw [← hj]; simp [byteCells, List.map_take, List.map_drop])⟩
          · rename_i a k m l rr hsp
            simp only [Option.some.injEq, Prod.mk.injEq] at hr
            obtain ⟨rfl, rfl⟩ := hr
            obtain ⟨ca, cr, e1, e2, e3, e4, _⟩ := splitC_spec e off a _ cs0 hsp hs0
            obtain ⟨q0, hl, _, _⟩ := e4
            obtain ⟨ad, cap, b, t, rfl, g2, g3, g4⟩ := vsl_cells I hg hsp hv (m := m) (all := intCells k l) (fun q hq => by obtain ⟨q', _, h2, _⟩ := hq; exact ⟨q', h2⟩) (by simp [intCells, hl]) hq
            have hlen : ((l.drop lo).take n).length = n := by simp; omega
            refine ⟨_, ⟨rfl, rfl⟩, ?_⟩
            show SrcAt P c.w 1 ((l.drop lo).take n).length _ _
            rw [hlen]
            refine mem_src (by simp [intCells]; omega) fun hne => ?_
            have hpos : 0 < cap := by
              rcases Nat.eq_zero_or_pos cap with e | e
              · exfalso; apply hne; have : n = 0 := by omega
                subst this; simp [intCells]
              · exact e
            obtain ⟨k1, k2⟩ := g4 hpos
            exact ⟨ad, rfl, fun j q hj => k2 j q (by rw [← hj]; simp [intCells, List.map_take, List.map_drop])⟩
          · cases hr
    · cases hr

/-! ### stores into a row -/
theorem setCells_same (b : Nat) : ∀ (vs : List Value) (o : Nat) (w : World), (w.setCells b o vs).os = w.os ∧ (w.setCells b o vs).tape = w.tape ∧ (w.setCells b o vs).output = w.output ∧ (w.setCells b o vs).heap.size = w.heap.size ∧ ∀ k, k ≠ b → (w.setCells b o vs).heap[k]? = w.heap[k]?
  | [], o, w => ⟨rfl, rfl, rfl, rfl, fun _ _ => rfl⟩
  | v :: r, o, w => by
    obtain ⟨h1, h2, h3, h4, h5⟩ := setCells_same b r (o + 1) (w.setCell ⟨b, o, none⟩ v)
    refine ⟨h1, h2, h3, by rw [World.setCells, h4]; simp [World.setCell], fun k hk => ?_⟩
    rw [World.setCells, h5 k hk]
    simp [World.setCell, Array.getElem?_modify, Ne.symm hk]
theorem setCells_row (b : Nat) : ∀ (vs : List Value) (o : Nat) (w : World) {cur : Array Value} {t : TypeId} {fr : Nat × Nat}, w.heap[b]? = some (.cells cur t fr) → o + vs.length ≤ cur.size →
    ∃ cur' : Array Value, (w.setCells b o vs).heap[b]? = some (.cells cur' t fr) ∧ cur'.size = cur.size ∧ ∀ k, cur'[k]? = if o ≤ k ∧ k < o + vs.length then vs[k - o]? else cur[k]?
  | [], o, w, cur, t, fr, hb, _ => ⟨cur, hb, rfl, fun k => by rw [if_neg (by simp only [List.length_nil]; omega)]⟩
  | v :: r, o, w, cur, t, fr, hb, hl => by
    simp only [List.length_cons] at hl
    have hb' : (w.setCell ⟨b, o, none⟩ v).heap[b]? = some (.cells (cur.setIfInBounds o v) t fr) := by
      simp [World.setCell, Array.getElem?_modify, hb]
    obtain ⟨cur', h1, h2, h3⟩ := setCells_row b r (o + 1) _ hb' (by simp; omega)
    refine ⟨cur', h1, by rw [h2]; simp, fun k => ?_⟩
    rw [h3 k]
    simp only [List.length_cons]
    by_cases hk : o = k
    · subst hk
      rw [if_neg (by omega), if_pos (by omega)]
      simp only [Nat.sub_self, List.getElem?_cons_zero, Array.getElem?_setIfInBounds]
      simp; omega
    · by_cases h4 : o + 1 ≤ k ∧ k < o + 1 + r.length
      · rw [if_pos h4, if_pos (by omega)]
        have : k - o = (k - (o + 1)) + 1 := by omega
        rw [this, List.getElem?_cons_succ]
      · rw [if_neg h4, if_neg (by omega), Array.getElem?_setIfInBounds, if_neg hk]

theorem setCells_wstep (w : World) (b : Nat) (o : Nat) (vs : List Value) {cur : Array Value} {t : TypeId} {fr : Nat × Nat} (hb : w.heap[b]? = some (.cells cur t fr)) (hl : o + vs.length ≤ cur.size) :
    WStep w (w.setCells b o vs) fun k => k = b := by
  obtain ⟨h1, h2, h3, h4, h5⟩ := setCells_same b vs o w
  obtain ⟨cur', g1, g2, _⟩ := setCells_row b vs o w hb hl
  refine ⟨h1, h2, h3, by rw [h4]; exact Nat.le_refl _, fun k _ hk => h5 k hk, fun k _ => ?_⟩
  by_cases hk : k = b
  · subst hk; unfold sizeAt; rw [g1, hb]; simp [g2]
  · exact sizeAt_of (h5 k hk)
theorem run_store_row {w : World} {b o : Nat} {vs : List Value} {cur : Array Value} {t : TypeId} {fr : Nat × Nat} (hb : w.heap[b]? = some (.cells cur t fr)) (hfr : noFz cur.size fr) (hl : o + vs.length ≤ cur.size) (h1 : ∀ v ∈ vs, v.oneCell' = true) :
    (storeCells ⟨b, o, none⟩ vs 0).run P w = .ok () (w.setCells b o vs) := by
  have := run_storeCells_cells (P := P) b o vs 0 w (fun j hj => by rw [Nat.add_zero, cell_row hb]; simp; omega) (fun j hj => by
    simp only [World.frozen?, Nat.add_zero, hb]
    have := hfr.not (o + j) (by omega)
    simpa using this) h1
  simpa using this
end
end Go.AM
end

section
/- AM, part 16: append. -/
namespace Go.AM
section
variable {P : Program} {z : Ctx0} {c : Cx} {h : H}

/-- A row that no memory bears yet. -/
def nilC (c : Cx) : Cx := { c with φ := fun i => if i = c.n then .nil else c.φ i, n := c.n + 1 }
theorem nil_ext (c : Cx) : Ext c (nilC c) where
  n := Nat.le_succ _
  φ := fun i hi => .inl (if_neg (by omega))
  ok := fun _ h => h
  blk := fun _ _ => rfl
  sz := fun _ _ _ _ _ => rfl
theorem nilC_ne {c : Cx} {i : Nat} (hi : i ≠ c.n) : (nilC c).φ i = c.φ i := if_neg hi
theorem nilC_new {c : Cx} : (nilC c).φ c.n = .nil := if_pos rfl
theorem nilC_at {c : Cx} {i a s : Nat} (hi : (nilC c).φ i = .at a s) : c.φ i = .at a s := by
  by_cases e : i = c.n
  · subst e; rw [nilC_new] at hi; cases hi
  · rw [nilC_ne e] at hi; exact hi
theorem nil_row (I : Inv z c h) {sz : Nat} {r : Rw} (hl : r.len = 0) (hc : RwCells c sz r []) :
    Inv z (nilC c) ⟨setB h.b h.n (.row sz r), h.n + 1⟩ ∧ Ext c (nilC c) ∧ Rep (nilC c) (.own h.n sz 0 r.len) (.slice none 0 0) := by
  have ext := nil_ext c
  have hn := I.n
  refine ⟨?_, ext, ?_, ?_⟩
  · refine I.go ext (S := fun _ => False) ⟨rfl, rfl, rfl, Nat.le_refl _, fun _ _ _ => rfl, fun _ _ => rfl⟩ (fun _ h => h.elim) (fun _ h => .inl h) (by show c.n + 1 = h.n + 1; rw [I.n]) ?_
    rw [← hn]
    refine ⟨fun i y hy => ?_, fun i hi => ?_, fun i a s hi => I.hs.exc i a s (nilC_at hi), fun i j a s s' hi hj => I.hs.inj i j a s s' (nilC_at hi) (nilC_at hj), I.hs.lt⟩
    · rw [getB_setB] at hy
      by_cases e : i = c.n
      · rw [if_pos e] at hy; injection hy with hy; subst hy; subst e
        exact ⟨Nat.lt_succ_self _, .inl ⟨nilC_new, hl, hc.ext ext⟩⟩
      · rw [if_neg e] at hy
        obtain ⟨h1, h2⟩ := I.hs.blk i y hy
        exact ⟨Nat.lt_succ_of_lt h1, h2.ext ext (nilC_ne e) (fun _ _ _ => rfl)⟩
    · rw [getB_setB] at hi
      by_cases e : i = c.n
      · rw [if_pos e] at hi; cases hi
      · rw [if_neg e] at hi; rw [nilC_ne e]; exact I.hs.dom i hi
  · show h.n < c.n + 1; omega
  · show ownFit _ _ _ _ _ _
    unfold ownFit
    rw [← hn, nilC_new]
    exact ⟨rfl, rfl, hl⟩

/-! ### the operation -/
theorem run_lenOf_slice (A : Option Addr) (n cap : Nat) (w : World) : (Builtin.lenOf (.slice A n cap)).run P w = .ok n w := by simp [Builtin.lenOf]

theorem noInt_spec {u : TypeId} (h : noInt P u = true) : (∃ e, P.underlying u = some (.slice e)) ∨ P.underlying u = some .string := by
  unfold noInt at h
  cases hu : P.underlying u with
  | none => rw [hu] at h; cases h
  | some d => rw [hu] at h; cases d <;> first | (cases h; done) | exact .inl ⟨_, rfl⟩ | exact .inr rfl

theorem run_app_room {t u ty e : TypeId} {i : TypeInfo} (ht : P.underlying t = some (.slice e)) (hi : P.info? e = some i) (hno : noInt P u = true) {w : World} {A : Option Addr} {sLen sCap n : Nat} {x : Value} {news : List Value}
    (hs : SrcAt P w i.size n news x) (hroom : sLen + n ≤ sCap) :
    (Builtin.append_ #[t, u] ty #[.slice A sLen sCap, x]).run P w =
      ((match A with | some a => storeCells (a.add (sLen * i.size)) news | none => pure () : Sem Unit).run P w).andThen fun _ w' => .ok (.slice A (sLen + n) sCap) w' := by
  have h1 := hs.1
  have h2 := (hs.2 w rfl).1
  rcases noInt_spec hno with ⟨e2, hd⟩ | hd <;> cases A <;> simp [Builtin.append_, run_underlying ht, run_underlying hd, sizeOf, typeInfo, hi, h1, hroom, h2]

theorem run_app_grow {t u ty e : TypeId} {i : TypeInfo} {v : Value} (ht : P.underlying t = some (.slice e)) (hi : P.info? e = some i) (hz : i.zero = some v) (hno : noInt P u = true) {w : World} {A : Option Addr} {sLen sCap n : Nat} {x : Value} {olds news : List Value}
    (hs : SrcAt P w i.size n news x) (ho : SrcAt P w i.size sLen olds (.slice A sLen sCap)) (hroom : sCap < sLen + n) (hb : i.bytes ≠ 0) (hfit : (sLen + n) * i.bytes ≤ 140737488355328) :
    (Builtin.append_ #[t, u] ty #[.slice A sLen sCap, x]).run P w =
      .ok (.slice (some ⟨w.heap.size, 0, none⟩) (sLen + n) (grownCap w (sLen + n) sCap e))
        (w.drew.alloc (.cells ((⟨olds⟩ : Array Value) ++ (⟨news⟩ : Array Value) ++ Builtin.zeroCells v.cells (grownCap w (sLen + n) sCap e - (sLen + n))) e)) := by
  have h1 := hs.1
  have h2 := (hs.2 w.drew rfl).1
  have h3 := (ho.2 w.drew rfl).1
  have hn : ¬ (sLen + n ≤ sCap) := by omega
  have h48 : ¬ (281474976710656 < Builtin.nextslicecap (sLen + n) sCap * i.bytes) := by have := growslice_fits hroom hfit; omega
  rcases noInt_spec hno with ⟨e2, hd⟩ | hd
  · simp [Builtin.append_, run_underlying ht, run_underlying hd, sizeOf, typeInfo, zeroValue, hi, hz, h1, hn, h48, hb, Question.forced, h2, h3, newRow, grownCap]
    congr 2
    apply Array.ext'
    simp [List.append_assoc]
  · simp [Builtin.append_, run_underlying ht, run_underlying hd, sizeOf, typeInfo, zeroValue, hi, hz, h1, hn, h48, hb, Question.forced, h2, h3, newRow, grownCap]
    congr 2
    apply Array.ext'
    simp [List.append_assoc]

theorem Elems.append {c : Cx} {sz : Nat} : ∀ (a b : List (List V)) (ca cb : List Value), Elems c sz a ca → Elems c sz b cb → Elems c sz (a ++ b) (ca ++ cb)
  | [], b, ca, cb, ha, hb => by cases ha; exact hb
  | e :: r, b, ca, cb, ha, hb => by
    obtain ⟨x, y, rfl, h2, h3, h4⟩ := ha
    exact ⟨x, y ++ cb, by simp, h2, h3, Elems.append r b y cb h4 hb⟩
theorem cat_spec {c : Cx} {sz : Nat} {a b r : Rw} {ca cb : List Value} (h : a.cat b = some r) (ha : RwCells c sz a ca) (hb : RwCells c sz b cb) : RwCells c sz r (ca ++ cb) ∧ r.len = a.len + b.len := by
  cases a <;> cases b <;> simp only [Rw.cat, reduceCtorEq, Option.some.injEq] at h
  · subst h; obtain ⟨h1, rfl⟩ := ha; obtain ⟨h2, rfl⟩ := hb; exact ⟨⟨h1, by simp [byteCells]⟩, by simp [Rw.len]⟩
  · split at h
    · rename_i hk; subst hk
      simp only [Option.some.injEq] at h
      subst h; obtain ⟨h1, rfl⟩ := ha; obtain ⟨h2, rfl⟩ := hb; exact ⟨⟨h1, by simp [intCells]⟩, by simp [Rw.len]⟩
    · cases h
  · subst h; obtain ⟨h1, rfl⟩ := ha; obtain ⟨h2, rfl⟩ := hb; exact ⟨⟨h1, by simp [strCells]⟩, by simp [Rw.len]⟩
  · subst h; exact ⟨Elems.append _ _ _ _ ha hb, by simp [Rw.len]⟩
theorem write_ext (I : Inv z c h) {k a s : Nat} (hk : c.φ k = .at a s) {w' : World} (ws : WStep c.w w' (fun b => b = a)) : Ext c { c with w := w' } :=
  ⟨Nat.le_refl _, fun _ _ => .inl rfl, fun _ h => h, fun b hb => ws.blk b (I.hs.lt b hb) (fun e => by subst e; exact (I.hs.exc k b s hk).2.1 hb), fun i b t _ hb => ws.sz b (I.hs.exc i b t hb).2.2⟩

theorem nil_cells {c : Cx} {sz : Nat} {ek : EK} {r xr : Rw} {cs : List Value} (h : (Rw.nil ek).cat xr = some r) (hc : RwCells c sz xr cs) : RwCells c sz r cs ∧ r.len = xr.len ∧ r = xr := by
  have : r = xr := by cases ek <;> cases xr <;> simp [Rw.nil, Rw.cat] at h <;> first | exact h.symm | (obtain ⟨rfl, rfl⟩ := h; rfl)
  subst this
  exact ⟨hc, rfl, rfl⟩

/-- A row grows into a new block. -/
theorem grow_row (I : Inv z c h) {e : TypeId} {i : TypeInfo} {v : Value} (hvs : v.cells.size = i.size) {r : Rw} {cs : List Value} {cap need : Nat} (hc : RwCells c i.size r cs) (hn : r.len = need) (hcap : need ≤ cap) :
    ∃ c', c'.w = c.w.drew.alloc (.cells ((⟨cs⟩ : Array Value) ++ Builtin.zeroCells v.cells (cap - need)) e) ∧ Inv z c' ⟨setB h.b h.n (.row i.size r), h.n + 1⟩ ∧ Ext c c' ∧ Rep c' (.own h.n i.size 0 r.len) (.slice (some ⟨c.w.heap.size, 0, none⟩) r.len cap) := by
  obtain ⟨I1, e1⟩ := I.draw (w' := c.w.drew) rfl rfl rfl rfl
  have hl := rw_len hc
  obtain ⟨J1, J2, J3⟩ := new_row I1 (t := e) (cells := (⟨cs⟩ : Array Value) ++ Builtin.zeroCells v.cells (cap - need)) (sz := i.size) (cap := cap) (r := r) (cs := cs) (hc.ext e1)
    (fun j u hj => by
      have : j < cs.length := (List.getElem?_eq_some_iff.1 hj).1
      rw [Array.getElem?_append_left (by simpa using this)]; simpa using hj)
    (by simp only [Array.size_append, List.size_toArray, size_zeroCells, hvs, hl, hn, ← Nat.add_mul]; exact Nat.mul_le_mul_right _ (by omega)) (by omega) (noFz0 _)
  exact ⟨_, rfl, J1, e1.trans J2, J3⟩

theorem pAppend_res (I : Inv z c h) {t tx ty : TypeId} {s x : V} {us ux : Value} (hsl : isSl P t = true) (hzk : zokP P (elemP P t) = true) (hno : noInt P tx = true) (hs : Rep c s us) (hx : Rep c x ux) :
    Res P z c h (Builtin.append_ #[t, tx] ty #[us, ux]) (pAppend (ekP P t) (szP P (elemP P t)) (bytesP P (elemP P t)) s x h.get h.n) := by
  obtain ⟨i, v, hi, hz, hvs, hpos, hby, hs3, hs4⟩ := zokP_spec hzk
  have hu := isSl_spec hsl
  rw [hs3, hs4]
  unfold pAppend
  cases hq : rwOf h.get (ekP P t) i.size x with
  | none => trivial
  | some qx =>
    obtain ⟨q, xr⟩ := qx
    simp only
    cases s <;> try trivial
    case nils =>
      simp only
      cases hc : (Rw.nil (ekP P t)).cat xr with
      | none => trivial
      | some r =>
        rintro ⟨hq', hb⟩
        obtain ⟨cs, g1, g2⟩ := rwOf_spec (P := P) I hq hq' hx
        obtain ⟨k1, k2, _⟩ := nil_cells hc g1
        cases hs
        rw [← k2] at g2
        by_cases h0 : r.len = 0
        · have hcs : cs = [] := List.eq_nil_of_length_eq_zero (by rw [rw_len k1, h0, Nat.zero_mul])
          subst hcs
          obtain ⟨J1, J2, J3⟩ := nil_row I h0 k1
          refine ⟨_, _, ?_, J1, J2, J3⟩
          rw [run_app_room hu hi hno g2 (by omega)]
          simp [h0, nilC]
        · obtain ⟨c', w', J1, J2, J3⟩ := grow_row I (e := elemP P t) hvs (cap := grownCap c.w (0 + r.len) 0 (elemP P t)) k1 rfl (by have := grownCap_ge c.w (0 + r.len) 0 (elemP P t); omega)
          refine ⟨_, c', ?_, J1, J2, J3⟩
          rw [run_app_grow hu hi hz hno g2 (mem_src (cs := []) (by simp) (fun hne => absurd rfl hne)) (by omega) (by omega) (by rw [Nat.zero_add]; exact hb), w']
          simp
    case own j s' lo m =>
      cases hg : h.get j with
      | none => simp only [hg]; trivial
      | some y =>
        cases y with
        | var _ => simp only [hg]; trivial
        | map _ => simp only [hg]; trivial
        | row s'' sr =>
          simp only [hg]
          cases hc : (sr.cut lo m).cat xr with
          | none => trivial
          | some r =>
            simp only
            split
            · rename_i hss
              obtain ⟨rfl, rfl⟩ := hss
              rintro ⟨hq', hle, hb⟩
              obtain ⟨cs, g1, g2⟩ := rwOf_spec (P := P) I hq hq' hx
              obtain ⟨A, cap, olds, rfl, f2, f3, f4⟩ := own_cells I hg rfl hs hle
              obtain ⟨k1, k2⟩ := cat_spec hc f3 g1
              rw [cut_len hle] at k2
              have hsrc : SrcAt P c.w i.size m olds (.slice A m cap) := mem_src (by rw [rw_len f3, cut_len hle]) fun hne => by
                obtain ⟨ad, b, t, h1, _, _, h4⟩ := f4 hne
                exact ⟨ad, h1, h4⟩
              obtain ⟨hjn, hb0⟩ := getB_at I hg
              have hjn' : j ≠ h.n := by have := I.n; omega
              by_cases hroom : m + xr.len ≤ cap
              · rcases hb0 with ⟨hφ, hl0, _⟩ | ⟨b, t0, cur, ty0, fr, cs0, hφ, h2, h3, h4, h5, h6⟩
                · obtain ⟨_, hu0⟩ := hs
                  unfold ownFit at hu0
                  rw [hφ] at hu0
                  obtain ⟨e0, _, rfl⟩ := hu0
                  cases e0
                  have hx0 : xr.len = 0 := by omega
                  have hr0 : r.len = 0 := by omega
                  have hcs : olds ++ cs = [] := List.eq_nil_of_length_eq_zero (by rw [rw_len k1, hr0, Nat.zero_mul])
                  rw [hcs] at k1
                  have I1 := I.pub j (fun _ => False) (fun _ h => h.elim)
                  have e1 := pub_ext c j (fun _ => False)
                  obtain ⟨J1, J2, J3⟩ := nil_row I1 hr0 (k1.ext e1)
                  refine ⟨_, _, ?_, J1, e1.trans J2, J3⟩
                  rw [run_app_room hu hi hno g2 hroom]
                  simp [hx0, nilC, pubC, killC]
                · obtain ⟨_, hu0⟩ := hs
                  unfold ownFit at hu0
                  rw [hφ] at hu0
                  obtain ⟨a, cap', M, e0, n1, n2, n3, n4⟩ := hu0
                  cases e0
                  have hM : cur.size = M := by
                    unfold sizeAt at n3; rw [h2] at n3; simpa using n3
                  subst hM
                  obtain ⟨k3, _⟩ := cat_spec hc (rw_cut h4 lo m) g1
                  have hol := rw_len (rw_cut h4 lo m)
                  rw [cut_len hle] at hol
                  have hnl := rw_len g1
                  have hbd : lo * i.size + (m * i.size + cs.length) ≤ (lo + cap) * i.size := by
                    rw [hnl, ← Nat.add_mul, ← Nat.add_mul]; exact Nat.mul_le_mul_right _ (by omega)
                  have hbd2 : t0 + lo * i.size + m * i.size + cs.length ≤ cur.size := by omega
                  have hsub : ∀ (q : Nat) (u : Value), ((cs0.drop (lo * i.size)).take (m * i.size))[q]? = some u → cur[t0 + lo * i.size + q]? = some u := by
                    intro q u hq
                    rw [List.getElem?_take] at hq
                    split at hq
                    · rw [List.getElem?_drop] at hq
                      rw [← h6 _ _ hq]; congr 1; omega
                    · cases hq
                  have eh : Ext c (homeC c j b (t0 + lo * i.size)) := home_ext
                  have I1 := I.home (s' := t0 + lo * i.size) hφ hjn (.row i.size (sr.cut lo m)) (.inr ⟨b, t0 + lo * i.size, cur, ty0, fr, _, homeC_new, h2, h3, (rw_cut h4 lo m).ext eh, by rw [hol]; omega, hsub⟩)
                  have ws := setCells_wstep c.w b (t0 + lo * i.size + m * i.size) cs h2 hbd2
                  have ew := write_ext I1 (k := c.n) homeC_new ws
                  obtain ⟨cur', y1, y2, y3⟩ := setCells_row b cs (t0 + lo * i.size + m * i.size) c.w h2 hbd2
                  obtain ⟨I2, _⟩ := I1.write (k := c.n) homeC_new ws (setCells_same b cs _ c.w).2.2.2.1 (.row i.size r)
                    (.inr ⟨b, t0 + lo * i.size, cur', ty0, fr, _, homeC_new, y1, by rw [y2]; exact h3, (k3.ext eh).ext ew, by rw [List.length_append, hol, y2]; omega, fun q u hq => by
                      rw [y3]
                      by_cases hqm : q < m * i.size
                      · rw [if_neg (by omega)]
                        rw [List.getElem?_append_left (by omega)] at hq
                        exact hsub q u hq
                      · rw [List.getElem?_append_right (by omega), hol] at hq
                        have := (List.getElem?_eq_some_iff.1 hq).1
                        rw [if_pos (by omega), ← hq]; congr 1; omega⟩) (Nat.lt_succ_self _)
                  refine ⟨.slice (some a) (m + xr.len) cap, _, ?_, ?_, eh.trans ew, ?_⟩
                  · rw [run_app_room hu hi hno g2 hroom]
                    have hst : (storeCells (a.add (m * i.size)) cs).run P c.w = .ok () (c.w.setCells b (t0 + lo * i.size + m * i.size) cs) := by
                      cases cs with
                      | nil => rfl
                      | cons c0 cr =>
                        have hcp : 0 < cap := by
                          rcases Nat.eq_zero_or_pos cap with e | e
                          · exfalso
                            have : xr.len = 0 := by omega
                            rw [this] at hnl; simp at hnl
                          · exact e
                        rw [n2.2 hcp, addr_add]
                        exact run_store_row h2 h3 hbd2 (rw_one g1)
                    simp only [hst, Result.andThen_ok]
                  · rw [show h.app [(j, none), (h.n, some (.row i.size r))] 1 = ⟨setB (delB h.b j) h.n (.row i.size r), h.n + 1⟩ from rfl]
                    rw [← I.n, ← setB_setB _ c.n (.row i.size (sr.cut lo m))]
                    rw [I.n] at I2 ⊢
                    exact I2
                  · refine ⟨by show h.n < c.n + 1; rw [I.n]; exact Nat.lt_succ_self _, ?_⟩
                    show ownFit _ _ _ _ _ _
                    unfold ownFit
                    have : (homeC c j b (t0 + lo * i.size)).φ h.n = .at b (t0 + lo * i.size) := by rw [← I.n]; exact homeC_new
                    show match (homeC c j b (t0 + lo * i.size)).φ h.n with | .dead => _ | .nil => _ | .at b s => _
                    rw [this]
                    refine ⟨a, cap, cur.size, by rw [k2], by omega, ⟨n2.1, fun hp => by rw [n2.2 hp]; simp⟩, ?_, ?_⟩
                    · show sizeAt (c.w.setCells _ _ _) b = _
                      unfold sizeAt; rw [y1]; simp [y2]
                    · rw [Nat.zero_add]
                      have : (lo + cap) * i.size = lo * i.size + cap * i.size := Nat.add_mul _ _ _
                      omega
              · have I1 := I.pub j (fun _ => False) (fun _ h => h.elim)
                have e1 := pub_ext c j (fun _ => False)
                obtain ⟨c', w', J1, J2, J3⟩ := grow_row I1 (e := elemP P t) hvs (cap := grownCap c.w (m + xr.len) cap (elemP P t)) (k1.ext e1) k2 (grownCap_ge _ _ _ _)
                refine ⟨_, c', ?_, J1, e1.trans J2, J3⟩
                rw [run_app_grow hu hi hz hno g2 hsrc (by omega) (by omega) (by rw [← k2]; exact hb), w', k2]
                simp [pubC, killC]
            · trivial
end
end Go.AM
end

section
/- AM, part 17: make, conversions. -/
namespace Go.AM
section
variable {P : Program} {z : Ctx0} {c : Cx} {h : H}

/-! ### make -/
def rep (k : Nat) (l : List Value) : List Value := (List.replicate k l).flatten
theorem rep_get (l : List Value) (hl : 0 < l.length) : ∀ (k j : Nat), j < k * l.length → (rep k l)[j]? = l[j % l.length]?
  | 0, j, h => by omega
  | k + 1, j, h => by
    unfold rep
    rw [List.replicate_succ, List.flatten_cons]
    by_cases hj : j < l.length
    · rw [List.getElem?_append_left hj, Nat.mod_eq_of_lt hj]
    · rw [List.getElem?_append_right (by omega)]
      have := rep_get l hl k (j - l.length) (by rw [Nat.succ_mul] at h; omega)
      unfold rep at this
      rw [this, ← Nat.mod_eq_sub_mod (by omega)]
theorem rep_one (x : Value) (k : Nat) : rep k [x] = List.replicate k x := by
  induction k with
  | zero => rfl
  | succ k ih => unfold rep at *; rw [List.replicate_succ, List.flatten_cons, ih, List.replicate_succ]; rfl
theorem rep_elems {c : Cx} {sz : Nat} {e : List V} {l : List Value} (h : Segs c e l) (hl : l.length = sz) : ∀ k, Elems c sz (List.replicate k e) (rep k l)
  | 0 => rfl
  | k + 1 => by
    rw [List.replicate_succ]
    unfold rep
    rw [List.replicate_succ, List.flatten_cons]
    exact ⟨l, _, rfl, hl, h, rep_elems h hl k⟩
theorem zrow_spec {c : Cx} {ek : EK} {sz k : Nat} {e : List V} {r : Rw} {l : List Value} (h : zrow ek sz (some e) k = some r) (hs : ∀ c, Segs c e l) : RwCells c sz r (rep k l) ∧ r.len = k := by
  unfold zrow at h
  split at h
  · rename_i he
    injection he with he; subst he
    split at h
    · rename_i h1; subst h1; cases h
      obtain ⟨u, b, rfl, _, hu, rfl⟩ := hs c
      cases hu
      exact ⟨⟨rfl, by rw [rep_one]; simp [byteCells]⟩, by simp [Rw.len]⟩
    · cases h
  · rename_i j j' he
    injection he with he; subst he
    split at h
    · rename_i h1; obtain ⟨rfl, rfl⟩ := h1; cases h
      obtain ⟨u, b, rfl, _, hu, rfl⟩ := hs c
      cases hu
      exact ⟨⟨rfl, by rw [rep_one]; simp [intCells]⟩, by simp [Rw.len]⟩
    · cases h
  · rename_i he
    injection he with he; subst he
    split at h
    · rename_i h1; subst h1; cases h
      obtain ⟨u, b, rfl, _, hu, rfl⟩ := hs c
      cases hu
      exact ⟨⟨rfl, by rw [rep_one]; simp [strCells]⟩, by simp [Rw.len]⟩
    · cases h
  · rename_i he
    injection he with he; subst he
    split at h
    · rename_i h1; cases h
      exact ⟨rep_elems (hs (dp c)) (by rw [Segs.len _ _ (hs c)]; exact h1) k, by simp [Rw.len]⟩
    · cases h
  · cases h

theorem pMake_res (I : Inv z c h) {t : TypeId} {x y : V} {ux uy : Value} (hsl : isSl P t = true) (hzk : zokP P (elemP P t) = true) (hx : Rep c x ux) (hy : Rep c y uy) :
    Res P z c h (Instr.makeSlice t ux uy) (pMake (ekP P t) (szP P (elemP P t)) (bytesP P (elemP P t)) (zeroP P (elemP P t)) x y h.n) := by
  obtain ⟨i, v, hi, hz, hvs, hpos, hby, hs3, hs4⟩ := zokP_spec hzk
  have hu := isSl_spec hsl
  rw [hs3, hs4]
  unfold pMake
  split
  · rename_i k1 a k2 b
    cases hx; cases hy
    cases he : zeroP P (elemP P t) with
    | none =>
      have : zrow (ekP P t) i.size none a.toNat = none := by unfold zrow; cases ekP P t <;> rfl
      rw [this]; trivial
    | some e =>
      cases hr : zrow (ekP P t) i.size (some e) a.toNat with
      | none => trivial
      | some r =>
        rintro ⟨h0, hab, hb⟩
        obtain ⟨i', v', hi', hz', hsg⟩ := zeroP_spec he
        rw [hi] at hi'; cases hi'
        rw [hz] at hz'; cases hz'
        obtain ⟨g1, g2⟩ := zrow_spec (c := c) hr hsg
        have hvl : v.cells.toList.length = i.size := by rw [Array.length_toList]; exact hvs
        have hcm : ((b.toNat : Nat) : Int) = b := Int.toNat_of_nonneg (by omega)
        have hbb : b.toNat * i.bytes ≤ 140737488355328 := by
          have : ((b.toNat * i.bytes : Nat) : Int) ≤ 140737488355328 := by rw [Int.natCast_mul, hcm]; exact hb
          omega
        have hb63 : b.toNat ≤ 140737488355328 := Nat.le_trans (by have := Nat.mul_le_mul_left b.toNat hby; omega) hbb
        obtain ⟨J1, J2, J3⟩ := new_row I (t := elemP P t) (cells := madeCells v.cells (b.toNat * i.size)) (sz := i.size) (cap := b.toNat) (r := r) g1
          (fun j u hj => by
            have hjl : j < a.toNat * i.size := by
              have := (List.getElem?_eq_some_iff.1 hj).1
              rw [rw_len g1, g2] at this; exact this
            have hjb : j < b.toNat * i.size := Nat.lt_of_lt_of_le hjl (Nat.mul_le_mul_right _ (by omega))
            rw [rep_get _ (by omega) a.toNat j (by rw [hvl]; exact hjl), hvl] at hj
            unfold madeCells
            have hm : j % i.size < v.cells.size := by rw [hvs]; exact Nat.mod_lt _ hpos
            rw [Array.getElem?_toList] at hj
            rw [← hj, Array.getElem?_map]
            have : (Array.range (b.toNat * i.size))[j]? = some j := by simp [hjb]
            rw [this]
            simp only [Option.map_some, hvs]
            rw [Array.getElem?_eq_getElem hm, getElem!_pos v.cells _ hm])
          (by rw [size_madeCells]; exact Nat.le_refl _) (by omega) (noFz0 _)
        refine ⟨_, _, ?_, J1, J2, by rw [g2] at J3; exact J3⟩
        rw [run_make c.w t (elemP P t) i v hu hi hz k1 k2 a b h0 hab ?_ (by omega)]
        · rfl
        · have : ((i.bytes * b.toNat : Nat) : Int) ≤ 140737488355328 := by rw [Nat.mul_comm]; omega
          rw [Int.natCast_mul, hcm] at this; omega
  · trivial
end
end Go.AM
end
