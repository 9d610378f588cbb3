/- A machine of our own for Go code without shared memory: one step of it stands for the model's steps. Part of the proof; no condition of its own. -/
import Derived.Below
import Derived.Calls
import Derived.Laws.Cells
import Derived.Laws.Sem
import Derived.Laws.Entries
import Derived.Laws.Slices

section
/- AM, part 1: abstract values, what they read as. -/
namespace Go.AM

inductive V where
  | undef
  | int (k : IntKind) (n : Int)
  | bool (b : Bool)
  | str (s : List UInt8)
  | nils
  | nilp
  | nilm
  | nilf
  | arr (k : IntKind) (n : Nat) (l : List Int)
  | byt (n : Nat) (l : List UInt8)
  | slb (z : Option Bool) (l : List UInt8)
  | sli (z : Option Bool) (k : IntKind) (l : List Int)
  | sls (z : Option Bool) (l : List (List UInt8))
  | sle (z : Option Bool) (sz : Nat) (l : List (List V))
  | pat (e : List V) (off idx : Nat)
  | agg (e : List V)
  | tup (l : List V)
  | fn (f : FuncId) (caps : List V)
  | ref (i off idx : Nat)
  | own (i sz lo len : Nat)
  | eref (i sz e off idx : Nat)
  | vsl (i off lo len : Nat)
  | mp (i : Nat)
  deriving Inhabited

inductive Loc where
  | dead
  | nil
  | at (b s : Nat)

structure Cx where
  w : World
  ok : Nat → Prop
  φ : Nat → Loc
  n : Nat

/-- In persistent memory there are no references. -/
def dp (c : Cx) : Cx := { c with n := 0 }

def sizeAt (w : World) (b : Nat) : Option Nat :=
  match w.heap[b]? with
  | some (.cells cur _ _) => some cur.size
  | _ => none

def intCells (k : IntKind) (l : List Int) : List Value := l.map fun x => .int k x
def byteCells (l : List UInt8) : List Value := l.map fun x => .int .u8 (x.toNat : Int)
def bs (l : List UInt8) : ByteArray := ⟨⟨l⟩⟩
def strCells (l : List (List UInt8)) : List Value := l.map fun x => .string (bs x)

/-- The cells from an address on, in memory that stays. -/
def Mem (c : Cx) (a : Option Addr) (cs : List Value) : Prop :=
  cs ≠ [] → ∃ ad, a = some ad ∧ c.ok ad.block ∧ ∀ j u, cs[j]? = some u → c.w.cell? (ad.add j) = some u

def zfit (z : Option Bool) (a : Option Addr) : Prop := ∀ b, z = some b → a.isSome = b

/-- A slice value of persistent memory with these cells. -/
def Sl (c : Cx) (z : Option Bool) (n : Nat) (cs : List Value) (u : Value) : Prop :=
  ∃ a cap, u = .slice a n cap ∧ n ≤ cap ∧ zfit z a ∧ Mem c a cs

def ownFit (c : Cx) (i sz lo len : Nat) (u : Value) : Prop :=
  match c.φ i with
  | .dead => u.oneCell' = true
  | .nil => u = .slice none 0 0 ∧ lo = 0 ∧ len = 0
  | .at b s => ∃ a cap m, u = .slice (some a) len cap ∧ len ≤ cap ∧ (a.block = b ∧ (0 < cap → a = ⟨b, s + lo * sz, none⟩)) ∧ sizeAt c.w b = some m ∧ s + (lo + cap) * sz ≤ m

mutual
def Rep (c : Cx) : V → Value → Prop
  | .undef, _ => True
  | .int k n, u => u = .int k n
  | .bool b, u => u = .bool b
  | .str s, u => u = .string (bs s)
  | .nils, u => u = .slice none 0 0
  | .nilp, u => u = .pointer none
  | .nilm, u => u = .map none
  | .nilf, u => u = .nilFunc
  | .arr _ _ _, _ => False
  | .byt _ _, _ => False
  | .slb z l, u => Sl c z l.length (byteCells l) u
  | .sli z k l, u => Sl c z l.length (intCells k l) u
  | .sls z l, u => Sl c z l.length (strCells l) u
  | .sle z sz l, u => ∃ cs, Elems (dp c) sz l cs ∧ Sl c z l.length cs u
  | .pat e off idx, u => ∃ (cs : List Value) (ad : Addr), Segs (dp c) e cs ∧ u = .pointer (some (ad.add (off + idx))) ∧ c.ok ad.block ∧ ∀ j v, cs[j]? = some v → c.w.cell? (ad.add j) = some v
  | .agg e, u => ∃ cs, u = .agg ⟨cs⟩ ∧ Segs c e cs
  | .tup l, u => ∃ vs, u = .tuple ⟨vs⟩ ∧ Reps c l vs
  | .fn f caps, u => ∃ vs, u = .func (.func f) #[] ⟨vs⟩ ∧ Reps c caps vs
  | .ref i off idx, u => i < c.n ∧ match c.φ i with
    | .dead => u.oneCell' = true
    | .nil => False
    | .at b s => u = .pointer (some ⟨b, s + off + idx, none⟩)
  | .own i sz lo len, u => i < c.n ∧ ownFit c i sz lo len u
  | .eref i sz e off idx, u => i < c.n ∧ match c.φ i with
    | .dead => u.oneCell' = true
    | .nil => False
    | .at b s => u = .pointer (some ⟨b, s + e * sz + off + idx, none⟩)
  | .vsl i off lo len, u => i < c.n ∧ match c.φ i with
    | .dead => u.oneCell' = true
    | .nil => False
    | .at b s => ∃ a cap, u = .slice (some a) len cap ∧ len ≤ cap ∧ (0 < cap → a = ⟨b, s + off + lo, none⟩)
  | .mp i, u => i < c.n ∧ match c.φ i with
    | .dead => u.oneCell' = true
    | .nil => False
    | .at b _ => u = .map (some b)
def Segs (c : Cx) : List V → List Value → Prop
  | [], cs => cs = []
  | .arr k n l :: r, cs => ∃ b, l.length = n ∧ cs = intCells k l ++ b ∧ Segs c r b
  | .byt n l :: r, cs => ∃ b, l.length = n ∧ cs = byteCells l ++ b ∧ Segs c r b
  | v :: r, cs => ∃ u b, cs = u :: b ∧ u.oneCell' = true ∧ Rep c v u ∧ Segs c r b
def Elems (c : Cx) (sz : Nat) : List (List V) → List Value → Prop
  | [], cs => cs = []
  | e :: r, cs => ∃ a b, cs = a ++ b ∧ a.length = sz ∧ Segs c e a ∧ Elems c sz r b
def Reps (c : Cx) : List V → List Value → Prop
  | [], us => us = []
  | v :: r, us => ∃ u us', us = u :: us' ∧ Rep c v u ∧ Reps c r us'
end

/-- The world has gone on: what stays stays; blocks of the call's own may have been given up. -/
structure Ext (c c' : Cx) : Prop where
  n : c.n ≤ c'.n
  φ : ∀ i, i < c.n → c'.φ i = c.φ i ∨ c'.φ i = .dead
  ok : ∀ b, c.ok b → c'.ok b
  blk : ∀ b, c.ok b → c'.w.heap[b]? = c.w.heap[b]?
  sz : ∀ i b s, i < c.n → c'.φ i = .at b s → sizeAt c'.w b = sizeAt c.w b

theorem Ext.refl (c : Cx) : Ext c c := ⟨Nat.le_refl _, fun _ _ => .inl rfl, fun _ h => h, fun _ _ => rfl, fun _ _ _ _ _ => rfl⟩

theorem Ext.dp {c c' : Cx} (h : Ext c c') : Ext (dp c) (dp c') :=
  ⟨Nat.le_refl _, fun _ hi => absurd hi (Nat.not_lt_zero _), h.ok, h.blk, fun _ _ _ hi => absurd hi (Nat.not_lt_zero _)⟩

theorem cell_of_block {w w' : World} {a : Addr} (h : w'.heap[a.block]? = w.heap[a.block]?) : w'.cell? a = w.cell? a := by
  unfold World.cell?; rw [h]

theorem add_block (a : Addr) (n : Nat) : (a.add n).block = a.block := by unfold Addr.add; split <;> rfl
theorem add_add (a : Addr) (i j : Nat) : (a.add i).add j = a.add (i + j) := by
  unfold Addr.add
  by_cases hi : i = 0 <;> by_cases hj : j = 0 <;> simp [hi, hj, Nat.add_assoc]
theorem add_zero (a : Addr) : a.add 0 = a := by simp [Addr.add]

theorem Mem.ext {c c' : Cx} (h : Ext c c') {a : Option Addr} {cs : List Value} (hm : Mem c a cs) : Mem c' a cs := by
  intro hne
  obtain ⟨ad, rfl, hok, hc⟩ := hm hne
  refine ⟨ad, rfl, h.ok _ hok, fun j u hj => ?_⟩
  rw [cell_of_block (w := c.w) (by rw [add_block]; exact h.blk _ hok)]
  exact hc j u hj

theorem Sl.ext {c c' : Cx} (h : Ext c c') {z : Option Bool} {n : Nat} {cs : List Value} {u : Value} (hs : Sl c z n cs u) : Sl c' z n cs u := by
  obtain ⟨a, cap, h1, h2, h3, h4⟩ := hs
  exact ⟨a, cap, h1, h2, h3, h4.ext h⟩

theorem ownFit.one {c : Cx} {i sz lo len : Nat} {u : Value} (h : ownFit c i sz lo len u) : u.oneCell' = true := by
  unfold ownFit at h
  split at h
  · exact h
  · obtain ⟨rfl, _⟩ := h; rfl
  · obtain ⟨a, cap, m, rfl, _⟩ := h; rfl
theorem ownFit.ext {c c' : Cx} (h : Ext c c') {i sz lo len : Nat} {u : Value} (hi : i < c.n) (hs : ownFit c i sz lo len u) : ownFit c' i sz lo len u := by
  have h1 := hs.one
  unfold ownFit at *
  rcases h.φ i hi with e | e
  · rw [e]
    cases hφ : c.φ i with
    | dead => exact h1
    | nil => rw [hφ] at hs; exact hs
    | «at» b s =>
      rw [hφ] at hs
      obtain ⟨a, cap, m, h1, h2, h3, h4, h5⟩ := hs
      exact ⟨a, cap, m, h1, h2, h3, by rw [h.sz i b s hi (e.trans hφ)]; exact h4, h5⟩
  · rw [e]; exact h1
/-- What a name's value is like, whatever has become of the block. -/
theorem loc_one {l : Loc} {u : Value} {A : Nat → Nat → Prop} (h : match l with | .dead => u.oneCell' = true | .nil => False | .at b s => A b s) (hA : ∀ b s, A b s → u.oneCell' = true) : u.oneCell' = true := by
  cases l with
  | dead => exact h
  | nil => exact h.elim
  | «at» b s => exact hA b s h
theorem ref_one {c : Cx} {i off idx : Nat} {u : Value} (h : Rep c (.ref i off idx) u) : u.oneCell' = true := by
  obtain ⟨_, h⟩ := h
  cases hφ : c.φ i <;> rw [hφ] at h
  · exact h
  · exact h.elim
  · simp only at h; subst h; rfl
theorem eref_one {c : Cx} {i sz e off idx : Nat} {u : Value} (h : Rep c (.eref i sz e off idx) u) : u.oneCell' = true := by
  obtain ⟨_, h⟩ := h
  cases hφ : c.φ i <;> rw [hφ] at h
  · exact h
  · exact h.elim
  · simp only at h; subst h; rfl
theorem vsl_one {c : Cx} {i off lo len : Nat} {u : Value} (h : Rep c (.vsl i off lo len) u) : u.oneCell' = true := by
  obtain ⟨_, h⟩ := h
  cases hφ : c.φ i <;> rw [hφ] at h
  · exact h
  · exact h.elim
  · obtain ⟨a, cap, rfl, _⟩ := h; rfl
theorem mp_one {c : Cx} {i : Nat} {u : Value} (h : Rep c (.mp i) u) : u.oneCell' = true := by
  obtain ⟨_, h⟩ := h
  cases hφ : c.φ i <;> rw [hφ] at h
  · exact h
  · exact h.elim
  · simp only at h; subst h; rfl

mutual
theorem Rep.ext {c c' : Cx} (h : Ext c c') : ∀ (v : V) (u : Value), Rep c v u → Rep c' v u
  | .undef, _, _ => trivial
  | .int _ _, _, hr => hr
  | .bool _, _, hr => hr
  | .str _, _, hr => hr
  | .nils, _, hr => hr
  | .nilp, _, hr => hr
  | .nilm, _, hr => hr
  | .nilf, _, hr => hr
  | .arr _ _ _, _, hr => hr
  | .byt _ _, _, hr => hr
  | .slb _ _, _, hr => Sl.ext h hr
  | .sli _ _ _, _, hr => Sl.ext h hr
  | .sls _ _, _, hr => Sl.ext h hr
  | .sle z sz l, u, hr => by
    obtain ⟨cs, h1, h2⟩ := hr
    exact ⟨cs, Elems.ext h.dp sz l cs h1, Sl.ext h h2⟩
  | .pat e off idx, u, hr => by
    obtain ⟨cs, ad, h1, h2, h3, h4⟩ := hr
    exact ⟨cs, ad, Segs.ext h.dp e cs h1, h2, h.ok _ h3, fun j v hj => by
      rw [cell_of_block (w := c.w) (by rw [add_block]; exact h.blk _ h3)]; exact h4 j v hj⟩
  | .agg e, u, hr => by
    obtain ⟨cs, h1, h2⟩ := hr
    exact ⟨cs, h1, Segs.ext h e cs h2⟩
  | .tup l, u, hr => by
    obtain ⟨cs, h1, h2⟩ := hr
    exact ⟨cs, h1, Reps.ext h l cs h2⟩
  | .fn f l, u, hr => by
    obtain ⟨cs, h1, h2⟩ := hr
    exact ⟨cs, h1, Reps.ext h l cs h2⟩
  | .ref i off idx, u, hr => by
    have hr' := hr
    obtain ⟨h1, h2⟩ := hr
    refine ⟨Nat.lt_of_lt_of_le h1 h.n, ?_⟩
    rcases h.φ i h1 with e | e <;> rw [e]
    · exact h2
    · exact ref_one hr'
  | .own i sz lo len, u, hr => ⟨Nat.lt_of_lt_of_le hr.1 h.n, ownFit.ext h hr.1 hr.2⟩
  | .eref i sz e off idx, u, hr => by
    have hr' := hr
    obtain ⟨h1, h2⟩ := hr
    refine ⟨Nat.lt_of_lt_of_le h1 h.n, ?_⟩
    rcases h.φ i h1 with e | e <;> rw [e]
    · exact h2
    · exact eref_one hr'
  | .vsl i off lo len, u, hr => by
    have hr' := hr
    obtain ⟨h1, h2⟩ := hr
    refine ⟨Nat.lt_of_lt_of_le h1 h.n, ?_⟩
    rcases h.φ i h1 with e | e <;> rw [e]
    · exact h2
    · exact vsl_one hr'
  | .mp i, u, hr => by
    have hr' := hr
    obtain ⟨h1, h2⟩ := hr
    refine ⟨Nat.lt_of_lt_of_le h1 h.n, ?_⟩
    rcases h.φ i h1 with e | e <;> rw [e]
    · exact h2
    · exact mp_one hr'
theorem Segs.ext {c c' : Cx} (h : Ext c c') : ∀ (l : List V) (cs : List Value), Segs c l cs → Segs c' l cs
  | [], _, hr => hr
  | v :: r, cs, hr => by
    cases v
    case arr k n l => obtain ⟨b, h1, h2, h3⟩ := hr; exact ⟨b, h1, h2, Segs.ext h r b h3⟩
    case byt n l => obtain ⟨b, h1, h2, h3⟩ := hr; exact ⟨b, h1, h2, Segs.ext h r b h3⟩
    all_goals (obtain ⟨u, b, h1, h2, h3, h4⟩ := hr; exact ⟨u, b, h1, h2, Rep.ext h _ u h3, Segs.ext h r b h4⟩)
theorem Elems.ext {c c' : Cx} (h : Ext c c') (sz : Nat) : ∀ (l : List (List V)) (cs : List Value), Elems c sz l cs → Elems c' sz l cs
  | [], _, hr => hr
  | e :: r, cs, hr => by
    obtain ⟨a, b, h1, h2, h3, h4⟩ := hr
    exact ⟨a, b, h1, h2, Segs.ext h e a h3, Elems.ext h sz r b h4⟩
theorem Reps.ext {c c' : Cx} (h : Ext c c') : ∀ (l : List V) (us : List Value), Reps c l us → Reps c' l us
  | [], _, hr => hr
  | v :: r, us, hr => by
    obtain ⟨u, us', h1, h2, h3⟩ := hr
    exact ⟨u, us', h1, Rep.ext h v u h2, Reps.ext h r us' h3⟩
end

/-! ### sizes -/
def nseg : V → Nat
  | .arr _ n _ => n
  | .byt n _ => n
  | _ => 1
def ncells : List V → Nat
  | [] => 0
  | v :: r => nseg v + ncells r

theorem Segs.len {c : Cx} : ∀ (l : List V) (cs : List Value), Segs c l cs → cs.length = ncells l
  | [], cs, h => by cases h; rfl
  | v :: r, cs, h => by
    cases v
    case arr k n l => obtain ⟨b, h1, h2, h3⟩ := h; subst h2; simp [ncells, nseg, intCells, h1, Segs.len r b h3]
    case byt n l => obtain ⟨b, h1, h2, h3⟩ := h; subst h2; simp [ncells, nseg, byteCells, h1, Segs.len r b h3]
    all_goals (obtain ⟨u, b, h1, h2, h3, h4⟩ := h; subst h1; simp [ncells, nseg, Segs.len r b h4]; omega)

theorem Segs.one {c : Cx} : ∀ (l : List V) (cs : List Value), Segs c l cs → ∀ u ∈ cs, u.oneCell' = true
  | [], cs, h => by cases h; simp
  | v :: r, cs, h => by
    cases v
    case arr k n l => obtain ⟨b, h1, h2, h3⟩ := h; subst h2; intro u hu; rcases List.mem_append.1 hu with hu | hu; (obtain ⟨x, _, rfl⟩ := List.mem_map.1 hu; rfl); exact Segs.one r b h3 u hu
    case byt n l => obtain ⟨b, h1, h2, h3⟩ := h; subst h2; intro u hu; rcases List.mem_append.1 hu with hu | hu; (obtain ⟨x, _, rfl⟩ := List.mem_map.1 hu; rfl); exact Segs.one r b h3 u hu
    all_goals (obtain ⟨u, b, h1, h2, h3, h4⟩ := h; subst h1; intro u' hu; rcases List.mem_cons.1 hu with rfl | hu; exact h2; exact Segs.one r b h4 u' hu)

theorem Elems.len {c : Cx} {sz : Nat} : ∀ (l : List (List V)) (cs : List Value), Elems c sz l cs → cs.length = l.length * sz
  | [], cs, h => by cases h; simp
  | e :: r, cs, h => by
    obtain ⟨a, b, rfl, h2, h3, h4⟩ := h
    simp [h2, Elems.len r b h4, Nat.succ_mul]; omega
theorem Elems.one {c : Cx} {sz : Nat} : ∀ (l : List (List V)) (cs : List Value), Elems c sz l cs → ∀ u ∈ cs, u.oneCell' = true
  | [], cs, h => by cases h; simp
  | e :: r, cs, h => by
    obtain ⟨a, b, rfl, h2, h3, h4⟩ := h
    intro u hu
    rcases List.mem_append.1 hu with hu | hu
    · exact Segs.one e a h3 u hu
    · exact Elems.one r b h4 u hu
end Go.AM
end

section
/- AM, part 2: what the operations do to abstract values; the transformer over code. -/
namespace Go.AM

inductive Rw where
  | bytes (l : List UInt8)
  | ints (k : IntKind) (l : List Int)
  | strs (l : List (List UInt8))
  | els (l : List (List V))

inductive Blk where
  | var (e : List V)
  | row (sz : Nat) (r : Rw)
  | map (es : List (V × V))

structure H where
  b : List (Nat × Blk)
  n : Nat

def getB : List (Nat × Blk) → Nat → Option Blk
  | [], _ => none
  | (j, x) :: r, i => if j = i then some x else getB r i
def delB : List (Nat × Blk) → Nat → List (Nat × Blk)
  | [], _ => []
  | (j, x) :: r, i => if j = i then delB r i else (j, x) :: delB r i
def setB : List (Nat × Blk) → Nat → Blk → List (Nat × Blk)
  | [], i, y => [(i, y)]
  | (j, x) :: r, i, y => if j = i then (j, y) :: delB r i else (j, x) :: setB r i y
def updB : List (Nat × Blk) → List (Nat × Option Blk) → List (Nat × Blk)
  | b, [] => b
  | b, (i, none) :: r => updB (delB b i) r
  | b, (i, some x) :: r => updB (setB b i x) r
def H.get (h : H) (i : Nat) : Option Blk := getB h.b i
def H.app (h : H) (u : List (Nat × Option Blk)) (nw : Nat) : H := ⟨updB h.b u, h.n + nw⟩

inductive R where
  | fail
  | ok (p : Prop) (v : V) (u : List (Nat × Option Blk)) (nw : Nat)

def X (r : R) (h : H) (K : V → H → Prop) : Prop :=
  match r with
  | .fail => False
  | .ok p v u nw => p ∧ K v (h.app u nw)
def Sp (v : V) (A B : Prop) : Prop :=
  match v with
  | .bool b => match b with
    | true => A
    | false => B
  | _ => False

/-! ### segments -/
def segsOf : V → Option (List V)
  | .agg e => some e
  | .tup _ | .undef | .arr _ _ _ | .byt _ _ => none
  | v => some [v]
def splitC : List V → Nat → Option (List V × List V)
  | [], k => if k = 0 then some ([], []) else none
  | v :: r, k =>
    if k = 0 then some ([], v :: r)
    else if nseg v ≤ k then
      match splitC r (k - nseg v) with
      | some (a, b) => some (v :: a, b)
      | none => none
    else none
def readSeg : V → Nat → Option (Prop × V)
  | .arr k n l, i => some (i < n, .int k (l.getD i 0))
  | .byt n l, i => some (i < n, .int .u8 ((l.getD i 0).toNat : Int))
  | v, 0 => some (True, v)
  | _, _ + 1 => none
def writeSeg : V → Nat → V → Option (Prop × V)
  | .arr k n l, i, x => match x with
    | .int k' m => if k = k' then some (i < n, .arr k n (l.set i m)) else none
    | _ => none
  | .byt n l, i, x => match x with
    | .int .u8 m => some (i < n ∧ 0 ≤ m ∧ m ≤ 255, .byt n (l.set i (UInt8.ofNat m.toNat)))
    | _ => none
  | _, 0, x => match x with
    | .agg _ | .tup _ | .undef | .arr _ _ _ | .byt _ _ => none
    | x => some (True, x)
  | _, _ + 1, _ => none
def loadE (agg : Bool) (sz : Nat) (e : List V) (off idx : Nat) : Option (Prop × V) :=
  match splitC e off with
  | none => none
  | some (_, r) =>
    match agg with
    | true => match splitC r sz with
      | some (c, _) => some (idx = 0, .agg c)
      | none => none
    | false => match r with
      | s :: _ => readSeg s idx
      | [] => none
def storeE (agg : Bool) (sz : Nat) (e : List V) (off idx : Nat) (x : V) : Option (Prop × List V) :=
  match splitC e off with
  | none => none
  | some (a, r) =>
    match agg with
    | true => match splitC r sz, segsOf x with
      | some (_, b), some ns => if ncells ns = sz then some (idx = 0, a ++ ns ++ b) else none
      | _, _ => none
    | false => match r with
      | s :: b => match writeSeg s idx x with
        | some (p, s') => some (p, a ++ s' :: b)
        | none => none
      | [] => none

/-! ### rows -/
def rwV (z : Option Bool) (sz : Nat) : Rw → Nat → Nat → V
  | .bytes l, lo, n => .slb z ((l.drop lo).take n)
  | .ints k l, lo, n => .sli z k ((l.drop lo).take n)
  | .strs l, lo, n => .sls z ((l.drop lo).take n)
  | .els l, lo, n => .sle z sz ((l.drop lo).take n)
def Rw.len : Rw → Nat
  | .bytes l => l.length
  | .ints _ l => l.length
  | .strs l => l.length
  | .els l => l.length
def Rw.cut : Rw → Nat → Nat → Rw
  | .bytes l, lo, n => .bytes ((l.drop lo).take n)
  | .ints k l, lo, n => .ints k ((l.drop lo).take n)
  | .strs l, lo, n => .strs ((l.drop lo).take n)
  | .els l, lo, n => .els ((l.drop lo).take n)
def Rw.cat : Rw → Rw → Option Rw
  | .bytes a, .bytes b => some (.bytes (a ++ b))
  | .ints j a, .ints k b => if j = k then some (.ints j (a ++ b)) else none
  | .strs a, .strs b => some (.strs (a ++ b))
  | .els a, .els b => some (.els (a ++ b))
  | _, _ => none
inductive EK where
  | byte
  | int (k : IntKind)
  | str
  | els
def Rw.nil : EK → Rw
  | .byte => .bytes []
  | .int k => .ints k []
  | .str => .strs []
  | .els => .els []

abbrev G := Nat → Option Blk

def deepen1 (g : G) : V → Option (Prop × V × List Nat)
  | .own i sz lo n => match g i with
    | some (.row s r) => if s = sz then some (lo + n ≤ r.len, rwV none sz r lo n, [i]) else none
    | _ => none
  | .vsl i off lo n => match g i with
    | some (.var e) => match splitC e off with
      | some (_, .byt m l :: _) => some (lo + n ≤ m, .slb (some true) ((l.drop lo).take n), [i])
      | some (_, .arr k m l :: _) => some (lo + n ≤ m, .sli (some true) k ((l.drop lo).take n), [i])
      | _ => none
    | _ => none
  | .ref _ _ _ | .eref _ _ _ _ _ | .mp _ | .fn _ _ | .tup _ | .agg _ | .undef => none
  | v => some (True, v, [])
def deepenL (g : G) : List V → Option (Prop × List V × List Nat)
  | [] => some (True, [], [])
  | v :: r =>
    match deepen1 g v, deepenL g r with
    | some (p, v', a), some (q, r', b) => some (p ∧ q, v' :: r', a ++ b)
    | _, _ => none
def deepen (g : G) : V → Option (Prop × V × List Nat)
  | .agg e => match deepenL g e with
    | some (p, e', a) => some (p, .agg e', a)
    | none => none
  | v => deepen1 g v
def deepens (g : G) : List V → Option (Prop × List V × List Nat)
  | [] => some (True, [], [])
  | v :: r => match deepen g v, deepens g r with
    | some (p, v', a), some (q, r', b) => some (p ∧ q, v' :: r', a ++ b)
    | _, _ => none

/-- A row of these elements. -/
def rowOf (ek : EK) : List V → Option (Prop × Rw)
  | [] => some (True, Rw.nil ek)
  | v :: r => match ek, v, rowOf ek r with
    | .byte, .int .u8 m, some (p, .bytes l) => some (0 ≤ m ∧ m ≤ 255 ∧ p, .bytes (UInt8.ofNat m.toNat :: l))
    | .int k, .int k' m, some (p, .ints k2 l) => if k' = k ∧ k2 = k then some (p, .ints k (m :: l)) else none
    | .str, .str s, some (p, .strs l) => some (p, .strs (s :: l))
    | .els, v, some (p, .els l) => match segsOf v with
      | some e => some (p, .els (e :: l))
      | none => none
    | _, _, _ => none
def ekFit (ek : EK) (sz : Nat) : Bool := match ek with
  | .els => true
  | _ => sz == 1
def szFit (sz : Nat) (v : V) : Bool := match segsOf v with
  | some e => ncells e == sz
  | none => false
/-- A row of zero values. -/
def zrow (ek : EK) (sz : Nat) (zero : Option (List V)) (k : Nat) : Option Rw := match ek, zero with
  | .byte, some [.int .u8 0] => if sz = 1 then some (.bytes (List.replicate k 0)) else none
  | .int j, some [.int j' 0] => if sz = 1 ∧ j' = j then some (.ints j (List.replicate k 0)) else none
  | .str, some [.str []] => if sz = 1 then some (.strs (List.replicate k [])) else none
  | .els, some e => if ncells e = sz then some (.els (List.replicate k e)) else none
  | _, _ => none
def pubs (l : List Nat) : List (Nat × Option Blk) := l.map fun i => (i, none)

/-- What a slice (or a string) holds. -/
def rwOf (g : G) (ek : EK) (sz : Nat) : V → Option (Prop × Rw)
  | .nils => if ekFit ek sz then some (True, .nil ek) else none
  | .slb _ l => if sz = 1 then some (True, .bytes l) else none
  | .sli _ k l => if sz = 1 then some (True, .ints k l) else none
  | .sls _ l => if sz = 1 then some (True, .strs l) else none
  | .sle _ s l => if s = sz then some (True, .els l) else none
  | .str s => if sz = 1 then some (True, .bytes s) else none
  | .own i s lo n => match g i with
    | some (.row s' r) => if s = sz ∧ s' = sz then some (lo + n ≤ r.len, r.cut lo n) else none
    | _ => none
  | .vsl i off lo n => if sz = 1 then match g i with
    | some (.var e) => match splitC e off with
      | some (_, .byt m l :: _) => some (lo + n ≤ m, .bytes ((l.drop lo).take n))
      | some (_, .arr k m l :: _) => some (lo + n ≤ m, .ints k ((l.drop lo).take n))
      | _ => none
    | _ => none
    else none
  | _ => none

/-! ### the operations -/
def pBox (v : V) (n : Nat) : R := match segsOf v with
  | some e => .ok True (.ref n 0 0) [(n, some (.var e))] 1
  | none => .fail
def pAlloc (e : Option (List V)) (n : Nat) : R := match e with
  | some e => .ok True (.ref n 0 0) [(n, some (.var e))] 1
  | none => .fail
def fillE : List V → List (Nat × Nat × V) → Option (List V)
  | e, [] => some e
  | e, (off, sz, x) :: r => match storeE true sz e off 0 x with
    | some (_, e') => fillE e' r
    | none => none
def pBuild (zero : Option (List V)) (parts : List (Nat × Nat × V)) : R := match zero with
  | some z => match fillE z parts with
    | some e => .ok True (.agg e) [] 0
    | none => .fail
  | none => .fail
def pBuildSlice (ek : EK) (sz len : Nat) (xs : List V) (g : G) (n : Nat) : R :=
  match deepens g xs with
  | some (q, ys, ps) => match rowOf ek ys with
    | some (p, r) => if xs.length = len ∧ ekFit ek sz = true ∧ ys.all (szFit sz) = true then .ok (q ∧ p) (.own n sz 0 len) (pubs ps ++ [(n, some (.row sz r))]) 1 else .fail
    | none => .fail
  | none => .fail
def elemR (r : Rw) (agg : Bool) (sz i off idx : Nat) : Option (Prop × V) := match r, agg with
  | .bytes l, false => some (i < l.length ∧ off = 0 ∧ idx = 0, .int .u8 ((l.getD i 0).toNat : Int))
  | .ints k l, false => some (i < l.length ∧ off = 0 ∧ idx = 0, .int k (l.getD i 0))
  | .strs l, false => some (i < l.length ∧ off = 0 ∧ idx = 0, .str (l.getD i []))
  | .els l, agg => match loadE agg sz (l.getD i []) off idx with
    | some (p, v) => some (i < l.length ∧ p, v)
    | none => none
  | _, _ => none
def pLoad (agg : Bool) (sz : Nat) (v : V) (g : G) : R := match v with
  | .ref i off idx => match g i with
    | some (.var e) => match loadE agg sz e off idx with
      | some (p, v) => .ok p v [] 0
      | none => .fail
    | _ => .fail
  | .pat e off idx => match loadE agg sz e off idx with
    | some (p, v) => .ok p v [] 0
    | none => .fail
  | .eref i s k off idx => match g i with
    | some (.row s' r) => if s' = s then match elemR r agg sz k off idx with
      | some (p, v) => .ok p v [] 0
      | none => .fail
      else .fail
    | _ => .fail
  | _ => .fail
def setR (r : Rw) (agg : Bool) (sz i off idx : Nat) (x : V) : Option (Prop × Rw) := match r, agg, x with
  | .bytes l, false, .int .u8 m => some (i < l.length ∧ off = 0 ∧ idx = 0 ∧ 0 ≤ m ∧ m ≤ 255, .bytes (l.set i (UInt8.ofNat m.toNat)))
  | .ints k l, false, .int k' m => if k' = k then some (i < l.length ∧ off = 0 ∧ idx = 0, .ints k (l.set i m)) else none
  | .strs l, false, .str s => some (i < l.length ∧ off = 0 ∧ idx = 0, .strs (l.set i s))
  | .els l, agg, x => match storeE agg sz (l.getD i []) off idx x with
    | some (p, e) => some (i < l.length ∧ p, .els (l.set i e))
    | none => none
  | _, _, _ => none
def pStore (agg : Bool) (sz : Nat) (v x : V) (g : G) : R := match v with
  | .ref i off idx => match g i with
    | some (.var e) => match storeE agg sz e off idx x with
      | some (p, e') => .ok p .undef [(i, some (.var e'))] 0
      | none => .fail
    | _ => .fail
  | .eref i s k off idx => match g i, deepen g x with
    | some (.row s' r), some (q, x', ps) => match setR r agg sz k off idx x' with
      | some (p, r') => if ps.contains i || s' != s then .fail else .ok (q ∧ p) .undef (pubs ps ++ [(i, some (.row s' r'))]) 0
      | none => .fail
    | _, _ => .fail
  | _ => .fail
def al (g : G) (i : Nat) (r : R) : R := match g i with
  | some _ => r
  | none => .fail
def pNil (v : V) (g : G) : R := match v with
  | .ref i off idx => al g i (.ok True (.ref i off idx) [] 0)
  | .eref i sz k off idx => al g i (.ok True (.eref i sz k off idx) [] 0)
  | .pat e off idx => .ok True (.pat e off idx) [] 0
  | .fn f c => .ok True (.fn f c) [] 0
  | _ => .fail
def pFieldAddr (off : Nat) (v : V) (g : G) : R := match v with
  | .ref i o 0 => al g i (.ok True (.ref i (o + off) 0) [] 0)
  | .eref i sz k o 0 => al g i (.ok True (.eref i sz k (o + off) 0) [] 0)
  | .pat e o 0 => .ok True (.pat e (o + off) 0) [] 0
  | _ => .fail
def pField (agg : Bool) (sz off : Nat) (v : V) : R := match v with
  | .agg e => match loadE agg sz e off 0 with
    | some (p, v) => .ok p v [] 0
    | none => .fail
  | _ => .fail
/-- An array's element (of one cell). -/
def pIndexArr (len : Nat) (v i : V) (g : G) : R := match v, i with
  | .ref j o 0, .int _ k => al g j (.ok (0 ≤ k ∧ k < len) (.ref j o k.toNat) [] 0)
  | .pat e o 0, .int _ k => .ok (0 ≤ k ∧ k < len) (.pat e o k.toNat) [] 0
  | .eref j sz m o 0, .int _ k => al g j (.ok (0 ≤ k ∧ k < len) (.eref j sz m o k.toNat) [] 0)
  | _, _ => .fail
def pIndexSl (sz : Nat) (v i : V) (g : G) : R := match v, i with
  | .slb _ l, .int _ k => if sz = 1 then .ok (0 ≤ k ∧ k < l.length) (.pat [.int .u8 ((l.getD k.toNat 0).toNat : Int)] 0 0) [] 0 else .fail
  | .sli _ ik l, .int _ k => if sz = 1 then .ok (0 ≤ k ∧ k < l.length) (.pat [.int ik (l.getD k.toNat 0)] 0 0) [] 0 else .fail
  | .sls _ l, .int _ k => if sz = 1 then .ok (0 ≤ k ∧ k < l.length) (.pat [.str (l.getD k.toNat [])] 0 0) [] 0 else .fail
  | .sle _ s l, .int _ k => if s = sz then .ok (0 ≤ k ∧ k < l.length) (.pat (l.getD k.toNat []) 0 0) [] 0 else .fail
  | .own j s lo n, .int _ k => if s = sz then al g j (.ok (0 ≤ k ∧ k < n) (.eref j s (lo + k.toNat) 0 0) [] 0) else .fail
  | .vsl j off lo n, .int _ k => if sz = 1 then al g j (.ok (0 ≤ k ∧ k < n) (.ref j off (lo + k.toNat)) [] 0) else .fail
  | _, _ => .fail
def pIndexStr (v i : V) : R := match v, i with
  | .str s, .int _ k => .ok (0 ≤ k ∧ k < s.length) (.int .u8 ((s.getD k.toNat 0).toNat : Int)) [] 0
  | _, _ => .fail
def pIndexAgg (len : Nat) (v i : V) : R := match v, i with
  | .agg [.byt n l], .int _ k => if n = len then .ok (0 ≤ k ∧ k < n) (.int .u8 ((l.getD k.toNat 0).toNat : Int)) [] 0 else .fail
  | .agg [.arr ik n l], .int _ k => if n = len then .ok (0 ≤ k ∧ k < n) (.int ik (l.getD k.toNat 0)) [] 0 else .fail
  | _, _ => .fail
def pLenStr (v : V) : R := match v with
  | .str s => .ok True (.int .i64 s.length) [] 0
  | _ => .fail
def pLenSl (v : V) (g : G) : R := match v with
  | .nils => .ok True (.int .i64 0) [] 0
  | .slb _ l => .ok True (.int .i64 l.length) [] 0
  | .sli _ _ l => .ok True (.int .i64 l.length) [] 0
  | .sls _ l => .ok True (.int .i64 l.length) [] 0
  | .sle _ _ l => .ok True (.int .i64 l.length) [] 0
  | .own i _ _ n => al g i (.ok True (.int .i64 n) [] 0)
  | .vsl i _ _ n => al g i (.ok True (.int .i64 n) [] 0)
  | _ => .fail
def pLenMap (v : V) (g : G) : R := match v with
  | .nilm => .ok True (.int .i64 0) [] 0
  | .mp i => match g i with
    | some (.map es) => .ok True (.int .i64 es.length) [] 0
    | _ => .fail
  | _ => .fail
/-- The bounds of 'x[lo:hi]'. -/
def bnd (len : Nat) (lo hi : Option V) : Option (Prop × Nat × Nat) := match lo, hi with
  | none, none => some (True, 0, len)
  | some (.int _ a), none => some (0 ≤ a ∧ a ≤ len, a.toNat, len)
  | none, some (.int _ b) => some (0 ≤ b ∧ b ≤ len, 0, b.toNat)
  | some (.int _ a), some (.int _ b) => some (0 ≤ a ∧ a ≤ b ∧ b ≤ len, a.toNat, b.toNat)
  | _, _ => none
def pSliceStr (v : V) (lo hi : Option V) : R := match v with
  | .str s => match bnd s.length lo hi with
    | some (p, a, b) => .ok p (.str ((s.drop a).take (b - a))) [] 0
    | none => .fail
  | _ => .fail
def pSliceSl (sz : Nat) (v : V) (lo hi : Option V) (g : G) : R := match v with
  | .slb z l => match bnd l.length lo hi with
    | some (p, a, b) => if sz = 1 then .ok p (.slb z ((l.drop a).take (b - a))) [] 0 else .fail
    | none => .fail
  | .sli z k l => match bnd l.length lo hi with
    | some (p, a, b) => if sz = 1 then .ok p (.sli z k ((l.drop a).take (b - a))) [] 0 else .fail
    | none => .fail
  | .sls z l => match bnd l.length lo hi with
    | some (p, a, b) => if sz = 1 then .ok p (.sls z ((l.drop a).take (b - a))) [] 0 else .fail
    | none => .fail
  | .sle z s l => match bnd l.length lo hi with
    | some (p, a, b) => if s = sz then .ok p (.sle z s ((l.drop a).take (b - a))) [] 0 else .fail
    | none => .fail
  | .nils => match bnd 0 lo hi with
    | some (p, _, _) => .ok p .nils [] 0
    | none => .fail
  | .own i s o n => match bnd n lo hi with
    | some (p, a, b) => if s = sz then al g i (.ok p (.own i s (o + a) (b - a)) [] 0) else .fail
    | none => .fail
  | _ => .fail
/-- 'x[lo:hi]' of an array's address. -/
def pSliceArr (len : Nat) (v : V) (lo hi : Option V) (g : G) : R := match v with
  | .ref i off 0 => match bnd len lo hi with
    | some (p, a, b) => al g i (.ok p (.vsl i off a (b - a)) [] 0)
    | none => .fail
  | .pat e off 0 => match splitC e off, bnd len lo hi with
    | some (_, .byt n l :: _), some (p, a, b) => if n = len then .ok p (.slb (some true) ((l.drop a).take (b - a))) [] 0 else .fail
    | some (_, .arr k n l :: _), some (p, a, b) => if n = len then .ok p (.sli (some true) k ((l.drop a).take (b - a))) [] 0 else .fail
    | _, _ => .fail
  | _ => .fail
def pAppend (ek : EK) (sz bytes : Nat) (s x : V) (g : G) (n : Nat) : R :=
  match rwOf g ek sz x with
  | none => .fail
  | some (q, xr) => match s with
    | .nils => match (Rw.nil ek).cat xr with
      | some r => .ok (q ∧ r.len * bytes ≤ 140737488355328) (.own n sz 0 r.len) [(n, some (.row sz r))] 1
      | none => .fail
    | .own i s' lo m => match g i with
      | some (.row s'' sr) => match (sr.cut lo m).cat xr with
        | some r => if s' = sz ∧ s'' = sz then .ok (q ∧ lo + m ≤ sr.len ∧ r.len * bytes ≤ 140737488355328) (.own n sz 0 r.len) [(i, none), (n, some (.row sz r))] 1 else .fail
        | none => .fail
      | _ => .fail
    | _ => .fail
def pMake (ek : EK) (sz bytes : Nat) (zero : Option (List V)) (len cap : V) (n : Nat) : R := match len, cap with
  | .int _ a, .int _ b => match zrow ek sz zero a.toNat with
    | some r => .ok (0 ≤ a ∧ a ≤ b ∧ b * bytes ≤ 140737488355328) (.own n sz 0 a.toNat) [(n, some (.row sz r))] 1
    | none => .fail
  | _, _ => .fail
def veqI : V → V → Option Bool
  | .int j x, .int k y => if j = k then some (decide (x = y)) else none
  | _, _ => none
def veqS : V → V → Option Bool
  | .str x, .str y => some (decide (x = y))
  | _, _ => none
def veqB : V → V → Option Bool
  | .bool x, .bool y => some (decide (x = y))
  | _, _ => none
inductive NK where
  | ptr
  | slice
  | map
def isPtr (g : G) : V → Bool
  | .ref i _ _ => (g i).isSome
  | .eref i _ _ _ _ => (g i).isSome
  | .pat _ _ _ => true
  | _ => false
/-- Against nil. -/
def veqN (g : G) : NK → V → V → Option Bool
  | .ptr, .nilp, .nilp => some true
  | .ptr, .nilp, y => if isPtr g y then some false else none
  | .ptr, x, .nilp => if isPtr g x then some false else none
  | .slice, .nils, .nils => some true
  | .slice, .slb (some b) _, .nils => some (!b)
  | .slice, .sli (some b) _ _, .nils => some (!b)
  | .slice, .sls (some b) _, .nils => some (!b)
  | .slice, .sle (some b) _ _, .nils => some (!b)
  | .map, .nilm, .nilm => some true
  | .map, .mp i, .nilm => if (g i).isSome then some false else none
  | _, _, _ => none
def veqA (n : Nat) : V → V → Option Bool
  | .agg [.byt m x], .agg [.byt m' y] => if m = n ∧ m' = n then some (decide (x = y)) else none
  | .agg [.arr j m x], .agg [.arr k m' y] => if m = n ∧ m' = n ∧ j = k then some (decide (x = y)) else none
  | _, _ => none
def pNot (neg : Bool) : Option Bool → R
  | some b => .ok True (.bool (if neg then !b else b)) [] 0
  | none => .fail
def vbits (op : BinOp) (k : IntKind) (x y : Int) : Int :=
  let a := BitVec.ofInt k.bits x
  let b := BitVec.ofInt k.bits y
  match op with
  | .and => k.wrap (a &&& b).toNat
  | .or => k.wrap (a ||| b).toNat
  | .xor => k.wrap (a ^^^ b).toNat
  | _ => k.wrap (a &&& ~~~b).toNat
def pBin (op : BinOp) (x y : V) : R := match op, x, y with
  | .shl, .int k a, .int _ b => .ok (0 ≤ b) (.int k (k.wrap (a * 2 ^ (min b.toNat k.bits)))) [] 0
  | .shr, .int k a, .int _ b => .ok (0 ≤ b) (.int k (a.fdiv (2 ^ (min b.toNat k.bits)))) [] 0
  | .add, .str a, .str b => .ok (a.length + b.length ≤ 9223372036854775807) (.str (a ++ b)) [] 0
  | .lss, .str a, .str b => .ok True (.bool (Op.bytesLess a b)) [] 0
  | .leq, .str a, .str b => .ok True (.bool (Op.bytesLess a b || decide (a = b))) [] 0
  | .gtr, .str a, .str b => .ok True (.bool (!(Op.bytesLess a b || decide (a = b)))) [] 0
  | .geq, .str a, .str b => .ok True (.bool (!(Op.bytesLess a b))) [] 0
  | op, .int k a, .int k' b => if k = k' then match op with
    | .add => .ok True (.int k (k.wrap (a + b))) [] 0
    | .sub => .ok True (.int k (k.wrap (a - b))) [] 0
    | .mul => .ok True (.int k (k.wrap (a * b))) [] 0
    | .quo => .ok (b ≠ 0) (.int k (k.wrap (a.tdiv b))) [] 0
    | .rem => .ok (b ≠ 0) (.int k (a.tmod b)) [] 0
    | .lss => .ok True (.bool (decide (a < b))) [] 0
    | .leq => .ok True (.bool (decide (a ≤ b))) [] 0
    | .gtr => .ok True (.bool (decide (b < a))) [] 0
    | .geq => .ok True (.bool (decide (b ≤ a))) [] 0
    | .and | .or | .xor | .andNot => .ok True (.int k (vbits op k a b)) [] 0
    | _ => .fail
    else .fail
  | _, _, _ => .fail
def pUn (op : UnOp) (x : V) : R := match op, x with
  | .not, .bool b => .ok True (.bool (!b)) [] 0
  | .neg, .int k n => .ok True (.int k (k.wrap (0 - n))) [] 0
  | _, _ => .fail
inductive CK where
  | int (k : IntKind)
  | toStr
  | idStr
  | toBytes
  | same
  | none
def pConv (c : CK) (v : V) (g : G) (n : Nat) : R := match c, v with
  | .int k, .int _ m => .ok True (.int k (k.wrap m)) [] 0
  | .idStr, .str s => .ok True (.str s) [] 0
  | .toStr, .str _ => .fail
  | .toStr, v => match rwOf g .byte 1 v with
    | some (q, .bytes l) => .ok q (.str l) [] 0
    | _ => .fail
  | .toBytes, .str s => .ok True (.own n 1 0 s.length) [(n, some (.row 1 (.bytes s)))] 1
  | .same, .own i s lo m => match g i with
    | some (.row s' r) => .ok (0 < m) (.own i s lo m) [(i, some (.row s' r))] 0
    | _ => .fail
  | _, _ => .fail
/-- A slice's first 'n' elements, as an array (persistent from now on). -/
def pS2A (n : Nat) (v : V) (g : G) : R := match deepen1 g v with
  | some (q, .slb _ l, ps) => .ok (q ∧ 0 < n ∧ n ≤ l.length) (.pat [.byt n (l.take n)] 0 0) (pubs ps) 0
  | some (q, .sli _ k l, ps) => .ok (q ∧ 0 < n ∧ n ≤ l.length) (.pat [.arr k n (l.take n)] 0 0) (pubs ps) 0
  | _ => .fail
def pExtract (v : V) (i : Nat) : R := match v with
  | .tup l => match l[i]? with
    | some v => .ok True v [] 0
    | none => .fail
  | _ => .fail
def pMin (x y : V) : R := match x, y with
  | .int k a, .int k' b => if k = k' then .ok True (.int k (if b < a then b else a)) [] 0 else .fail
  | _, _ => .fail
def pMax (x y : V) : R := match x, y with
  | .int k a, .int k' b => if k = k' then .ok True (.int k (if a < b then b else a)) [] 0 else .fail
  | _, _ => .fail
def vif (b : Bool) (x y : V) : V := match b with
  | true => x
  | false => y
def pPick (c a b : V) : R := match c with
  | .bool q => .ok True (vif q a b) [] 0
  | _ => .fail
/-- copy into an array of the call's own. -/
def putAt {α : Type} : List α → Nat → List α → List α
  | l, i, x => l.take i ++ x ++ l.drop (i + x.length)
def pCopy (d x : V) (g : G) : R := match d with
  | .vsl i off lo n => match g i with
    | some (.var e) => match splitC e off with
      | some (a, .byt m l :: r) => match rwOf g .byte 1 x with
        | some (q, .bytes y) => .ok (q ∧ lo + n ≤ m) (.int .i64 (min y.length n : Nat)) [(i, some (.var (a ++ .byt m (putAt l lo (y.take n)) :: r)))] 0
        | _ => .fail
      | some (a, .arr k m l :: r) => match rwOf g (.int k) 1 x with
        | some (q, .ints k' y) => if k' = k then .ok (q ∧ lo + n ≤ m) (.int .i64 (min y.length n : Nat)) [(i, some (.var (a ++ .arr k m (putAt l lo (y.take n)) :: r)))] 0 else .fail
        | _ => .fail
      | _ => .fail
    | _ => .fail
  | _ => .fail
end Go.AM
end

section
/- AM, part 3: abstract and concrete memory side by side; contracts; the transformer over code. -/
namespace Go.AM

/-! ### memory -/
def RwCells (c : Cx) (sz : Nat) : Rw → List Value → Prop
  | .bytes l, cs => sz = 1 ∧ cs = byteCells l
  | .ints k l, cs => sz = 1 ∧ cs = intCells k l
  | .strs l, cs => sz = 1 ∧ cs = strCells l
  | .els l, cs => Elems (dp c) sz l cs
def noFz (n : Nat) (fr : Nat × Nat) : Prop := fr = (0, 0) ∨ n ≤ fr.1
/-- A map's entries, in the model's own order. -/
def Ents (c : Cx) : List (V × V) → List MapEntry → Prop
  | [], es => es = []
  | (k, v) :: r, es => ∃ e es', es = e :: es' ∧ Rep (dp c) k e.key ∧ Rep (dp c) v e.val ∧ Ents c r es'
def HBlk (c : Cx) (i : Nat) : Blk → Prop
  | .var e => ∃ b s cur t cs, c.φ i = .at b s ∧ c.w.heap[b]? = some (.cells cur t (0, 0)) ∧ Segs c e cs ∧ s + cs.length ≤ cur.size ∧ ∀ j u, cs[j]? = some u → cur[s + j]? = some u
  | .row sz r => (c.φ i = .nil ∧ r.len = 0 ∧ RwCells c sz r []) ∨ ∃ b s cur t fr cs, c.φ i = .at b s ∧ c.w.heap[b]? = some (.cells cur t fr) ∧ noFz cur.size fr ∧ RwCells c sz r cs ∧ s + cs.length ≤ cur.size ∧ ∀ j u, cs[j]? = some u → cur[s + j]? = some u
  | .map es => ∃ b s ents clock, c.φ i = .at b s ∧ c.w.heap[b]? = some (.map ents clock) ∧ Ents c es ents.toList
structure HS (n0 : Nat) (F : Nat → Prop) (c : Cx) (b : List (Nat × Blk)) : Prop where
  blk : ∀ i x, getB b i = some x → i < c.n ∧ HBlk c i x
  dom : ∀ i, getB b i = none → c.φ i = .dead
  exc : ∀ i a s, c.φ i = .at a s → (F a ∨ n0 ≤ a) ∧ ¬ c.ok a ∧ a < c.w.heap.size
  inj : ∀ i j a s s', c.φ i = .at a s → c.φ j = .at a s' → i = j
  lt : ∀ a, c.ok a → a < c.w.heap.size
structure Frame (w0 : World) (F : Nat → Prop) (w : World) : Prop where
  os : w.os = w0.os
  tape : w.tape = w0.tape
  output : w.output = w0.output
  size : w0.heap.size ≤ w.heap.size
  blk : ∀ b, b < w0.heap.size → ¬ F b → w.heap[b]? = w0.heap[b]?
  sz : ∀ b, b < w0.heap.size → sizeAt w b = sizeAt w0 b

/-! ### contracts -/
/-- What a call does: the arguments, and the blocks that they lead to; the result, and the blocks behind the call ('m' and on: new ones). -/
structure Tr where
  f : FuncId
  vals : List V
  b0 : List (Nat × Blk)
  m : Nat
  res : V
  b1 : List (Nat × Blk)
  n1 : Nat
def foot (m : Nat) (φ : Nat → Loc) (b : Nat) : Prop := ∃ i s, i < m ∧ φ i = .at b s
/-- Behind the call. -/
structure Post (T : Tr) (w : World) (ok : Nat → Prop) (φ : Nat → Loc) (u : Value) (c : Cx) : Prop where
  frame : Frame w (foot T.m φ) c.w
  oks : ∀ b, ok b → c.ok b
  okn : ∀ b, c.ok b → ok b ∨ foot T.m φ b ∨ w.heap.size ≤ b
  old : ∀ i, i < T.m → c.φ i = φ i ∨ c.φ i = .dead
  n : c.n = T.n1 ∧ T.m ≤ T.n1
  hs : HS w.heap.size (foot T.m φ) c T.b1
  res : Rep c T.res u
/-- A function of the program's own, with a body. -/
def callable (P : Program) (f : FuncId) : Bool := match P.funcs[f]? with
  | some fn => fn.name != "runtime.NumGoroutine" && fn.body.isSome
  | none => false
def TrOk (P : Program) (T : Tr) : Prop :=
  callable P T.f = true ∧ (∀ q ∈ T.b1, q.1 < T.n1) ∧ ∀ (w : World) (ok : Nat → Prop) (φ : Nat → Loc) (us : List Value),
    HS w.heap.size (foot T.m φ) ⟨w, ok, φ, T.m⟩ T.b0 → Reps ⟨w, ok, φ, T.m⟩ T.vals us →
    Calls P T.f ⟨us⟩ w fun e w' => ∃ u c, e = .returned u ∧ c.w = w' ∧ Post T w ok φ u c

/-- A name of the callee's as the caller's. -/
def rn (ρ : List Nat) (m base i : Nat) : Nat := if i < m then ρ.getD i 0 else base + (i - m)
mutual
def renV (r : Nat → Nat) : V → V
  | .ref i off idx => .ref (r i) off idx
  | .own i sz lo n => .own (r i) sz lo n
  | .eref i sz e off idx => .eref (r i) sz e off idx
  | .vsl i off lo n => .vsl (r i) off lo n
  | .mp i => .mp (r i)
  | .agg e => .agg (renVs r e)
  | .tup l => .tup (renVs r l)
  | .fn f l => .fn f (renVs r l)
  | v => v
def renVs (r : Nat → Nat) : List V → List V
  | [] => []
  | v :: l => renV r v :: renVs r l
end
def renB (r : Nat → Nat) : Blk → Blk
  | .var e => .var (renVs r e)
  | b => b
def renH (r : Nat → Nat) : List (Nat × Blk) → List (Nat × Blk)
  | [] => []
  | (i, b) :: l => (r i, renB r b) :: renH r l
mutual
/-- What is known of a value of persistent memory is less than before. -/
def wkV : V → V → Prop
  | .nils, .slb z l => l = [] ∧ z ≠ some true
  | .nils, .sli z _ l => l = [] ∧ z ≠ some true
  | .nils, .sls z l => l = [] ∧ z ≠ some true
  | .nils, .sle z _ l => l = [] ∧ z ≠ some true
  | .slb z l, .slb z' l' => l = l' ∧ (z' = z ∨ z' = none)
  | .sli z k l, .sli z' k' l' => k = k' ∧ l = l' ∧ (z' = z ∨ z' = none)
  | .sls z l, .sls z' l' => l = l' ∧ (z' = z ∨ z' = none)
  | .sle z s l, .sle z' s' l' => s = s' ∧ wkEs l l' ∧ (z' = z ∨ z' = none)
  | v, v' => v = v'
def wkE : List V → List V → Prop
  | [], [] => True
  | v :: l, v' :: l' => wkV v v' ∧ wkE l l'
  | _, _ => False
def wkEs : List (List V) → List (List V) → Prop
  | [], [] => True
  | e :: l, e' :: l' => wkE e e' ∧ wkEs l l'
  | _, _ => False
end
/-- The caller's value goes as the callee's one: as it is, or what it holds is given away for good ('ps'). -/
def pass (g : G) (r : Nat → Nat) (ps : List Nat) (v v' : V) : Prop := match v, v' with
  | .nils, .slb z l => l = [] ∧ z ≠ some true
  | .nils, .sli z _ l => l = [] ∧ z ≠ some true
  | .nils, .sls z l => l = [] ∧ z ≠ some true
  | .nils, .sle z _ l => l = [] ∧ z ≠ some true
  | .slb z l, .slb z' l' => l = l' ∧ (z' = z ∨ z' = none)
  | .sli z k l, .sli z' k' l' => k = k' ∧ l = l' ∧ (z' = z ∨ z' = none)
  | .sls z l, .sls z' l' => l = l' ∧ (z' = z ∨ z' = none)
  | .sle z s l, .sle z' s' l' => s = s' ∧ wkEs l l' ∧ (z' = z ∨ z' = none)
  | .own i sz lo n, .own i' sz' lo' n' => i = r i' ∧ sz = sz' ∧ lo = lo' ∧ n = n'
  | .own i sz lo n, v' => i ∈ ps ∧ match g i with
    | some (.row s x) => s = sz ∧ lo + n ≤ x.len ∧ wkV (rwV none sz x lo n) v'
    | _ => False
  | .vsl i off lo n, .vsl i' off' lo' n' => i = r i' ∧ off = off' ∧ lo = lo' ∧ n = n'
  | .vsl i off lo n, v' => i ∈ ps ∧ match deepen1 g (.vsl i off lo n) with
    | some (q, w, _) => q ∧ wkV w v'
    | none => False
  | v, v' => v = renV r v'
/-- A nil slice as a row of the call's own, with nothing in it (names from 'b' on are such rows). -/
def passM (b : Option Nat) (g : G) (r : Nat → Nat) (ps : List Nat) (v v' : V) : Prop := match v, v' with
  | .nils, .own i _ lo n => match b with
    | some k => k ≤ r i ∧ (g (r i)).isSome = true ∧ lo = 0 ∧ n = 0
    | none => False
  | v, v' => pass g r ps v v'
def isSeg : V → Bool
  | .arr _ _ _ => true
  | .byt _ _ => true
  | _ => false
/-- The same of what a variable holds. -/
def passS (b : Option Nat) (g : G) (r : Nat → Nat) (ps : List Nat) (v v' : V) : Prop := match isSeg v || isSeg v' with
  | true => v = v'
  | false => passM b g r ps v v'
def passE (b : Option Nat) (g : G) (r : Nat → Nat) (ps : List Nat) : List V → List V → Prop
  | [], [] => True
  | v :: l, v' :: l' => passS b g r ps v v' ∧ passE b g r ps l l'
  | _, _ => False
def passT (b : Option Nat) (g : G) (r : Nat → Nat) (ps : List Nat) : List V → List V → Prop
  | [], [] => True
  | v :: l, v' :: l' => (match v, v' with
    | .agg e, .agg e' => passE b g r ps e e'
    | v, v' => passM b g r ps v v') ∧ passT b g r ps l l'
  | _, _ => False
def passN (b : Option Nat) (g : G) (r : Nat → Nat) (ps : List Nat) (v v' : V) : Prop := match v, v' with
  | .tup l, .tup l' => passT b g r ps l l'
  | .agg e, .agg e' => passE b g r ps e e'
  | v, v' => passM b g r ps v v'
def passL (b : Option Nat) (g : G) (r : Nat → Nat) (ps : List Nat) : List V → List V → Prop
  | [], [] => True
  | v :: l, v' :: l' => passN b g r ps v v' ∧ passL b g r ps l l'
  | _, _ => False
def passB (b : Option Nat) (g : G) (r : Nat → Nat) (ps : List Nat) (x y : Blk) : Prop := match x, y with
  | .var e, .var e' => passE b g r ps e e'
  | x, y => x = y
def heapOk (b : Option Nat) (g : G) (r : Nat → Nat) (ps : List Nat) : List (Nat × Blk) → Prop
  | [] => True
  | (i, y) :: l => (match g (r i) with
    | some x => passB b g r ps x y
    | none => False) ∧ heapOk b g r ps l
/-- Nil slices get rows. -/
def nilRows (n : Nat) : List (Nat × EK) → List (Nat × Blk)
  | [] => []
  | (sz, ek) :: l => (n, .row sz (Rw.nil ek)) :: nilRows (n + 1) l
def H.nilx (h : H) (nl : List (Nat × EK)) : H := ⟨nilRows h.n nl ++ h.b, h.n + nl.length⟩
def nlOk (nl : List (Nat × EK)) : Prop := nl.all (fun q => ekFit q.2 q.1) = true
def delAll (b : List (Nat × Blk)) : List Nat → List (Nat × Blk)
  | [] => b
  | i :: l => delAll (delB b i) l
def putAll (b : List (Nat × Blk)) : List (Nat × Blk) → List (Nat × Blk)
  | [] => b
  | (i, x) :: l => setB (putAll b l) i x
/-- The heap behind a call. -/
def callH (T : Tr) (ρ ps : List Nat) (h : H) : H := ⟨putAll (delAll (delAll h.b ps) ρ) (renH (rn ρ T.m h.n) T.b1), h.n + (T.n1 - T.m)⟩
structure Fits (T : Tr) (ρ ps : List Nat) (f : FuncId) (vals : List V) (h : H) : Prop where
  f : T.f = f
  vals : passL none h.get (rn ρ T.m h.n) ps vals T.vals
  heap : heapOk none h.get (rn ρ T.m h.n) ps T.b0
  m : ρ.length = T.m ∧ T.b0.map (·.1) = List.range T.m
  dist : (ρ ++ ps).Nodup
def ECall (P : Program) (f : FuncId) (vals : List V) (h : H) (K : V → H → Prop) : Prop :=
  ∃ (T : Tr) (ρ ps : List Nat), TrOk P T ∧ Fits T ρ ps f vals h ∧ K (renV (rn ρ T.m h.n) T.res) (callH T ρ ps h)

def FnC (v : V) (A : FuncId → List V → Prop) : Prop := match v with
  | .fn f caps => A f caps
  | _ => False

/-! ### what types say -/
def aggP (P : Program) (t : TypeId) : Bool := match P.underlying t with
  | some (.struct _) => true
  | some (.array _ _) => true
  | _ => false
def szP (P : Program) (t : TypeId) : Nat := match P.info? t with
  | some i => i.size
  | none => 0
def bytesP (P : Program) (t : TypeId) : Nat := match P.info? t with
  | some i => i.bytes
  | none => 0
def zsegs (P : Program) : Nat → TypeId → List V
  | 0, _ => []
  | d + 1, t => match P.underlying t with
    | some (.int k) => [.int k 0]
    | some .bool => [.bool false]
    | some .string => [.str []]
    | some (.slice _) => [.nils]
    | some (.pointer _) => [.nilp]
    | some (.map _ _) => [.nilm]
    | some (.func _ _ _) => [.nilf]
    | some (.array n e) => match P.underlying e with
      | some (.int .u8) => [.byt n (List.replicate n 0)]
      | some (.int k) => [.arr k n (List.replicate n 0)]
      | _ => (List.replicate n (zsegs P d e)).flatten
    | some (.struct fs) => fs.toList.flatMap fun f => zsegs P d f.type
    | _ => []
/-- Are these cells what these segments say? (of zero values) -/
def zcheck : List V → List Value → Bool
  | [], [] => true
  | .int k 0 :: r, .int k' 0 :: s => k == k' && zcheck r s
  | .bool false :: r, .bool false :: s => zcheck r s
  | .str [] :: r, .string x :: s => x.data.toList.isEmpty && zcheck r s
  | .nils :: r, .slice none 0 0 :: s => zcheck r s
  | .nilp :: r, .pointer none :: s => zcheck r s
  | .nilm :: r, .map none :: s => zcheck r s
  | .nilf :: r, .nilFunc :: s => zcheck r s
  | .byt n l :: r, s => (s.take n).length == n && l.length == n && (l.all (· == 0)) && ((s.take n).all fun | .int .u8 0 => true | _ => false) && zcheck r (s.drop n)
  | .arr k n l :: r, s => (s.take n).length == n && l.length == n && (l.all (· == 0)) && ((s.take n).all fun | .int k' 0 => k == k' | _ => false) && zcheck r (s.drop n)
  | _, _ => false
def zeroP (P : Program) (t : TypeId) : Option (List V) := match P.info? t with
  | some i => match i.zero with
    | some z => if zcheck (zsegs P 8 t) z.cells.toList then some (zsegs P 8 t) else none
    | none => none
  | none => none
def elemP (P : Program) (t : TypeId) : Nat := match P.underlying t with
  | some (.slice e) => e
  | some (.array _ e) => e
  | _ => 0
def ekOf (P : Program) (e : TypeId) : EK := match P.underlying e with
  | some (.int .u8) => .byte
  | some (.int k) => .int k
  | some .string => .str
  | _ => .els
def ekP (P : Program) (t : TypeId) : EK := ekOf P (elemP P t)
def fieldP (P : Program) (t : TypeId) (i : Nat) : Nat × TypeId := match P.underlying t with
  | some (.struct fs) => match fs[i]? with
    | some f => (f.offset, f.type)
    | none => (0, 0)
  | _ => (0, 0)
/-- The place and the size of a part of a literal. -/
def partP (P : Program) (t : TypeId) (i : Nat) : Nat × Nat := match P.underlying t with
  | some (.struct fs) => match fs[i]? with
    | some f => (f.offset, szP P f.type)
    | none => (0, 0)
  | some (.array _ e) => (i * szP P e, szP P e)
  | _ => (0, 0)
def ckP (P : Program) (src dst : TypeId) : CK := match P.underlying src, P.underlying dst with
  | some _, some (.int k) => .int k
  | some (.slice e), some .string => match P.underlying e with
    | some (.int .u8) => .toStr
    | _ => .none
  | some .string, some .string => .idStr
  | some .string, some (.slice e) => match P.underlying e with
    | some (.int .u8) => .toBytes
    | _ => .none
  | some (.slice _), some (.slice e) => match P.underlying e with
    | some (.int .u8) => if src == dst then .same else .none
    | _ => .none
  | _, _ => .none

/-! ### code -/
structure St where
  t : List V
  h : H
def ofVal : Value → V
  | .int k n => .int k n
  | .bool b => .bool b
  | .string s => .str s.data.toList
  | .slice none 0 0 => .nils
  | .pointer none => .nilp
  | .map none => .nilm
  | .nilFunc => .nilf
  | _ => .undef
def ev (t : List V) : Operand → V
  | .tmp i => t.getD i .undef
  | .const v => ofVal v
  | .global _ => .undef
  | .func f => .fn f []
def putT (t : List V) : Option Tmp → V → List V
  | some d, v => t.set d v
  | none, _ => t
/-- An element's zero value has its size; it has one. -/
def zokP (P : Program) (e : TypeId) : Bool := match P.info? e with
  | some i => match i.zero with
    | some z => z.cells.size == i.size && i.size != 0 && i.bytes != 0
    | none => false
  | none => false
/-- What is appended is no number of zeros. -/
def noInt (P : Program) (t : TypeId) : Bool := match P.underlying t with
  | some (.slice _) => true
  | some .string => true
  | _ => false
/-- Every part of the literal has its place. -/
def buildOk (P : Program) (t : TypeId) (is : List Nat) : Bool := match P.underlying t with
  | some (.struct fs) => fs.toList.all (fun f => (P.info? f.type).isSome) && is.all (fun i => decide (i < fs.size))
  | some (.array _ e) => (P.info? e).isSome
  | _ => false
def isSl (P : Program) (t : TypeId) : Bool := match P.underlying t with
  | some (.slice _) => true
  | _ => false
def tyOk (P : Program) (t : TypeId) : Bool := (P.info? t).isSome && (P.underlying t).isSome
def EOp (P : Program) (o : Oper) (t : List V) (h : H) (K : V → H → Prop) : Prop := match o.op with
  | .move x => K (ev t x) h
  | .assign x => K (ev t x) h
  | .pick c a b => X (pPick (ev t c) (ev t a) (ev t b)) h K
  | .alloc e => X (pAlloc (zeroP P e) h.n) h K
  | .box _ x => X (pBox (ev t x) h.n) h K
  | .build ty parts => if !buildOk P ty (parts.toList.map (·.1)) then False else X (pBuild (zeroP P ty) (parts.toList.map fun q => ((partP P ty q.1).1, (partP P ty q.1).2, ev t q.2))) h K
  | .buildSlice ty len parts =>
    if parts.toList.map (·.1) = List.range len ∧ isSl P ty ∧ zokP P (elemP P ty) ∧ len * szP P (elemP P ty) ≤ 16777216 then X (pBuildSlice (ekP P ty) (szP P (elemP P ty)) len (parts.toList.map fun q => ev t q.2) h.get h.n) h K else False
  | .load ty a => if tyOk P ty then X (pLoad (aggP P ty) (szP P ty) (ev t a) h.get) h K else False
  | .store ty a x => if tyOk P ty && (aggP P ty || szP P ty == 1) then X (pStore (aggP P ty) (szP P ty) (ev t a) (ev t x) h.get) h K else False
  | .nilCheck x => X (pNil (ev t x) h.get) h K
  | .binOp op ty x y _ => match op == .eql || op == .neq with
    | true => match P.underlying ty with
      | some (.pointer _) => X (pNot (op == .neq) (veqN h.get .ptr (ev t x) (ev t y))) h K
      | some (.slice _) => X (pNot (op == .neq) (veqN h.get .slice (ev t x) (ev t y))) h K
      | some (.map _ _) => X (pNot (op == .neq) (veqN h.get .map (ev t x) (ev t y))) h K
      | some (.array n e) => match P.underlying e with
        | some (.int _) => if szP P e = 1 ∧ P.eqGuardType P.depth ty = false then X (pNot (op == .neq) (veqA n (ev t x) (ev t y))) h K else False
        | _ => False
      | some (.int _) => X (pNot (op == .neq) (veqI (ev t x) (ev t y))) h K
      | some .string => X (pNot (op == .neq) (veqS (ev t x) (ev t y))) h K
      | some .bool => X (pNot (op == .neq) (veqB (ev t x) (ev t y))) h K
      | _ => False
    | false => X (pBin op (ev t x) (ev t y)) h K
  | .unOp op _ x => X (pUn op (ev t x)) h K
  | .convert src dst x => X (pConv (ckP P src dst) (ev t x) h.get h.n) h K
  | .slice ty x lo hi none => match P.underlying ty with
    | some (.array n e) => if szP P e = 1 then X (pSliceArr n (ev t x) (lo.map (ev t)) (hi.map (ev t)) h.get) h K else False
    | some .string => X (pSliceStr (ev t x) (lo.map (ev t)) (hi.map (ev t))) h K
    | some (.slice e) => if szP P e = 0 then False else X (pSliceSl (szP P e) (ev t x) (lo.map (ev t)) (hi.map (ev t)) h.get) h K
    | _ => False
  | .fieldAddr s x f => match P.underlying s with
    | some (.struct fs) => match fs[f]? with
      | some d => if szP P d.type = 0 then False else X (pFieldAddr d.offset (ev t x) h.get) h K
      | none => False
    | _ => False
  | .field s x f => match P.underlying s with
    | some (.struct fs) => match fs[f]? with
      | some d => if !tyOk P d.type then False else X (pField (aggP P d.type) (szP P d.type) d.offset (ev t x)) h K
      | none => False
    | _ => False
  | .indexAddr ty x i => match P.underlying ty with
    | some (.array n e) => if szP P e = 1 then X (pIndexArr n (ev t x) (ev t i) h.get) h K else False
    | some (.slice e) => if szP P e = 0 then False else X (pIndexSl (szP P e) (ev t x) (ev t i) h.get) h K
    | _ => False
  | .index ty x i => match P.underlying ty with
    | some .string => X (pIndexStr (ev t x) (ev t i)) h K
    | some (.array n e) => if szP P e = 1 ∧ P.underlying e ≠ none ∧ aggP P e = false then X (pIndexAgg n (ev t x) (ev t i)) h K else False
    | _ => False
  | .extract x i => X (pExtract (ev t x) i) h K
  | .sliceToArrayPointer ty x => match P.underlying ty with
    | some (.array n _) => X (pS2A n (ev t x) h.get) h K
    | _ => False
  | .makeSlice ty l c => if !(isSl P ty && zokP P (elemP P ty)) then False else X (pMake (ekP P ty) (szP P (elemP P ty)) (bytesP P (elemP P ty)) (zeroP P (elemP P ty)) (ev t l) (ev t c) h.n) h K
  | .makeFunc (.func f) first caps => if first.size = 0 then K (.fn f (caps.toList.map (ev t))) h else False
  | .call c => match c.callee with
    | .builtin .len => if c.args.size = 1 ∧ c.argTypes.size = 1 then match P.underlying (c.argTypes.getD 0 0) with
      | some .string => X (pLenStr (ev t (c.args.getD 0 (.tmp 0)))) h K
      | some (.slice _) => X (pLenSl (ev t (c.args.getD 0 (.tmp 0))) h.get) h K
      | some (.map _ _) => X (pLenMap (ev t (c.args.getD 0 (.tmp 0))) h.get) h K
      | _ => False
      else False
    | .builtin .append => if c.args.size = 2 ∧ c.argTypes.size = 2 ∧ isSl P (c.argTypes.getD 0 0) ∧ zokP P (elemP P (c.argTypes.getD 0 0)) ∧ noInt P (c.argTypes.getD 1 0) then X (pAppend (ekP P (c.argTypes.getD 0 0)) (szP P (elemP P (c.argTypes.getD 0 0))) (bytesP P (elemP P (c.argTypes.getD 0 0))) (ev t (c.args.getD 0 (.tmp 0))) (ev t (c.args.getD 1 (.tmp 0))) h.get h.n) h K else False
    | .builtin .min => if c.args.size = 2 then X (pMin (ev t (c.args.getD 0 (.tmp 0))) (ev t (c.args.getD 1 (.tmp 0)))) h K else False
    | .builtin .max => if c.args.size = 2 then X (pMax (ev t (c.args.getD 0 (.tmp 0))) (ev t (c.args.getD 1 (.tmp 0)))) h K else False
    | .builtin .copy => if !(c.args.size == 2 && c.argTypes.size == 2 && isSl P (c.argTypes.getD 0 0) && szP P (elemP P (c.argTypes.getD 0 0)) == 1) then False else X (pCopy (ev t (c.args.getD 0 (.tmp 0))) (ev t (c.args.getD 1 (.tmp 0))) h.get) h K
    | .value f => match ev t f with
      | .fn f caps => ECall P f (c.args.toList.map (ev t) ++ caps) h K
      | _ => False
    | _ => False
  | _ => False
def isG (ops : Array Oper) (i : Nat) : Bool := ops.any fun o => match o.guard with
  | some (j, _) => j == i
  | none => false
def EOps (P : Program) (ops : Array Oper) : List Oper → Nat → List V → H → (St → Prop) → Prop
  | [], _, t, h, K => K ⟨t, h⟩
  | o :: r, i, t, h, K =>
    match o.guard with
    | none => EOp P o t h fun v h' => match isG ops i with
      | true => Sp v (EOps P ops r (i + 1) (putT t o.dst (.bool true)) h' K) (EOps P ops r (i + 1) (putT t o.dst (.bool false)) h' K)
      | false => EOps P ops r (i + 1) (putT t o.dst v) h' K
    | some (j, want) => match (ops[j]?).bind (·.dst) with
      | none => False
      | some d => match t.getD d .undef with
        | .bool b => match b == want with
          | true => EOp P o t h fun v h' => match isG ops i with
            | true => Sp v (EOps P ops r (i + 1) (putT t o.dst (.bool true)) h' K) (EOps P ops r (i + 1) (putT t o.dst (.bool false)) h' K)
            | false => EOps P ops r (i + 1) (putT t o.dst v) h' K
          | false => EOps P ops r (i + 1) (putT t o.dst (.tup [])) h K
        | .tup l => match l with
          | [] => EOps P ops r (i + 1) (putT t o.dst (.tup [])) h K
          | _ => False
        | _ => False
/-! regions that draw their order -/
mutual
def idsV : V → List Nat
  | .ref i _ _ => [i]
  | .own i _ _ _ => [i]
  | .eref i _ _ _ _ => [i]
  | .vsl i _ _ _ => [i]
  | .mp i => [i]
  | .agg e => idsL e
  | .tup l => idsL l
  | .fn _ l => idsL l
  | _ => []
def idsL : List V → List Nat
  | [] => []
  | v :: r => idsV v ++ idsL r
end
/-- May it look at the blocks, or turn them? -/
def heapy : Op → Bool
  | .move _ | .assign _ | .pick _ _ _ | .unOp _ _ _ | .field _ _ _ | .index _ _ _ | .extract _ _ | .build _ _ | .makeFunc _ _ _ => false
  | .binOp op _ _ _ _ => op == .eql || op == .neq
  | _ => true
/-- May it bring new blocks? -/
def allocy (P : Program) : Op → Bool
  | .alloc _ | .box _ _ | .buildSlice _ _ _ | .makeSlice _ _ _ => true
  | .convert _ d _ => isSl P d
  | .call c => match c.callee with
    | .builtin .append => true
    | .builtin _ => false
    | _ => true
  | _ => false
def opds : Op → List Operand
  | .move x | .assign x | .box _ x | .load _ x | .nilCheck x | .unOp _ _ x | .convert _ _ x | .sliceToArrayPointer _ x | .fieldAddr _ x _ | .field _ x _ | .extract x _ => [x]
  | .pick c a b => [c, a, b]
  | .build _ ps | .buildSlice _ _ ps => ps.toList.map (·.2)
  | .store _ a v | .binOp _ _ a v _ | .makeSlice _ a v | .indexAddr _ a v | .index _ a v => [a, v]
  | .makeFunc _ _ caps => caps.toList
  | .slice _ x l h _ => x :: (l.toList ++ h.toList)
  | .call c => match c.callee with
    | .value f => f :: c.args.toList
    | _ => c.args.toList
  | _ => []
/-- The operations of the heap, as one. -/
def opR (P : Program) (o : Oper) (t : List V) (g : G) (n : Nat) : R := match o.op with
  | .alloc e => pAlloc (zeroP P e) n
  | .box _ x => pBox (ev t x) n
  | .buildSlice ty len parts =>
    if parts.toList.map (·.1) = List.range len ∧ isSl P ty ∧ zokP P (elemP P ty) ∧ len * szP P (elemP P ty) ≤ 16777216 then pBuildSlice (ekP P ty) (szP P (elemP P ty)) len (parts.toList.map fun q => ev t q.2) g n else .fail
  | .load ty a => if tyOk P ty then pLoad (aggP P ty) (szP P ty) (ev t a) g else .fail
  | .store ty a x => if tyOk P ty && (aggP P ty || szP P ty == 1) then pStore (aggP P ty) (szP P ty) (ev t a) (ev t x) g else .fail
  | .nilCheck x => pNil (ev t x) g
  | .binOp op ty x y _ => match op == .eql || op == .neq with
    | true => match P.underlying ty with
      | some (.pointer _) => pNot (op == .neq) (veqN g .ptr (ev t x) (ev t y))
      | some (.slice _) => pNot (op == .neq) (veqN g .slice (ev t x) (ev t y))
      | some (.map _ _) => pNot (op == .neq) (veqN g .map (ev t x) (ev t y))
      | some (.array n e) => match P.underlying e with
        | some (.int _) => if szP P e = 1 ∧ P.eqGuardType P.depth ty = false then pNot (op == .neq) (veqA n (ev t x) (ev t y)) else .fail
        | _ => .fail
      | some (.int _) => pNot (op == .neq) (veqI (ev t x) (ev t y))
      | some .string => pNot (op == .neq) (veqS (ev t x) (ev t y))
      | some .bool => pNot (op == .neq) (veqB (ev t x) (ev t y))
      | _ => .fail
    | false => .fail
  | .convert src dst x => pConv (ckP P src dst) (ev t x) g n
  | .slice ty x lo hi none => match P.underlying ty with
    | some (.array n e) => if szP P e = 1 then pSliceArr n (ev t x) (lo.map (ev t)) (hi.map (ev t)) g else .fail
    | some .string => pSliceStr (ev t x) (lo.map (ev t)) (hi.map (ev t))
    | some (.slice e) => if szP P e = 0 then .fail else pSliceSl (szP P e) (ev t x) (lo.map (ev t)) (hi.map (ev t)) g
    | _ => .fail
  | .fieldAddr s x f => match P.underlying s with
    | some (.struct fs) => match fs[f]? with
      | some d => if szP P d.type = 0 then .fail else pFieldAddr d.offset (ev t x) g
      | none => .fail
    | _ => .fail
  | .indexAddr ty x i => match P.underlying ty with
    | some (.array n e) => if szP P e = 1 then pIndexArr n (ev t x) (ev t i) g else .fail
    | some (.slice e) => if szP P e = 0 then .fail else pIndexSl (szP P e) (ev t x) (ev t i) g
    | _ => .fail
  | .sliceToArrayPointer ty x => match P.underlying ty with
    | some (.array n _) => pS2A n (ev t x) g
    | _ => .fail
  | .makeSlice ty l c => if !(isSl P ty && zokP P (elemP P ty)) then .fail else pMake (ekP P ty) (szP P (elemP P ty)) (bytesP P (elemP P ty)) (zeroP P (elemP P ty)) (ev t l) (ev t c) n
  | .call c => match c.callee with
    | .builtin .len => if c.args.size = 1 ∧ c.argTypes.size = 1 then match P.underlying (c.argTypes.getD 0 0) with
      | some .string => pLenStr (ev t (c.args.getD 0 (.tmp 0)))
      | some (.slice _) => pLenSl (ev t (c.args.getD 0 (.tmp 0))) g
      | some (.map _ _) => pLenMap (ev t (c.args.getD 0 (.tmp 0))) g
      | _ => .fail
      else .fail
    | .builtin .append => if c.args.size = 2 ∧ c.argTypes.size = 2 ∧ isSl P (c.argTypes.getD 0 0) ∧ zokP P (elemP P (c.argTypes.getD 0 0)) ∧ noInt P (c.argTypes.getD 1 0) then pAppend (ekP P (c.argTypes.getD 0 0)) (szP P (elemP P (c.argTypes.getD 0 0))) (bytesP P (elemP P (c.argTypes.getD 0 0))) (ev t (c.args.getD 0 (.tmp 0))) (ev t (c.args.getD 1 (.tmp 0))) g n else .fail
    | .builtin .min => if c.args.size = 2 then pMin (ev t (c.args.getD 0 (.tmp 0))) (ev t (c.args.getD 1 (.tmp 0))) else .fail
    | .builtin .max => if c.args.size = 2 then pMax (ev t (c.args.getD 0 (.tmp 0))) (ev t (c.args.getD 1 (.tmp 0))) else .fail
    | .builtin .copy => if !(c.args.size == 2 && c.argTypes.size == 2 && isSl P (c.argTypes.getD 0 0) && szP P (elemP P (c.argTypes.getD 0 0)) == 1) then .fail else pCopy (ev t (c.args.getD 0 (.tmp 0))) (ev t (c.args.getD 1 (.tmp 0))) g
    | _ => .fail
  | _ => .fail
def XD (r : R) (h : H) (rs : List Nat) (K : V → List Nat → List Nat → H → Prop) : Prop := match r with
  | .fail => False
  | .ok p v u nw => p ∧ K v (u.map (·.1)) rs (h.app u nw)
def callU (T : Tr) (ρ ps : List Nat) (n : Nat) : List (Nat × Option Blk) := pubs ps ++ (pubs ρ ++ (renH (rn ρ T.m n) T.b1).reverse.map fun q => (q.1, some q.2))
def ECallD (P : Program) (f : FuncId) (vals : List V) (h : H) (K : V → List Nat → List Nat → H → Prop) : Prop :=
  ∃ (T : Tr) (ρ ps : List Nat), TrOk P T ∧ Fits T ρ ps f vals h ∧ K (renV (rn ρ T.m h.n) T.res) ((callU T ρ ps h.n).map (·.1)) (ρ ++ ps) (callH T ρ ps h)
def EOpD (P : Program) (o : Oper) (t : List V) (h : H) (K : V → List Nat → List Nat → H → Prop) : Prop :=
  match heapy o.op with
  | false => EOp P o t h fun v h' => K v [] [] h'
  | true => match o.op with
    | .call c => match c.callee with
      | .value f => match ev t f with
        | .fn f caps => ECallD P f (c.args.toList.map (ev t) ++ caps) h K
        | _ => False
      | _ => XD (opR P o t h.get h.n) h (idsL ((opds o.op).map (ev t))) K
    | _ => XD (opR P o t h.get h.n) h (idsL ((opds o.op).map (ev t))) K
abbrev TE := Nat × List Nat × List Nat
def EOpsD (P : Program) (ops : Array Oper) : List Nat → List V → H → List TE → (St → List TE → Prop) → Prop
  | [], t, h, es, K => K ⟨t, h⟩ es
  | i :: r, t, h, es, K => match ops[i]? with
    | none => False
    | some o => match o.guard with
      | none => EOpD P o t h fun v ks rs h' => match isG ops i with
        | true => Sp v (EOpsD P ops r (putT t o.dst (.bool true)) h' ((i, ks, rs) :: es) K) (EOpsD P ops r (putT t o.dst (.bool false)) h' ((i, ks, rs) :: es) K)
        | false => EOpsD P ops r (putT t o.dst v) h' ((i, ks, rs) :: es) K
      | some (j, want) => match (ops[j]?).bind (·.dst) with
        | none => False
        | some d => match t.getD d .undef with
          | .bool b => match b == want with
            | true => EOpD P o t h fun v ks rs h' => match isG ops i with
              | true => Sp v (EOpsD P ops r (putT t o.dst (.bool true)) h' ((i, ks, rs) :: es) K) (EOpsD P ops r (putT t o.dst (.bool false)) h' ((i, ks, rs) :: es) K)
              | false => EOpsD P ops r (putT t o.dst v) h' ((i, ks, rs) :: es) K
            | false => EOpsD P ops r (putT t o.dst (.tup [])) h es K
          | .tup l => match l with
            | [] => EOpsD P ops r (putT t o.dst (.tup [])) h es K
            | _ => False
          | _ => False
def lookE : List TE → Nat → List Nat × List Nat
  | [], _ => ([], [])
  | (j, ks, rs) :: r, i => if j = i then (ks, rs) else lookE r i
def disj (a b : List Nat) : Bool := a.all fun x => !b.contains x
def Indep : List (Nat × Nat) → List TE → Prop
  | [], _ => True
  | (i, j) :: r, es => (disj (lookE es i).1 (lookE es j).1 = true ∧ disj (lookE es i).1 (lookE es j).2 = true ∧ disj (lookE es j).1 (lookE es i).2 = true) ∧ Indep r es
/-- What comes ahead of each, by the edges that always bind: bits. -/
def maskOf (acc : List Nat) : List Edge → Nat
  | [] => 0
  | e :: r => if Region.binds .any e then (2 ^ e.on ||| acc.getD e.on 0) ||| maskOf acc r else maskOf acc r
def masksGo : List Nat → List Oper → List Nat
  | acc, [] => acc
  | acc, o :: r => masksGo (acc ++ [maskOf acc o.after.toList]) r
def masks (ops : Array Oper) : List Nat := masksGo [] ops.toList
def ahead (ms : List Nat) (i j : Nat) : Bool := (ms.getD j 0).testBit i
def opAt (ops : Array Oper) (i : Nat) : Oper := ops.getD i default
def pairs (n : Nat) : List (Nat × Nat) := (List.range n).flatMap fun j => (List.range j).map fun i => (i, j)
def unord (ops : Array Oper) : List (Nat × Nat) :=
  (pairs ops.size).filter fun q => !(ahead (masks ops) q.1 q.2) && heapy (opAt ops q.1).op && heapy (opAt ops q.2).op
def tmpsOf (ops : Array Oper) (o : Oper) : List Nat := ((opds o.op).filterMap fun | .tmp i => some i | _ => none) ++ (match o.guard with
  | some (j, _) => ((ops[j]?).bind (·.dst)).toList
  | none => [])
/-- Pairs without an order have nothing to do with each other's temporaries. -/
def tmpsChk (ops : Array Oper) : Bool := (pairs ops.size).all fun q => ahead (masks ops) q.1 q.2 ||
  (match (opAt ops q.1).dst with
    | some d => (opAt ops q.2).dst != some d && !(tmpsOf ops (opAt ops q.2)).contains d
    | none => true) &&
  (match (opAt ops q.2).dst with
    | some d => !(tmpsOf ops (opAt ops q.1)).contains d
    | none => true)
def validGo (m : Region.Mode) (ops : Array Oper) : List Nat → List Nat → Bool
  | _, [] => true
  | seen, i :: r => !seen.contains i && decide (i < ops.size) && ((opAt ops i).after.toList.all fun e => !Region.binds m e || seen.contains e.on) && validGo m ops (i :: seen) r
def valid (m : Region.Mode) (ops : Array Oper) (σ : List Nat) : Bool := validGo m ops [] σ && (List.range ops.size).all fun i => σ.contains i
/-- All orders of these that keep to the order. -/
def exts (ms : List Nat) : Nat → List Nat → List (List Nat)
  | 0, _ => [[]]
  | k + 1, A => match A with
    | [] => [[]]
    | _ => (A.filter fun a => A.all fun b => !ahead ms b a).flatMap fun a => (exts ms k (A.erase a)).map fun r => a :: r
def ordGo (ops : Array Oper) (A : List Nat) : Nat → List Nat → List Nat → List Nat
  | 0, _, _ => []
  | k + 1, seen, α => match (List.range ops.size).find? fun i => !seen.contains i && ((opAt ops i).after.toList.all fun e => !Region.binds .any e || seen.contains e.on) && (!A.contains i || α.head? == some i) with
    | some i => i :: ordGo ops A k (i :: seen) (if A.contains i then α.tail else α)
    | none => []
def ordFor (ops : Array Oper) (A α : List Nat) : List Nat := if α == A then List.range ops.size else ordGo ops A ops.size [] α
def allocs (P : Program) (ops : Array Oper) : List Nat := (List.range ops.size).filter fun i => allocy P (opAt ops i).op
def repsD (P : Program) (ops : Array Oper) : List (List Nat) := (exts (masks ops) (allocs P ops).length (allocs P ops)).map (ordFor ops (allocs P ops))
def drawChk (P : Program) (ops : Array Oper) : Bool :=
  valid .any ops (List.range ops.size) && valid .text ops (List.range ops.size) && (valid .gc ops (List.range ops.size) || valid .gc ops (Region.linearise .gc ops 0)) && tmpsChk ops &&
  (exts (masks ops) (allocs P ops).length (allocs P ops)).all fun α => valid .any ops (ordFor ops (allocs P ops) α) && (ordFor ops (allocs P ops) α).filter (fun i => allocy P (opAt ops i).op) == α
def AllD : List (List Nat) → (List Nat → Prop) → Prop
  | [], _ => True
  | [x], p => p x
  | x :: r, p => p x ∧ AllD r p
/-! loops: the slots that live on ('kp', by the loop's first region) -/
def pack (keep : List Nat) (t : List V) : List V := keep.map fun i => t.getD i .undef
def unpackF : List Nat → List V → Nat → List V → List V
  | [], t, _, _ => t
  | i :: r, t, k, xs => unpackF r (t.set i (xs.getD k .undef)) (k + 1) xs
def unpack (nt : Nat) (keep : List Nat) (xs : List V) : List V := unpackF keep (List.replicate nt .undef) 0 xs
def kpOf : List (Nat × List Nat) → Nat → List Nat
  | [], _ => []
  | (r, l) :: q, i => if r = i then l else kpOf q i
def firstRegion : Code → Nat
  | .region id _ _ => id
  | .seq a _ => firstRegion a
  | .block _ c => firstRegion c
  | .loop c => firstRegion c
  | _ => 0
/-- What is known is less than before: values given up, blocks given up or made persistent, other names. -/
structure Weak0 (m b : Nat) (xs : List V) (h : H) (ys : List V) (h' : H) (ρ ps : List Nat) : Prop where
  vals : passL (some b) h.get (rn ρ h'.n h.n) ps xs ys
  heap : heapOk (some b) h.get (rn ρ h'.n h.n) ps h'.b
  len : ρ.length = h'.n
  old : m ≤ h'.n ∧ ∀ i, i < m → ρ.getD i 0 = i
  keys : ∀ q ∈ h'.b, q.1 < h'.n
  dist : (h'.b.map (fun q => rn ρ h'.n h.n q.1) ++ ps).Nodup
def Weak (m : Nat) (xs : List V) (h : H) (ys : List V) (h' : H) (nl : List (Nat × EK)) (ρ ps : List Nat) : Prop := nlOk nl ∧ Weak0 m h.n xs (h.nilx nl) ys h' ρ ps
def Lp (m : Nat) (B : (List V → H → Prop) → List V → H → Prop) (xs : List V) (h : H) : Prop :=
  ∃ I : List V → H → Nat → Prop, (∃ ys h' nl ρ ps k, Weak m xs h ys h' nl ρ ps ∧ I ys h' k) ∧
    ∀ xs h k, I xs h k → B (fun ys h1 => ∃ zs h' nl ρ ps k', Weak m ys h1 zs h' nl ρ ps ∧ k' < k ∧ I zs h' k') xs h
def thenQ (K : St → Prop) (Q : Exit → St → Prop) : Exit → St → Prop
  | .normal, σ => K σ
  | e, σ => Q e σ
def blockQ (id : Nat) (Q : Exit → St → Prop) : Exit → St → Prop
  | .exit i, σ => if i = id then Q .normal σ else Q (.exit i) σ
  | e, σ => Q e σ
def E (P : Program) (m nt : Nat) (kp : Nat → List Nat) : Code → (Exit → St → Prop) → St → Prop
  | .skip, Q, σ => Q .normal σ
  | .region _ ops false, Q, σ => EOps P ops ops.toList 0 σ.t σ.h (Q .normal)
  | .region _ ops true, Q, σ => match drawChk P ops with
    | true => AllD (repsD P ops) fun s => EOpsD P ops s σ.t σ.h [] fun σ' es => Indep (unord ops) es ∧ Q .normal σ'
    | false => False
  | .seq a b, Q, σ => E P m nt kp a (thenQ (E P m nt kp b Q) Q) σ
  | .cond c x y, Q, σ => Sp (ev σ.t c) (E P m nt kp x Q σ) (E P m nt kp y Q σ)
  | .block id c, Q, σ => E P m nt kp c (blockQ id Q) σ
  | .loop c, Q, σ => Lp m (fun N xs h => E P m nt kp c (thenQ (fun σ' => N (pack (kp (firstRegion c)) σ'.t) σ'.h) Q) ⟨unpack nt (kp (firstRegion c)) xs, h⟩) (pack (kp (firstRegion c)) σ.t) σ.h
  | .exit id, Q, σ => Q (.exit id) σ
  | .ret, Q, σ => Q .ret σ
  | _, _, _ => False
/-- The results. -/
def resOf (P : Program) (t : List V) (h : H) : List ResultVar → (List V → H → Prop) → Prop
  | [], K => K [] h
  | .tmp i :: r, K => resOf P t h r fun l h => K (t.getD i .undef :: l) h
  | .cell a ty :: r, K => if !tyOk P ty then False else X (pLoad (aggP P ty) (szP P ty) (t.getD a .undef) h.get) h fun v h => resOf P t h r fun l h => K (v :: l) h
def tupV : List V → V
  | [v] => v
  | l => .tup l
def EF (P : Program) (fn : Func) (kp : Nat → List Nat) (vals : List V) (h : H) (K : V → H → Prop) : Prop :=
  match fn.body with
  | none => False
  | some c => E P h.n fn.ntmps kp c (fun e σ => match e with
      | .normal => resOf P σ.t σ.h fn.results.toList fun l h => K (tupV l) h
      | .ret => resOf P σ.t σ.h fn.results.toList fun l h => K (tupV l) h
      | _ => False) ⟨vals ++ List.replicate (fn.ntmps - vals.length) .undef, h⟩
end Go.AM
end

section
/- AM, part 4: the relation between abstract and concrete memory is kept by each kind of step. -/
namespace Go.AM

/-! ### lists of blocks -/
theorem getB_delB (b : List (Nat × Blk)) (i j : Nat) : getB (delB b i) j = if j = i then none else getB b j := by
  induction b with
  | nil => simp [delB, getB]
  | cons q r ih =>
    obtain ⟨k, x⟩ := q
    by_cases hk : k = i
    · simp only [delB, hk, if_true, ih, getB]
      by_cases hj : j = i
      · simp [hj]
      · simp only [hj, if_false]
        rw [if_neg (fun e => hj e.symm)]
    · simp only [delB, hk, if_false, getB, ih]
      by_cases hj : k = j
      · subst hj; simp [hk]
      · simp only [hj, if_false]
theorem getB_setB (b : List (Nat × Blk)) (i : Nat) (y : Blk) (j : Nat) : getB (setB b i y) j = if j = i then some y else getB b j := by
  induction b with
  | nil =>
    simp only [setB, getB]
    by_cases hj : j = i
    · simp [hj]
    · simp only [hj, if_false]; rw [if_neg (fun e => hj e.symm)]
  | cons q r ih =>
    obtain ⟨k, x⟩ := q
    by_cases hk : k = i
    · simp only [setB, hk, if_true, getB]
      by_cases hj : j = i
      · simp [hj]
      · simp only [hj, if_false]
        rw [if_neg (fun e => hj e.symm), if_neg (fun e => hj e.symm), getB_delB]
        simp [hj]
    · simp only [setB, hk, if_false, getB, ih]
      by_cases hj : k = j
      · subst hj; simp [hk]
      · simp only [hj, if_false]

/-! ### steps -/
structure Ctx0 where
  w0 : World
  F : Nat → Prop
  ok0 : Nat → Prop
  m : Nat
  φ0 : Nat → Loc
structure Inv (z : Ctx0) (c : Cx) (h : H) : Prop where
  frame : Frame z.w0 z.F c.w
  hs : HS z.w0.heap.size z.F c h.b
  n : c.n = h.n
  oks : ∀ b, z.ok0 b → c.ok b
  okn : ∀ b, c.ok b → z.ok0 b ∨ z.F b ∨ z.w0.heap.size ≤ b
  old : ∀ i, i < z.m → c.φ i = z.φ0 i ∨ c.φ i = .dead
  mn : z.m ≤ c.n

/-- The world's step: nothing but the blocks of 'S' has turned. -/
structure WStep (w w' : World) (S : Nat → Prop) : Prop where
  os : w'.os = w.os
  tape : w'.tape = w.tape
  output : w'.output = w.output
  size : w.heap.size ≤ w'.heap.size
  blk : ∀ b, b < w.heap.size → ¬ S b → w'.heap[b]? = w.heap[b]?
  sz : ∀ b, b < w.heap.size → sizeAt w' b = sizeAt w b

theorem Inv.go {z : Ctx0} {c c' : Cx} {h h' : H} (I : Inv z c h) (x : Ext c c') {S : Nat → Prop} (ws : WStep c.w c'.w S)
    (hS : ∀ b, S b → z.F b ∨ z.w0.heap.size ≤ b) (hok : ∀ b, c'.ok b → c.ok b ∨ z.F b ∨ z.w0.heap.size ≤ b) (hn : c'.n = h'.n)
    (hs : HS z.w0.heap.size z.F c' h'.b) : Inv z c' h' where
  frame := by
    have f := I.frame
    refine ⟨ws.os.trans f.os, ws.tape.trans f.tape, ws.output.trans f.output, Nat.le_trans f.size ws.size, fun b hb hF => ?_, fun b hb => ?_⟩
    · rw [ws.blk b (Nat.lt_of_lt_of_le hb f.size) (fun hs => ?_), f.blk b hb hF]
      rcases hS b hs with h1 | h1
      · exact hF h1
      · omega
    · rw [ws.sz b (Nat.lt_of_lt_of_le hb f.size), f.sz b hb]
  hs := hs
  n := hn
  oks := fun b hb => x.ok b (I.oks b hb)
  okn := fun b hb => by
    rcases hok b hb with h1 | h1 | h1
    · exact I.okn b h1
    · exact .inr (.inl h1)
    · exact .inr (.inr h1)
  old := fun i hi => by
    have hin : i < c.n := Nat.lt_of_lt_of_le hi I.mn
    rcases x.φ i hin with e | e
    · rw [e]; exact I.old i hi
    · exact .inr e
  mn := Nat.le_trans I.mn x.n

theorem Ents.ext {c c' : Cx} (h : Ext c c') : ∀ (l : List (V × V)) (es : List MapEntry), Ents c l es → Ents c' l es
  | [], _, hr => hr
  | (k, v) :: r, es, hr => by
    obtain ⟨e, es', h1, h2, h3, h4⟩ := hr
    exact ⟨e, es', h1, Rep.ext h.dp _ _ h2, Rep.ext h.dp _ _ h3, Ents.ext h r es' h4⟩
theorem RwCells.ext {c c' : Cx} (h : Ext c c') {sz : Nat} {r : Rw} {cs : List Value} (hr : RwCells c sz r cs) : RwCells c' sz r cs := by
  cases r with
  | els l => exact Elems.ext h.dp sz l cs hr
  | _ => exact hr

theorem HBlk.ext {c c' : Cx} (h : Ext c c') {i : Nat} (hφ : c'.φ i = c.φ i) (hb : ∀ b s, c.φ i = .at b s → c'.w.heap[b]? = c.w.heap[b]?) {x : Blk} (hx : HBlk c i x) : HBlk c' i x := by
  cases x with
  | var e =>
    obtain ⟨b, s, cur, t, cs, h1, h2, h3, h4, h5⟩ := hx
    exact ⟨b, s, cur, t, cs, hφ.trans h1, (hb b s h1).trans h2, Segs.ext h e cs h3, h4, h5⟩
  | row sz r =>
    rcases hx with ⟨h1, h2, h3⟩ | ⟨b, s, cur, t, fr, cs, h1, h2, h3, h4, h5⟩
    · exact .inl ⟨hφ.trans h1, h2, h3.ext h⟩
    · exact .inr ⟨b, s, cur, t, fr, cs, hφ.trans h1, (hb b s h1).trans h2, h3, h4.ext h, h5⟩
  | map es =>
    obtain ⟨b, s, ents, clock, h1, h2, h3⟩ := hx
    exact ⟨b, s, ents, clock, hφ.trans h1, (hb b s h1).trans h2, Ents.ext h es _ h3⟩

/-- Only draws: the heap is as it was. -/
theorem Inv.draw {z : Ctx0} {c : Cx} {h : H} (I : Inv z c h) {w' : World} (hh : w'.heap = c.w.heap) (ho : w'.os = c.w.os) (ht : w'.tape = c.w.tape) (hp : w'.output = c.w.output) :
    Inv z { c with w := w' } h ∧ Ext c { c with w := w' } := by
  have hsz : ∀ b, sizeAt w' b = sizeAt c.w b := fun b => by unfold sizeAt; rw [hh]
  have x : Ext c { c with w := w' } := ⟨Nat.le_refl _, fun _ _ => .inl rfl, fun _ h => h, fun b _ => by show w'.heap[b]? = _; rw [hh], fun _ b _ _ _ => hsz b⟩
  refine ⟨I.go x (S := fun _ => False) ⟨ho, ht, hp, by rw [hh]; exact Nat.le_refl _, fun b _ _ => by show w'.heap[b]? = _; rw [hh], fun b _ => hsz b⟩ (fun _ h => h.elim) (fun _ h => .inl h) I.n ?_, x⟩
  exact ⟨fun i y hy => ⟨(I.hs.blk i y hy).1, (I.hs.blk i y hy).2.ext x rfl (fun b s _ => by show w'.heap[b]? = _; rw [hh])⟩, I.hs.dom,
    fun i a s hi => by have := I.hs.exc i a s hi; exact ⟨this.1, this.2.1, by show a < w'.heap.size; rw [hh]; exact this.2.2⟩, I.hs.inj,
    fun a ha => by show a < w'.heap.size; rw [hh]; exact I.hs.lt a ha⟩

def allocC (c : Cx) (o : Obj) : Cx := { w := c.w.alloc o, ok := c.ok, φ := fun i => if i = c.n then .at c.w.heap.size 0 else c.φ i, n := c.n + 1 }
theorem heap_alloc_lt (w : World) (o : Obj) (b : Nat) (hb : b < w.heap.size) : (w.alloc o).heap[b]? = w.heap[b]? := by
  simp only [World.alloc, Array.getElem?_push]; rw [if_neg (by omega)]
theorem heap_alloc_new (w : World) (o : Obj) : (w.alloc o).heap[w.heap.size]? = some o := by
  show (w.heap.push o)[w.heap.size]? = _
  simp
theorem sizeAt_of {w w' : World} {b : Nat} (h : w'.heap[b]? = w.heap[b]?) : sizeAt w' b = sizeAt w b := by unfold sizeAt; rw [h]

theorem Inv.alloc_ext {z : Ctx0} {c : Cx} {h : H} (I : Inv z c h) (o : Obj) : Ext c (allocC c o) where
  n := Nat.le_succ _
  φ := fun i hi => .inl (by show (if i = c.n then _ else _) = _; rw [if_neg (by omega)])
  ok := fun _ h => h
  blk := fun b hb => heap_alloc_lt _ _ _ (I.hs.lt b hb)
  sz := fun i b s hi hφ => by
    have hφ' : (if i = c.n then Loc.at c.w.heap.size 0 else c.φ i) = .at b s := hφ
    rw [if_neg (by omega)] at hφ'
    exact sizeAt_of (heap_alloc_lt _ _ _ (I.hs.exc i b s hφ').2.2)
theorem wstep_alloc (w : World) (o : Obj) : WStep w (w.alloc o) fun _ => False :=
  ⟨rfl, rfl, rfl, by rw [World.size_alloc]; omega, fun b hb _ => heap_alloc_lt _ _ _ hb, fun b hb => sizeAt_of (heap_alloc_lt _ _ _ hb)⟩

theorem Inv.alloc {z : Ctx0} {c : Cx} {h : H} (I : Inv z c h) (o : Obj) (x : Blk) (hx : HBlk (allocC c o) c.n x) :
    Inv z (allocC c o) ⟨setB h.b c.n x, h.n + 1⟩ := by
  have hx' := I.alloc_ext o
  refine I.go hx' (wstep_alloc c.w o) (fun _ h => h.elim) (fun _ h => .inl h) (by show c.n + 1 = h.n + 1; rw [I.n]) ?_
  have hφ : ∀ i, i ≠ c.n → (allocC c o).φ i = c.φ i := fun i hi => if_neg hi
  refine ⟨fun i y hy => ?_, fun i hi => ?_, fun i a s hi => ?_, fun i j a s s' hi hj => ?_, fun a ha => ?_⟩
  · rw [getB_setB] at hy
    by_cases hin : i = c.n
    · rw [if_pos hin] at hy
      injection hy with hy; subst hy; subst hin
      exact ⟨Nat.lt_succ_self _, hx⟩
    · rw [if_neg hin] at hy
      obtain ⟨h1, h2⟩ := I.hs.blk i y hy
      exact ⟨Nat.lt_succ_of_lt h1, h2.ext hx' (hφ i hin) (fun b s hb => heap_alloc_lt _ _ _ (I.hs.exc i b s hb).2.2)⟩
  · rw [getB_setB] at hi
    by_cases hin : i = c.n
    · rw [if_pos hin] at hi; cases hi
    · rw [if_neg hin] at hi; rw [hφ i hin]; exact I.hs.dom i hi
  · by_cases hin : i = c.n
    · have hi' : (if i = c.n then Loc.at c.w.heap.size 0 else c.φ i) = .at a s := hi
      rw [if_pos hin] at hi'
      injection hi' with ha hs'
      subst ha
      exact ⟨.inr I.frame.size, fun hok => Nat.lt_irrefl _ (I.hs.lt _ hok), by show _ < (c.w.heap.push o).size; simp⟩
    · rw [hφ i hin] at hi
      obtain ⟨h1, h2, h3⟩ := I.hs.exc i a s hi
      exact ⟨h1, h2, by show _ < (c.w.heap.push o).size; simp; omega⟩
  · have key : ∀ k b t, k = c.n → (allocC c o).φ k = .at b t → b = c.w.heap.size := by
      intro k b t hk hb
      have hb' : (if k = c.n then Loc.at c.w.heap.size 0 else c.φ k) = .at b t := hb
      rw [if_pos hk] at hb'; injection hb' with hb' _; exact hb'.symm
    by_cases hin : i = c.n <;> by_cases hjn : j = c.n
    · omega
    · have ha := key i a s hin hi
      rw [hφ j hjn] at hj
      have := (I.hs.exc j a s' hj).2.2; omega
    · have ha := key j a s' hjn hj
      rw [hφ i hin] at hi
      have := (I.hs.exc i a s hi).2.2; omega
    · rw [hφ i hin] at hi; rw [hφ j hjn] at hj; exact I.hs.inj i j a s s' hi hj
  · have := I.hs.lt a ha
    show _ < (c.w.heap.push o).size; simp; omega

def killC (c : Cx) (k : Nat) : Cx := { c with φ := fun i => if i = k then .dead else c.φ i }
theorem kill_ext (c : Cx) (k : Nat) : Ext c (killC c k) where
  n := Nat.le_refl _
  φ := fun i _ => by
    show (if i = k then _ else _) = _ ∨ (if i = k then _ else _) = _
    by_cases h : i = k
    · exact .inr (if_pos h)
    · exact .inl (if_neg h)
  ok := fun _ h => h
  blk := fun _ _ => rfl
  sz := fun _ _ _ _ _ => rfl
theorem killC_ne {c : Cx} {k i : Nat} (h : i ≠ k) : (killC c k).φ i = c.φ i := if_neg h
theorem killC_eq {c : Cx} {k : Nat} : (killC c k).φ k = .dead := if_pos rfl
theorem killC_at {c : Cx} {k i a s : Nat} (h : (killC c k).φ i = .at a s) : i ≠ k ∧ c.φ i = .at a s := by
  by_cases e : i = k
  · subst e; rw [killC_eq] at h; cases h
  · exact ⟨e, (killC_ne e).symm.trans h⟩

/-- A block is given up: it stays as it is (and may be read by all from now on). -/
def pubC (c : Cx) (k : Nat) (S : Nat → Prop) : Cx := { killC c k with ok := fun a => c.ok a ∨ S a }
theorem pub_ext (c : Cx) (k : Nat) (S : Nat → Prop) : Ext c (pubC c k S) :=
  ⟨Nat.le_refl _, (kill_ext c k).φ, fun _ h => .inl h, fun _ _ => rfl, fun _ _ _ _ _ => rfl⟩
theorem Inv.pub {z : Ctx0} {c : Cx} {h : H} (I : Inv z c h) (k : Nat) (S : Nat → Prop) (hS : ∀ a, S a → ∃ s, c.φ k = .at a s) :
    Inv z (pubC c k S) ⟨delB h.b k, h.n⟩ := by
  have x := pub_ext c k S
  refine I.go x (S := fun _ => False) ⟨rfl, rfl, rfl, Nat.le_refl _, fun _ _ _ => rfl, fun _ _ => rfl⟩ (fun _ h => h.elim) (fun b hb => ?_) I.n ?_
  · rcases hb with hb | hb
    · exact .inl hb
    · obtain ⟨s, hs⟩ := hS b hb
      exact .inr (I.hs.exc k b s hs).1
  · refine ⟨fun i y hy => ?_, fun i hi => ?_, fun i a s hi => ?_, fun i j a s s' hi hj => ?_, fun a ha => ?_⟩
    · rw [getB_delB] at hy
      by_cases e : i = k
      · rw [if_pos e] at hy; cases hy
      · rw [if_neg e] at hy
        obtain ⟨h1, h2⟩ := I.hs.blk i y hy
        exact ⟨h1, h2.ext x (killC_ne e) (fun _ _ _ => rfl)⟩
    · rw [getB_delB] at hi
      by_cases e : i = k
      · subst e; exact killC_eq
      · rw [if_neg e] at hi; exact (killC_ne e).trans (I.hs.dom i hi)
    · obtain ⟨e, hi'⟩ := killC_at hi
      obtain ⟨h1, h2, h3⟩ := I.hs.exc i a s hi'
      refine ⟨h1, fun hok => ?_, h3⟩
      rcases hok with hok | hok
      · exact h2 hok
      · obtain ⟨s', hs'⟩ := hS a hok
        exact e (I.hs.inj i k a s s' hi' hs')
    · exact I.hs.inj i j a s s' (killC_at hi).2 (killC_at hj).2
    · rcases ha with ha | ha
      · exact I.hs.lt a ha
      · obtain ⟨s, hs⟩ := hS a ha
        exact (I.hs.exc k a s hs).2.2

/-- A store into a block of the call's own. -/
theorem Inv.write {z : Ctx0} {c : Cx} {h : H} (I : Inv z c h) {k a s : Nat} (hk : c.φ k = .at a s) {w' : World} (ws : WStep c.w w' (fun b => b = a)) (hsz : w'.heap.size = c.w.heap.size)
    (x : Blk) (hx : HBlk { c with w := w' } k x) (hkn : k < c.n) : Inv z { c with w := w' } ⟨setB h.b k x, h.n⟩ ∧ Ext c { c with w := w' } := by
  obtain ⟨e1, e2, e3⟩ := I.hs.exc k a s hk
  have ext : Ext c { c with w := w' } := ⟨Nat.le_refl _, fun _ _ => .inl rfl, fun _ h => h, fun b hb => ws.blk b (I.hs.lt b hb) (fun e => by subst e; exact e2 hb), fun i b t _ hb => ws.sz b (I.hs.exc i b t hb).2.2⟩
  refine ⟨I.go ext ws (fun b hb => by subst hb; exact e1) (fun _ h => .inl h) I.n ?_, ext⟩
  refine ⟨fun i y hy => ?_, fun i hi => ?_, fun i b t hi => ?_, I.hs.inj, fun b hb => ?_⟩
  · rw [getB_setB] at hy
    by_cases e : i = k
    · rw [if_pos e] at hy; injection hy with hy; subst hy; subst e; exact ⟨hkn, hx⟩
    · rw [if_neg e] at hy
      obtain ⟨h1, h2⟩ := I.hs.blk i y hy
      exact ⟨h1, h2.ext ext rfl (fun b t hb => ws.blk b (I.hs.exc i b t hb).2.2 (fun eb => by subst eb; exact e (I.hs.inj i k b t s hb hk)))⟩
  · rw [getB_setB] at hi
    by_cases e : i = k
    · rw [if_pos e] at hi; cases hi
    · rw [if_neg e] at hi; exact I.hs.dom i hi
  · obtain ⟨h1, h2, h3⟩ := I.hs.exc i b t hi
    exact ⟨h1, h2, by show b < w'.heap.size; rw [hsz]; exact h3⟩
  · show b < w'.heap.size; rw [hsz]; exact I.hs.lt b hb

/-- The block of 'k' goes on under a new name, from another place on. -/
def homeC (c : Cx) (k a s : Nat) : Cx := { c with φ := fun i => if i = c.n then .at a s else if i = k then .dead else c.φ i, n := c.n + 1 }
theorem home_ext {c : Cx} {k a s : Nat} : Ext c (homeC c k a s) where
  n := Nat.le_succ _
  φ := fun i hi => by
    show (if i = c.n then _ else if i = k then _ else _) = _ ∨ (if i = c.n then _ else if i = k then _ else _) = _
    rw [if_neg (by omega)]
    by_cases h : i = k
    · exact .inr (if_pos h)
    · exact .inl (if_neg h)
  ok := fun _ h => h
  blk := fun _ _ => rfl
  sz := fun _ _ _ _ _ => rfl
theorem homeC_ne {c : Cx} {k a s i : Nat} (h1 : i ≠ c.n) (h2 : i ≠ k) : (homeC c k a s).φ i = c.φ i := by
  show (if i = c.n then _ else if i = k then _ else _) = _
  rw [if_neg h1, if_neg h2]
theorem homeC_new {c : Cx} {k a s : Nat} : (homeC c k a s).φ c.n = .at a s := if_pos rfl
theorem homeC_old {c : Cx} {k a s : Nat} (h : k ≠ c.n) : (homeC c k a s).φ k = .dead := by
  show (if k = c.n then _ else if k = k then _ else _) = _
  rw [if_neg h, if_pos rfl]
theorem Inv.home {z : Ctx0} {c : Cx} {h : H} (I : Inv z c h) {k a s s' : Nat} (hk : c.φ k = .at a s) (hkn : k < c.n) (x : Blk) (hx : HBlk (homeC c k a s') c.n x) :
    Inv z (homeC c k a s') ⟨setB (delB h.b k) c.n x, h.n + 1⟩ := by
  have ext : Ext c (homeC c k a s') := home_ext
  refine I.go ext (S := fun _ => False) ⟨rfl, rfl, rfl, Nat.le_refl _, fun _ _ _ => rfl, fun _ _ => rfl⟩ (fun _ h => h.elim) (fun _ h => .inl h) (by show c.n + 1 = h.n + 1; rw [I.n]) ?_
  have at_ : ∀ i b t, (homeC c k a s').φ i = .at b t → (i = c.n ∧ b = a) ∨ (i ≠ c.n ∧ i ≠ k ∧ c.φ i = .at b t) := by
    intro i b t hi
    by_cases e : i = c.n
    · subst e; rw [homeC_new] at hi; injection hi with hb _; exact .inl ⟨rfl, hb.symm⟩
    · by_cases e2 : i = k
      · subst e2; rw [homeC_old e] at hi; cases hi
      · exact .inr ⟨e, e2, (homeC_ne e e2).symm.trans hi⟩
  refine ⟨fun i y hy => ?_, fun i hi => ?_, fun i b t hi => ?_, fun i j b t t' hi hj => ?_, I.hs.lt⟩
  · rw [getB_setB, getB_delB] at hy
    by_cases e : i = c.n
    · rw [if_pos e] at hy; injection hy with hy; subst hy; subst e; exact ⟨Nat.lt_succ_self _, hx⟩
    · rw [if_neg e] at hy
      by_cases e2 : i = k
      · rw [if_pos e2] at hy; cases hy
      · rw [if_neg e2] at hy
        obtain ⟨h1, h2⟩ := I.hs.blk i y hy
        exact ⟨Nat.lt_succ_of_lt h1, h2.ext ext (homeC_ne e e2) (fun _ _ _ => rfl)⟩
  · rw [getB_setB, getB_delB] at hi
    by_cases e : i = c.n
    · rw [if_pos e] at hi; cases hi
    · rw [if_neg e] at hi
      by_cases e2 : i = k
      · subst e2; exact homeC_old e
      · rw [if_neg e2] at hi; exact (homeC_ne e e2).trans (I.hs.dom i hi)
  · rcases at_ i b t hi with ⟨_, rfl⟩ | ⟨_, _, h3⟩
    · exact I.hs.exc k b s hk
    · exact I.hs.exc i b t h3
  · rcases at_ i b t hi with ⟨e1, e2⟩ | ⟨e1, e2, h3⟩ <;> rcases at_ j b t' hj with ⟨f1, f2⟩ | ⟨f1, f2, g3⟩
    · omega
    · subst e2; exact absurd (I.hs.inj j k b t' s g3 hk) f2
    · subst f2; exact absurd (I.hs.inj i k b t s h3 hk) e2
    · exact I.hs.inj i j b t t' h3 g3
end Go.AM
end

section
/- AM, part 5: each operation that only reads does in the model what it does in the abstract. -/
namespace Go.AM

@[simp] theorem app0 (h : H) : h.app [] 0 = h := by simp [H.app, updB]

/-- What an operation owes. -/
def Res (P : Program) (z : Ctx0) (c : Cx) (h : H) (s : Sem Value) : R → Prop
  | .fail => True
  | .ok p v u nw => p → ∃ uu c', s.run P c.w = .ok uu c'.w ∧ Inv z c' (h.app u nw) ∧ Ext c c' ∧ Rep c' v uu
theorem Res.same {P : Program} {z : Ctx0} {c : Cx} {h : H} (I : Inv z c h) {s : Sem Value} {p : Prop} {v : V} (hr : p → ∃ uu, s.run P c.w = .ok uu c.w ∧ Rep c v uu) :
    Res P z c h s (.ok p v [] 0) := by
  intro hp
  obtain ⟨uu, h1, h2⟩ := hr hp
  exact ⟨uu, c, h1, by simpa using I, Ext.refl c, h2⟩

/-! ### segments -/
theorem Segs.append {c : Cx} : ∀ (a b : List V) (ca cb : List Value), Segs c a ca → Segs c b cb → Segs c (a ++ b) (ca ++ cb)
  | [], b, ca, cb, ha, hb => by cases ha; exact hb
  | v :: r, b, ca, cb, ha, hb => by
    cases v
    case arr k n l => obtain ⟨q, h1, h2, h3⟩ := ha; subst h2; exact ⟨q ++ cb, h1, by simp, Segs.append r b q cb h3 hb⟩
    case byt n l => obtain ⟨q, h1, h2, h3⟩ := ha; subst h2; exact ⟨q ++ cb, h1, by simp, Segs.append r b q cb h3 hb⟩
    all_goals (obtain ⟨u, q, h1, h2, h3, h4⟩ := ha; subst h1; exact ⟨u, q ++ cb, by simp, h2, h3, Segs.append r b q cb h4 hb⟩)

theorem splitC_spec {c : Cx} : ∀ (e : List V) (k : Nat) (a r : List V) (cs : List Value), splitC e k = some (a, r) → Segs c e cs →
    ∃ ca cr, cs = ca ++ cr ∧ ca.length = k ∧ Segs c a ca ∧ Segs c r cr ∧ e = a ++ r
  | [], k, a, r, cs, h, hs => by
    simp only [splitC] at h
    split at h
    · rename_i hk
      simp only [Option.some.injEq, Prod.mk.injEq] at h
      obtain ⟨rfl, rfl⟩ := h
      cases hs
      exact ⟨[], [], rfl, hk.symm, rfl, rfl, rfl⟩
    · cases h
  | v :: q, k, a, r, cs, h, hs => by
    simp only [splitC] at h
    by_cases hk : k = 0
    · rw [if_pos hk] at h
      simp only [Option.some.injEq, Prod.mk.injEq] at h
      obtain ⟨rfl, rfl⟩ := h
      exact ⟨[], cs, rfl, hk.symm, rfl, hs, rfl⟩
    · rw [if_neg hk] at h
      by_cases hv : nseg v ≤ k
      · rw [if_pos hv] at h
        cases hq : splitC q (k - nseg v) with
        | none => rw [hq] at h; cases h
        | some ab =>
          obtain ⟨a', b'⟩ := ab
          rw [hq] at h
          simp only [Option.some.injEq, Prod.mk.injEq] at h
          obtain ⟨rfl, rfl⟩ := h
          cases v
          case arr kk n l =>
            obtain ⟨b, h1, h2, h3⟩ := hs
            obtain ⟨ca, cr, e1, e2, e3, e4, e5⟩ := splitC_spec q _ a' b' b hq h3
            refine ⟨intCells kk l ++ ca, cr, by rw [h2, e1]; simp, ?_, ⟨ca, h1, rfl, e3⟩, e4, by rw [e5]; rfl⟩
            simp only [nseg] at hv e2
            simp [intCells, h1, e2]; omega
          case byt n l =>
            obtain ⟨b, h1, h2, h3⟩ := hs
            obtain ⟨ca, cr, e1, e2, e3, e4, e5⟩ := splitC_spec q _ a' b' b hq h3
            refine ⟨byteCells l ++ ca, cr, by rw [h2, e1]; simp, ?_, ⟨ca, h1, rfl, e3⟩, e4, by rw [e5]; rfl⟩
            simp only [nseg] at hv e2
            simp [byteCells, h1, e2]; omega
          all_goals
            (obtain ⟨u, b, h1, h2, h3, h4⟩ := hs
             obtain ⟨ca, cr, e1, e2, e3, e4, e5⟩ := splitC_spec q _ a' b' b hq h4
             refine ⟨u :: ca, cr, by rw [h1, e1]; rfl, ?_, ⟨u, ca, rfl, h2, h3, e3⟩, e4, by rw [e5]; rfl⟩
             simp only [nseg] at hv e2
             simp [e2]; omega)
      · rw [if_neg hv] at h; cases h

theorem intCells_get (k : IntKind) (l : List Int) (i : Nat) (h : i < l.length) : (intCells k l)[i]? = some (.int k (l.getD i 0)) := by
  simp [intCells, List.getElem?_eq_getElem h, List.getD]
theorem byteCells_get (l : List UInt8) (i : Nat) (h : i < l.length) : (byteCells l)[i]? = some (.int .u8 ((l.getD i 0).toNat : Int)) := by
  simp [byteCells, List.getElem?_eq_getElem h, List.getD]
theorem strCells_get (l : List (List UInt8)) (i : Nat) (h : i < l.length) : (strCells l)[i]? = some (.string (bs (l.getD i []))) := by
  simp [strCells, List.getElem?_eq_getElem h, List.getD]

/-- The first segment of what is left, read at an index. -/
theorem readSeg_spec {c : Cx} {s : V} {r : List V} {cs : List Value} {i : Nat} {p : Prop} {v : V} (h : readSeg s i = some (p, v)) (hp : p) (hs : Segs c (s :: r) cs) :
    ∃ u, cs[i]? = some u ∧ Rep c v u := by
  cases s
  case arr k n l =>
    simp only [readSeg, Option.some.injEq, Prod.mk.injEq] at h
    obtain ⟨rfl, rfl⟩ := h
    obtain ⟨b, h1, h2, h3⟩ := hs
    have hi : i < l.length := by omega
    exact ⟨_, by rw [h2, List.getElem?_append_left (by simp [intCells]; omega)]; exact intCells_get k l i hi, rfl⟩
  case byt n l =>
    simp only [readSeg, Option.some.injEq, Prod.mk.injEq] at h
    obtain ⟨rfl, rfl⟩ := h
    obtain ⟨b, h1, h2, h3⟩ := hs
    have hi : i < l.length := by omega
    exact ⟨_, by rw [h2, List.getElem?_append_left (by simp [byteCells]; omega)]; exact byteCells_get l i hi, rfl⟩
  all_goals
    (cases i with
     | succ i => simp [readSeg] at h
     | zero =>
       simp only [readSeg, Option.some.injEq, Prod.mk.injEq] at h
       obtain ⟨rfl, rfl⟩ := h
       obtain ⟨u, b, h1, h2, h3, h4⟩ := hs
       exact ⟨u, by rw [h1]; rfl, h3⟩)

theorem aggP_run {P : Program} {t : TypeId} {w : World} {d : TypeDesc} (h : P.underlying t = some d) : (isAgg t).run P w = .ok (aggP P t) w := by
  simp only [isAgg, Sem.run_bind, run_underlying h, Result.andThen_ok, aggP, h]
  cases d <;> rfl
theorem run_sizeOf' {P : Program} {t : TypeId} {i : TypeInfo} (h : P.info? t = some i) (w : World) : (sizeOf t).run P w = .ok (szP P t) w := by
  simp [sizeOf, typeInfo, szP, h]

/-- A variable's value, read out of memory. -/
theorem load_spec {P : Program} {c : Cx} {t : TypeId} {e : List V} {off idx : Nat} {p : Prop} {v : V} {ad : Addr} {cs : List Value} {c0 : Cx}
    (ht : ∃ d, P.underlying t = some d) (hi : ∃ i, P.info? t = some i)
    (h : loadE (aggP P t) (szP P t) e off idx = some (p, v)) (hp : p) (hs : Segs c0 e cs) (hm : ∀ j u, cs[j]? = some u → c.w.cell? (ad.add j) = some u) (hc : ∀ v u, Rep c0 v u → Rep c v u)
    (hcs : ∀ l us, Segs c0 l us → Segs c l us) : ∃ uu, (loadVar t (ad.add (off + idx))).run P c.w = .ok uu c.w ∧ Rep c v uu := by
  obtain ⟨d, hd⟩ := ht
  obtain ⟨i, hi⟩ := hi
  unfold loadE at h
  cases hsp : splitC e off with
  | none => rw [hsp] at h; cases h
  | some ar =>
    obtain ⟨a, r⟩ := ar
    rw [hsp] at h
    obtain ⟨ca, cr, e1, e2, e3, e4, _⟩ := splitC_spec e off a r cs hsp hs
    simp only at h
    cases hag : aggP P t with
    | true =>
      rw [hag] at h
      simp only at h
      cases hs2 : splitC r (szP P t) with
      | none => rw [hs2] at h; cases h
      | some cb =>
        obtain ⟨e', b⟩ := cb
        rw [hs2] at h
        simp only [Option.some.injEq, Prod.mk.injEq] at h
        obtain ⟨rfl, rfl⟩ := h
        obtain ⟨x, y, f1, f2, f3, f4, _⟩ := splitC_spec r _ e' b cr hs2 e4
        subst hp
        refine ⟨.agg x.toArray, ?_, x, rfl, hcs _ _ f3⟩
        have hl := run_loadCells_list (P := P) c.w (ad.add (off + 0)) x (fun j u hj => by
          rw [Nat.add_zero, add_add]
          refine hm _ _ ?_
          have hj' : j < x.length := (List.getElem?_eq_some_iff.1 hj).1
          rw [e1, List.getElem?_append_right (by omega), f1, List.getElem?_append_left (by omega), ← hj]
          congr 1; omega)
        rw [f2] at hl
        simp only [loadVar, Sem.run_bind, aggP_run hd, hag, Result.andThen_ok, if_true, run_sizeOf' hi, hl, Sem.run_pure]
    | false =>
      rw [hag] at h
      simp only at h
      cases r with
      | nil => cases h
      | cons s r =>
        simp only at h
        obtain ⟨u, g1, g2⟩ := readSeg_spec h hp e4
        refine ⟨u, ?_, hc _ _ g2⟩
        have hcell : c.w.cell? (ad.add (off + idx)) = some u := by
          refine hm _ _ ?_
          rw [e1, List.getElem?_append_right (by omega), ← g1]
          congr 1; omega
        simp [loadVar, aggP_run hd, hag, hcell]

theorem dpRep {c : Cx} : ∀ v u, Rep (dp c) v u → Rep c v u := fun v u h => Rep.ext (c := dp c) (c' := c) ⟨Nat.zero_le _, fun _ hi => absurd hi (Nat.not_lt_zero _), fun _ h => h, fun _ _ => rfl, fun _ _ _ hi => absurd hi (Nat.not_lt_zero _)⟩ v u h
theorem dpSegs {c : Cx} : ∀ l us, Segs (dp c) l us → Segs c l us := fun v u h => Segs.ext (c := dp c) (c' := c) ⟨Nat.zero_le _, fun _ hi => absurd hi (Nat.not_lt_zero _), fun _ h => h, fun _ _ => rfl, fun _ _ _ hi => absurd hi (Nat.not_lt_zero _)⟩ v u h

theorem getB_at {z : Ctx0} {c : Cx} {h : H} (I : Inv z c h) {i : Nat} {x : Blk} (hg : h.get i = some x) : i < c.n ∧ HBlk c i x := I.hs.blk i x hg

theorem addr_add (b s j : Nat) : (⟨b, s, none⟩ : Addr).add j = ⟨b, s + j, none⟩ := by
  unfold Addr.add; split
  · rename_i h; simp [h]
  · rfl
theorem cell_row {w : World} {b : Nat} {cur : Array Value} {t : TypeId} {fr : Nat × Nat} (h : w.heap[b]? = some (.cells cur t fr)) (j : Nat) : w.cell? ⟨b, j, none⟩ = cur[j]? := by
  simp [World.cell?, h]

theorem Elems.get {c : Cx} {sz : Nat} : ∀ (l : List (List V)) (cs : List Value), Elems c sz l cs → ∀ i, i < l.length →
    ∃ a, Segs c (l.getD i []) a ∧ a.length = sz ∧ ∀ j u, a[j]? = some u → cs[i * sz + j]? = some u
  | [], _, _, i, hi => by simp at hi
  | e :: r, cs, h, i, hi => by
    obtain ⟨a, b, rfl, h2, h3, h4⟩ := h
    cases i with
    | zero => exact ⟨a, by simpa using h3, h2, fun j u hj => by
        have : j < a.length := (List.getElem?_eq_some_iff.1 hj).1
        rw [Nat.zero_mul, Nat.zero_add, List.getElem?_append_left this]; exact hj⟩
    | succ i =>
      obtain ⟨a', g1, g2, g3⟩ := Elems.get r b h4 i (by simpa using hi)
      refine ⟨a', by simpa using g1, g2, fun j u hj => ?_⟩
      have := g3 j u hj
      rw [List.getElem?_append_right (by rw [h2, Nat.succ_mul]; omega), ← this]
      congr 1
      rw [h2, Nat.succ_mul]; omega

theorem load_row {P : Program} {c : Cx} {t : TypeId} {r : Rw} {sz k off idx : Nat} {p : Prop} {v : V} {cs : List Value} {ad : Addr} (ht : ∃ d, P.underlying t = some d) (hi : ∃ i, P.info? t = some i)
    (h : elemR r (aggP P t) (szP P t) k off idx = some (p, v)) (hp : p) (hr : RwCells c sz r cs) (hm : ∀ j u, cs[j]? = some u → c.w.cell? (ad.add j) = some u) :
    ∃ uu, (loadVar t (ad.add (k * sz + off + idx))).run P c.w = .ok uu c.w ∧ Rep c v uu := by
  have ht' := ht
  obtain ⟨d, hd⟩ := ht
  cases r with
  | bytes l =>
    cases hag : aggP P t with
    | true => rw [hag] at h; simp [elemR] at h
    | false =>
    rw [hag] at h
    simp only [elemR, Option.some.injEq, Prod.mk.injEq] at h
    obtain ⟨rfl, rfl⟩ := h
    obtain ⟨h1, rfl, rfl⟩ := hp
    obtain ⟨rfl, rfl⟩ := hr
    exact ⟨_, by simp [loadVar, aggP_run hd, hag, hm _ _ (byteCells_get l k h1)], rfl⟩
  | ints ik l =>
    cases hag : aggP P t with
    | true => rw [hag] at h; simp [elemR] at h
    | false =>
    rw [hag] at h
    simp only [elemR, Option.some.injEq, Prod.mk.injEq] at h
    obtain ⟨rfl, rfl⟩ := h
    obtain ⟨h1, rfl, rfl⟩ := hp
    obtain ⟨rfl, rfl⟩ := hr
    exact ⟨_, by simp [loadVar, aggP_run hd, hag, hm _ _ (intCells_get ik l k h1)], rfl⟩
  | strs l =>
    cases hag : aggP P t with
    | true => rw [hag] at h; simp [elemR] at h
    | false =>
    rw [hag] at h
    simp only [elemR, Option.some.injEq, Prod.mk.injEq] at h
    obtain ⟨rfl, rfl⟩ := h
    obtain ⟨h1, rfl, rfl⟩ := hp
    obtain ⟨rfl, rfl⟩ := hr
    exact ⟨_, by simp [loadVar, aggP_run hd, hag, hm _ _ (strCells_get l k h1)], rfl⟩
  | els l =>
    simp only [elemR] at h
    cases he : loadE (aggP P t) (szP P t) (l.getD k []) off idx with
    | none => rw [he] at h; cases h
    | some pv =>
      obtain ⟨p', v'⟩ := pv
      rw [he] at h
      simp only [Option.some.injEq, Prod.mk.injEq] at h
      obtain ⟨rfl, rfl⟩ := h
      obtain ⟨a, g1, g2, g3⟩ := Elems.get l cs hr k hp.1
      have := load_spec (c := c) (ad := ad.add (k * sz)) ht' hi he hp.2 g1 (fun j u hj => by rw [add_add]; exact hm _ _ (g3 j u hj)) dpRep dpSegs
      rw [add_add] at this
      rwa [Nat.add_assoc]

/-- The same for what only reads. -/
def ResS (P : Program) (z : Ctx0) (c : Cx) (h : H) (s : Sem Value) : R → Prop
  | .fail => True
  | .ok p v u nw => p → u = [] ∧ nw = 0 ∧ ∃ uu, s.run P c.w = .ok uu c.w ∧ Rep c v uu
theorem ResS.same {P : Program} {z : Ctx0} {c : Cx} {h : H} {s : Sem Value} {p : Prop} {v : V} (hr : p → ∃ uu, s.run P c.w = .ok uu c.w ∧ Rep c v uu) :
    ResS P z c h s (.ok p v [] 0) := fun hp => ⟨rfl, rfl, hr hp⟩
theorem ResS.res {P : Program} {z : Ctx0} {c : Cx} {h : H} (I : Inv z c h) {s : Sem Value} {r : R} (hr : ResS P z c h s r) : Res P z c h s r := by
  cases r with
  | fail => trivial
  | ok p v u nw =>
    intro hp
    obtain ⟨rfl, rfl, uu, h1, h2⟩ := hr hp
    exact ⟨uu, c, h1, by simpa using I, Ext.refl c, h2⟩

theorem pLoad_resS {P : Program} {z : Ctx0} {c : Cx} {h : H} (I : Inv z c h) {t : TypeId} (ht : ∃ d, P.underlying t = some d) (hi : ∃ i, P.info? t = some i) {v : V} {u : Value} (hv : Rep c v u) :
    ResS P z c h (Instr.loadAt t u) (pLoad (aggP P t) (szP P t) v h.get) := by
  unfold pLoad
  split
  · rename_i i off idx
    cases hg : h.get i with
    | none => trivial
    | some x =>
      cases x with
      | row _ _ => trivial
      | map _ => trivial
      | var e =>
        simp only
        cases he : loadE (aggP P t) (szP P t) e off idx with
        | none => trivial
        | some pv =>
          obtain ⟨p, v'⟩ := pv
          refine ResS.same fun hp => ?_
          obtain ⟨hin, b, s, cur, ty, cs, h1, h2, h3, h4, h5⟩ := getB_at I hg
          obtain ⟨_, hu⟩ := hv
          rw [h1] at hu
          simp only at hu
          subst hu
          obtain ⟨uu, g1, g2⟩ := load_spec (c := c) (ad := ⟨b, s, none⟩) ht hi he hp h3 (fun j u hj => by rw [addr_add, cell_row h2]; exact h5 j u hj) (fun _ _ h => h) (fun _ _ h => h)
          refine ⟨uu, ?_, g2⟩
          rw [addr_add, ← Nat.add_assoc] at g1
          simpa [Instr.loadAt, Instr.sureAddr] using g1
  · rename_i e off idx
    cases he : loadE (aggP P t) (szP P t) e off idx with
    | none => trivial
    | some pv =>
      obtain ⟨p, v'⟩ := pv
      refine ResS.same fun hp => ?_
      obtain ⟨cs, ad, h1, rfl, h3, h4⟩ := hv
      obtain ⟨uu, g1, g2⟩ := load_spec (c := c) (ad := ad) ht hi he hp h1 h4 dpRep dpSegs
      exact ⟨uu, by simpa [Instr.loadAt, Instr.sureAddr] using g1, g2⟩
  · rename_i i s k off idx
    cases hg : h.get i with
    | none => trivial
    | some x =>
      cases x with
      | var _ => trivial
      | map _ => trivial
      | row sz r =>
        simp only
        by_cases hss : sz = s
        · rw [if_pos hss]
          subst hss
          cases he : elemR r (aggP P t) (szP P t) k off idx with
          | none => trivial
          | some pv =>
            obtain ⟨p, v'⟩ := pv
            refine ResS.same fun hp => ?_
            obtain ⟨hin, hb⟩ := getB_at I hg
            have hk : k < r.len := by
              cases r <;> cases hag : aggP P t <;> rw [hag] at he <;> simp only [elemR] at he
              all_goals first
                | (simp only [Option.some.injEq, Prod.mk.injEq] at he; obtain ⟨rfl, _⟩ := he; exact hp.1)
                | cases he
                | (split at he <;> first | (simp only [Option.some.injEq, Prod.mk.injEq] at he; obtain ⟨rfl, _⟩ := he; exact hp.1) | cases he)
            rcases hb with ⟨_, hl, _⟩ | ⟨b, s, cur, ty, fr, cs, h1, h2, h3, h4, h5, h6⟩
            · omega
            · obtain ⟨_, hu⟩ := hv
              rw [h1] at hu
              simp only at hu
              subst hu
              obtain ⟨uu, g1, g2⟩ := load_row (c := c) (ad := ⟨b, s, none⟩) ht hi he hp h4 (fun j u hj => by rw [addr_add, cell_row h2]; exact h6 j u hj)
              refine ⟨uu, ?_, g2⟩
              rw [addr_add, ← Nat.add_assoc, ← Nat.add_assoc] at g1
              simpa [Instr.loadAt, Instr.sureAddr] using g1
        · rw [if_neg hss]; trivial
  · trivial
theorem pLoad_res {P : Program} {z : Ctx0} {c : Cx} {h : H} (I : Inv z c h) {t : TypeId} (ht : ∃ d, P.underlying t = some d) (hi : ∃ i, P.info? t = some i) {v : V} {u : Value} (hv : Rep c v u) :
    Res P z c h (Instr.loadAt t u) (pLoad (aggP P t) (szP P t) v h.get) := (pLoad_resS I ht hi hv).res I
end Go.AM
end

section
/- AM, part 6: the operations that only compute. -/
namespace Go.AM
section
variable {P : Program} {z : Ctx0} {c : Cx} {h : H}

theorem szP_some {P : Program} {t : TypeId} (h : szP P t ≠ 0) : ∃ i, P.info? t = some i := by
  unfold szP at h
  cases hi : P.info? t with
  | none => rw [hi] at h; exact absurd rfl h
  | some i => exact ⟨i, rfl⟩

theorem alive (I : Inv z c h) {i : Nat} {x : Blk} (hg : h.get i = some x) : c.φ i ≠ .dead := by
  obtain ⟨_, hb⟩ := getB_at I hg
  intro hd
  cases x with
  | var e => obtain ⟨b, s, cur, t, cs, h1, _⟩ := hb; rw [hd] at h1; cases h1
  | row sz r => rcases hb with ⟨h1, _⟩ | ⟨b, s, cur, t, fr, cs, h1, _⟩ <;> (rw [hd] at h1; cases h1)
  | map es => obtain ⟨b, s, en, cl, h1, _⟩ := hb; rw [hd] at h1; cases h1
theorem Res.al {s : Sem Value} {i : Nat} {r : R} (hr : ∀ x, h.get i = some x → Res P z c h s r) : Res P z c h s (al h.get i r) := by
  unfold AM.al
  cases hg : h.get i with
  | none => trivial
  | some x => exact hr x hg

theorem ref_at (I : Inv z c h) {i : Nat} {x : Blk} (hg : h.get i = some x) {off idx : Nat} {u : Value} (hv : Rep c (.ref i off idx) u) :
    ∃ b s, c.φ i = .at b s ∧ u = .pointer (some ⟨b, s + off + idx, none⟩) := by
  obtain ⟨_, hu⟩ := hv
  cases hφ : c.φ i with
  | dead => exact absurd hφ (alive I hg)
  | nil => rw [hφ] at hu; exact hu.elim
  | «at» b s => rw [hφ] at hu; exact ⟨b, s, rfl, hu⟩
theorem eref_at (I : Inv z c h) {i : Nat} {x : Blk} (hg : h.get i = some x) {sz e off idx : Nat} {u : Value} (hv : Rep c (.eref i sz e off idx) u) :
    ∃ b s, c.φ i = .at b s ∧ u = .pointer (some ⟨b, s + e * sz + off + idx, none⟩) := by
  obtain ⟨_, hu⟩ := hv
  cases hφ : c.φ i with
  | dead => exact absurd hφ (alive I hg)
  | nil => rw [hφ] at hu; exact hu.elim
  | «at» b s => rw [hφ] at hu; exact ⟨b, s, rfl, hu⟩
theorem mk_ref (i : Nat) {off idx b s : Nat} (hi : i < c.n) (hφ : c.φ i = .at b s) : Rep c (.ref i off idx) (.pointer (some ⟨b, s + off + idx, none⟩)) := ⟨hi, by rw [hφ]⟩
theorem mk_eref (i : Nat) {sz e off idx b s : Nat} (hi : i < c.n) (hφ : c.φ i = .at b s) : Rep c (.eref i sz e off idx) (.pointer (some ⟨b, s + e * sz + off + idx, none⟩)) := ⟨hi, by rw [hφ]⟩

theorem pFieldAddr_res (I : Inv z c h) {s : TypeId} {fs : Array Field} {f : Nat} {d : Field} (hs : P.underlying s = some (.struct fs)) (hf : fs[f]? = some d) (hz : szP P d.type ≠ 0) {v : V} {u : Value} (hv : Rep c v u) :
    Res P z c h (Instr.fieldAt s u f) (pFieldAddr d.offset v h.get) := by
  obtain ⟨i, hi⟩ := szP_some hz
  have run : ∀ a : Addr, (Instr.fieldAt s (.pointer (some a)) f).run P c.w = .ok (.pointer (some (a.add d.offset))) c.w := by
    intro a
    simp [Instr.fieldAt, run_underlying hs, hf, Instr.sureAddr, fieldPlace, run_sizeOf' hi, hz]
  unfold pFieldAddr
  split
  · rename_i j o
    refine Res.al fun x hg => Res.same I fun _ => ?_
    obtain ⟨b, s', hφ, rfl⟩ := ref_at I hg hv
    refine ⟨_, run _, ?_⟩
    rw [addr_add]
    have := mk_ref (c := c) j (off := o + d.offset) (idx := 0) hv.1 hφ
    rwa [show s' + (o + d.offset) + 0 = s' + o + 0 + d.offset by omega] at this
  · rename_i j sz k o
    refine Res.al fun x hg => Res.same I fun _ => ?_
    obtain ⟨b, s', hφ, rfl⟩ := eref_at I hg hv
    refine ⟨_, run _, ?_⟩
    rw [addr_add]
    have := mk_eref (c := c) j (sz := sz) (e := k) (off := o + d.offset) (idx := 0) hv.1 hφ
    rwa [show s' + k * sz + (o + d.offset) + 0 = s' + k * sz + o + 0 + d.offset by omega] at this
  · rename_i e o
    refine Res.same I fun _ => ?_
    obtain ⟨cs, ad, h1, rfl, h3, h4⟩ := hv
    exact ⟨_, run _, cs, ad, h1, by rw [add_add]; simp, h3, h4⟩
  · trivial

theorem run_indexArr {t e : TypeId} {n : Nat} (ht : P.underlying t = some (.array n e)) (hz : szP P e = 1) (a : Addr) (ik : IntKind) (k : Int) (h0 : 0 ≤ k) (h1 : k < n) (w : World) :
    (Instr.indexAt t (.pointer (some a)) (.int ik k)).run P w = .ok (.pointer (some (a.add k.toNat))) w := by
  obtain ⟨i, hi⟩ := szP_some (P := P) (t := e) (by omega)
  simp [Instr.indexAt, asIntOf, run_underlying ht, Instr.sureAddr, h0, h1, run_sizeOf' hi, hz]
theorem run_indexSl {t e : TypeId} (ht : P.underlying t = some (.slice e)) (hz : szP P e ≠ 0) (a : Addr) (n cap : Nat) (ik : IntKind) (k : Int) (h0 : 0 ≤ k) (h1 : k < n) (w : World) :
    (Instr.indexAt t (.slice (some a) n cap) (.int ik k)).run P w = .ok (.pointer (some (a.add (k.toNat * szP P e)))) w := by
  obtain ⟨i, hi⟩ := szP_some hz
  simp [Instr.indexAt, asIntOf, run_underlying ht, h0, h1, run_sizeOf' hi]

theorem pIndexArr_res (I : Inv z c h) {t e : TypeId} {n : Nat} (ht : P.underlying t = some (.array n e)) (hz : szP P e = 1) {v x : V} {u ux : Value} (hv : Rep c v u) (hx : Rep c x ux) :
    Res P z c h (Instr.indexAt t u ux) (pIndexArr n v x h.get) := by
  unfold pIndexArr
  split
  · rename_i j o ik k
    refine Res.al fun y hg => Res.same I fun hp => ?_
    obtain ⟨b, s', hφ, rfl⟩ := ref_at I hg hv
    cases hx
    refine ⟨_, run_indexArr ht hz _ ik k hp.1 hp.2 _, ?_⟩
    rw [addr_add]
    have := mk_ref (c := c) j (off := o) (idx := k.toNat) hv.1 hφ
    rwa [show s' + o + k.toNat = s' + o + 0 + k.toNat by omega] at this
  · rename_i e' o ik k
    refine Res.same I fun hp => ?_
    obtain ⟨cs, ad, h1, rfl, h3, h4⟩ := hv
    cases hx
    exact ⟨_, run_indexArr ht hz _ ik k hp.1 hp.2 _, cs, ad, h1, by rw [add_add]; simp, h3, h4⟩
  · rename_i j sz m o ik k
    refine Res.al fun y hg => Res.same I fun hp => ?_
    obtain ⟨b, s', hφ, rfl⟩ := eref_at I hg hv
    cases hx
    refine ⟨_, run_indexArr ht hz _ ik k hp.1 hp.2 _, ?_⟩
    rw [addr_add]
    have := mk_eref (c := c) j (sz := sz) (e := m) (off := o) (idx := k.toNat) hv.1 hφ
    rwa [show s' + m * sz + o + k.toNat = s' + m * sz + o + 0 + k.toNat by omega] at this
  · trivial

theorem toNat_lt {k : Int} {n : Nat} (h0 : 0 ≤ k) (h1 : k < n) : k.toNat < n := by omega

/-- An element of a persistent slice. -/
theorem sl_at {zz : Option Bool} {n : Nat} {cs : List Value} {u : Value} (hs : Sl c zz n cs u) {j : Nat} {x : Value} (hj : cs[j]? = some x) :
    ∃ ad cap, u = .slice (some ad) n cap ∧ c.ok ad.block ∧ ∀ j x, cs[j]? = some x → c.w.cell? (ad.add j) = some x := by
  obtain ⟨a, cap, h1, _, _, h4⟩ := hs
  obtain ⟨ad, rfl, h5, h6⟩ := h4 (by rintro rfl; simp at hj)
  exact ⟨ad, cap, h1, h5, h6⟩

theorem pIndexSl_res (I : Inv z c h) {t e : TypeId} (ht : P.underlying t = some (.slice e)) {v x : V} {u ux : Value} (hv : Rep c v u) (hx : Rep c x ux) (hz : szP P e ≠ 0) :
    Res P z c h (Instr.indexAt t u ux) (pIndexSl (szP P e) v x h.get) := by
  unfold pIndexSl
  split
  · rename_i zz l ik k
    split
    · rename_i hz1
      refine Res.same I fun hp => ?_
      cases hx
      have hk := toNat_lt hp.1 hp.2
      have hc := byteCells_get l k.toNat hk
      obtain ⟨ad, cap, rfl, h2, h3⟩ := sl_at hv hc
      refine ⟨_, run_indexSl ht hz ad _ cap ik k hp.1 hp.2 _, [.int .u8 ((l.getD k.toNat 0).toNat : Int)], ad.add (k.toNat * szP P e), ⟨_, [], rfl, rfl, rfl, rfl⟩, by rw [add_add]; simp, by rw [add_block]; exact h2, fun j q hj => ?_⟩
      cases j with
      | zero =>
        simp only [List.getElem?_cons_zero, Option.some.injEq] at hj; subst hj
        rw [add_add, hz1, Nat.mul_one, Nat.add_zero]; exact h3 _ _ hc
      | succ j => simp at hj
    · trivial
  · rename_i zz ik' l ik k
    split
    · rename_i hz1
      refine Res.same I fun hp => ?_
      cases hx
      have hk := toNat_lt hp.1 hp.2
      have hc := intCells_get ik' l k.toNat hk
      obtain ⟨ad, cap, rfl, h2, h3⟩ := sl_at hv hc
      refine ⟨_, run_indexSl ht hz ad _ cap ik k hp.1 hp.2 _, [.int ik' (l.getD k.toNat 0)], ad.add (k.toNat * szP P e), ⟨_, [], rfl, rfl, rfl, rfl⟩, by rw [add_add]; simp, by rw [add_block]; exact h2, fun j q hj => ?_⟩
      cases j with
      | zero =>
        simp only [List.getElem?_cons_zero, Option.some.injEq] at hj; subst hj
        rw [add_add, hz1, Nat.mul_one, Nat.add_zero]; exact h3 _ _ hc
      | succ j => simp at hj
    · trivial
  · rename_i zz l ik k
    split
    · rename_i hz1
      refine Res.same I fun hp => ?_
      cases hx
      have hk := toNat_lt hp.1 hp.2
      have hc := strCells_get l k.toNat hk
      obtain ⟨ad, cap, rfl, h2, h3⟩ := sl_at hv hc
      refine ⟨_, run_indexSl ht hz ad _ cap ik k hp.1 hp.2 _, [.string (bs (l.getD k.toNat []))], ad.add (k.toNat * szP P e), ⟨_, [], rfl, rfl, rfl, rfl⟩, by rw [add_add]; simp, by rw [add_block]; exact h2, fun j q hj => ?_⟩
      cases j with
      | zero =>
        simp only [List.getElem?_cons_zero, Option.some.injEq] at hj; subst hj
        rw [add_add, hz1, Nat.mul_one, Nat.add_zero]; exact h3 _ _ hc
      | succ j => simp at hj
    · trivial
  · rename_i zz s l ik k
    split
    · rename_i hz1
      refine Res.same I fun hp => ?_
      cases hx
      have hk := toNat_lt hp.1 hp.2
      obtain ⟨cs, he, hs⟩ := hv
      obtain ⟨a, g1, g2, g3⟩ := Elems.get l cs he k.toNat hk
      have hlen := Elems.len l cs he
      have hne : (cs[k.toNat * s]?).isSome := by
        rw [List.getElem?_eq_getElem (by rw [hlen, hz1]; exact Nat.mul_lt_mul_of_pos_right hk (Nat.pos_of_ne_zero hz))]; rfl
      obtain ⟨q, hq⟩ := Option.isSome_iff_exists.1 hne
      obtain ⟨ad, cap, rfl, h2, h3⟩ := sl_at hs hq
      refine ⟨_, run_indexSl ht hz ad _ cap ik k hp.1 hp.2 _, a, ad.add (k.toNat * szP P e), g1, by rw [add_add]; simp, by rw [add_block]; exact h2, fun j q hj => ?_⟩
      rw [add_add, ← hz1]
      exact h3 _ _ (g3 j q hj)
    · trivial
  · rename_i j s lo n ik k
    split
    · rename_i hz1
      refine Res.al fun y hg => Res.same I fun hp => ?_
      cases hx
      obtain ⟨hj, hu⟩ := hv
      unfold ownFit at hu
      cases hφ : c.φ j with
      | dead => exact absurd hφ (alive I hg)
      | nil => rw [hφ] at hu; omega
      | «at» b s' =>
        rw [hφ] at hu
        obtain ⟨a, cap, m, rfl, h2, h3, h4, h5⟩ := hu
        have ha := h3.2 (by omega)
        subst ha
        refine ⟨_, run_indexSl ht hz _ n cap ik k hp.1 hp.2 _, ?_⟩
        rw [addr_add, ← hz1]
        have := mk_eref (c := c) j (sz := s) (e := lo + k.toNat) (off := 0) (idx := 0) hj hφ
        rwa [show s' + (lo + k.toNat) * s + 0 + 0 = s' + lo * s + k.toNat * s by rw [Nat.add_mul]; omega] at this
    · trivial
  · rename_i j off lo n ik k
    split
    · rename_i hz1
      refine Res.al fun y hg => Res.same I fun hp => ?_
      cases hx
      obtain ⟨hj, hu⟩ := hv
      cases hφ : c.φ j with
      | dead => exact absurd hφ (alive I hg)
      | nil => rw [hφ] at hu; exact hu.elim
      | «at» b s' =>
        rw [hφ] at hu
        obtain ⟨a, cap, rfl, h2, h3⟩ := hu
        have ha := h3 (by omega)
        subst ha
        refine ⟨_, run_indexSl ht hz _ n cap ik k hp.1 hp.2 _, ?_⟩
        rw [addr_add, hz1]
        have := mk_ref (c := c) j (off := off) (idx := lo + k.toNat) hj hφ
        rwa [show s' + off + (lo + k.toNat) = s' + off + lo + k.toNat * 1 by omega] at this
    · trivial
  · trivial
end
end Go.AM
end
