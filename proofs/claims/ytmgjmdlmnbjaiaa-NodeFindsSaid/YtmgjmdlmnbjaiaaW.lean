/- strings.ContainsAny at the two bytes 47 and 0, for any string shorter than 4294967281 bytes. -/
import Derived.Shelf.Strings.IndexAnyAll
import Derived.Laws.RangeAny
import Derived.Laws.Runes
import Derived.Shelf.Small.Utf8
import Derived.WalkMore
import Derived.Shelf.RegionOpenPlain
import Derived.Lib.OthersKept

section
set_option linter.unusedSimpArgs false
set_option linter.unusedVariables false
namespace Go.Proofs
open Go.Shelf Go.RowKit Go.Lib
variable {P : Program} {ρ : Ren}

/-- The two bytes that a name may not hold. -/
def twoB : ByteArray := ⟨#[47, 0]⟩

theorem twoB_next (w : World) (i : Nat) (h : i < 2) :
    ∃ c : Int, 0 ≤ c ∧ c < 128 ∧ ∀ ty, (Instr.next (.pointer (some ⟨w.heap.size, 0, none⟩)) true ty).run P (w.iter twoB i) =
      .ok (.tuple #[.bool true, .int .i64 i, .int .i32 c]) (w.iter twoB (i + 1)) := by
  have hi : i < twoB.size := h
  have hb : ∀ i, (h : i < twoB.size) → (twoB[i]'h).toNat < 128 := by
    intro i h
    match i, h with
    | 0, _ => show (47 : UInt8).toNat < 128; decide
    | 1, _ => show (0 : UInt8).toNat < 128; decide
    | (n + 2), h => exact absurd h (by show ¬ n + 2 < 2; omega)
  exact ⟨_, by omega, by have := hb i hi; omega, fun ty => run_next_ascii w twoB i ty hi (hb i hi)⟩

set_option maxHeartbeats 2000000 in
set_option maxRecDepth 1000000 in
theorem idxRune_bad (L : Lays.n152 P ρ) (w : World) :
    Calls P (ρ.f 152) #[.string twoB, .int .i32 65533] w fun e w' => e = .returned (.int .i64 (-1)) ∧ ∃ pos, w' = w.iter twoB pos := by
  have t3 := L.t3; have a3 := L.a3; have z3 := L.z3; have v3 := L.v3
  have t4 := L.t4; have a4 := L.a4; have z4 := L.z4; have v4 := L.v4
  have t5 := L.t5; have a5 := L.a5; have z5 := L.z5; have v5 := L.v5
  have t9 := L.t9; have a9 := L.a9; have z9 := L.z9; have v9 := L.v9
  have t21 := L.t21; have a21 := L.a21; have z21 := L.z21; have v21 := L.v21
  have hz : twoB.size = 2 := rfl
  go_enter L.f152, Body.n152_ntmps ρ
  go_wp2
  go_loopg [5, 6] 2 (fun g _ _ wx => ∃ i : Nat, i + g = 2 ∧ wx = w.iter twoB i)
  case atStart => exact ⟨0, by omega, rfl⟩
  case round =>
    obtain ⟨i, hig, rfl⟩ := hrel
    cases gk with
    | zero =>
      have hnx := fun ty => run_next_end (P := P) w twoB i ty (by omega)
      go_wp2
      go_ret
      exact ⟨rfl, _, rfl⟩
    | succ g =>
      obtain ⟨c, h0, h1, hnx⟩ := twoB_next (P := P) w i (by omega)
      have hne : (c == (65533 : Int)) = false := beq_eq_false_iff_ne.2 (by omega)
      go_wp2
      go_roundg g
      case measure => omega
      case rel => exact ⟨i + 1, by omega, rfl⟩

theorem encode_cases (r : Int) (hv : Lib.validRune r = true) (h : 128 ≤ r) :
    (∃ a b : UInt8, Utf8.encode r = ⟨#[a, b]⟩ ∧ 128 ≤ b.toNat) ∨ (∃ E, Utf8.encode r = E ∧ (E.size = 3 ∨ E.size = 4)) := by
  have hv' : Utf8.valid r = true := by
    simp only [Lib.validRune, Utf8.valid, Bool.or_eq_true, Bool.and_eq_true, decide_eq_true_eq] at hv ⊢
    omega
  have hc : ¬ r.toNat < 128 := by omega
  unfold Utf8.encode
  simp only [hv', if_true, hc, if_false]
  split
  · exact Or.inl ⟨_, _, rfl, by simp; omega⟩
  · split
    · exact Or.inr ⟨_, rfl, Or.inl rfl⟩
    · exact Or.inr ⟨_, rfl, Or.inr rfl⟩

set_option maxHeartbeats 4000000 in
set_option maxRecDepth 1000000 in
theorem idxRune_high (L : Lays.n152 P ρ) (r : Int) (w : World) (h0 : 128 ≤ r) (h1 : r ≠ 65533) :
    Calls P (ρ.f 152) #[.string twoB, .int .i32 r] w fun e w' => e = .returned (.int .i64 (-1)) ∧ Below w.heap.size w w' := by
  have mixed := L.mixed
  have t3 := L.t3; have a3 := L.a3; have z3 := L.z3; have v3 := L.v3
  have t4 := L.t4; have a4 := L.a4; have z4 := L.z4; have v4 := L.v4
  have t5 := L.t5; have a5 := L.a5; have z5 := L.z5; have v5 := L.v5
  have t9 := L.t9; have a9 := L.a9; have z9 := L.z9; have v9 := L.v9
  have t21 := L.t21; have a21 := L.a21; have z21 := L.z21; have v21 := L.v21
  have hz : twoB.size = 2 := rfl
  have e119 : ∀ args w, (callFunc (ρ.f 119) args).run P w = .ok (.enter (ρ.f 119) args) w := enters_of L.f119 (by kernel_rfl) rfl
  have e137 : ∀ args w, (callFunc (ρ.f 137) args).run P w = .ok (.enter (ρ.f 137) args) w := enters_of L.f137 (by kernel_rfl) rfl
  have hlt : ¬ (r < 128) := by omega
  have hne : (r == (65533 : Int)) = false := beq_eq_false_iff_ne.2 h1
  have h00 : (0 : Int) ≤ r := by omega
  cases hv : Lib.validRune r
  · go_enter L.f152, Body.n152_ntmps ρ
    go_wp2_with (go_at_fn (ρ.f 119); refine (Any.utf8_ValidRune { L with } _ _).mono ?_; rintro e w' ⟨rfl, hw⟩; rw [hw, hv])
    go_ret
    exact ⟨rfl, Below.refl _ _⟩
  · rcases encode_cases r hv h0 with ⟨a, b, hE, hb⟩ | ⟨E, hE, hb⟩
    · go_enter L.f152, Body.n152_ntmps ρ
      go_wp2_with (go_at_fn (ρ.f 119); refine (Any.utf8_ValidRune { L with } _ _).mono ?_; rintro e w' ⟨rfl, hw⟩; rw [hw, hv])
      go_step3
      go_wp2
      go_loopg [9] 1 (fun g s9 wx => s9 = .int .i64 1 ∧ wx = w)
      case atStart => subst hw; simp [hE]
      case round =>
        obtain ⟨rfl, rfl⟩ := hrel
        have hx : ∀ h, twoB[1]'h = 0 := fun _ => rfl
        have hy : ∀ h, (⟨#[a, b]⟩ : ByteArray)[1]'h = b := fun _ => rfl
        have hs2 : (⟨#[a, b]⟩ : ByteArray).size = 2 := rfl
        have hnb : ((0 : UInt8) == b) = false := beq_eq_false_iff_ne.2 (fun e => by rw [← e] at hb; exact absurd hb (by decide))
        have hnz : ((0 : Int) == (b.toNat : Int)) = false := beq_eq_false_iff_ne.2 (by omega)
        go_wp2
        go_step3
        go_wp2
        go_region_o
        all_goals go_wp2
        all_goals (go_region_with_o (go_at_fn (ρ.f 137); refine (Any.strings_IndexByte { L with } _ _ _).mono ?_; rintro e w' ⟨rfl, hw⟩; rw [hw]))
        all_goals go_wp2
        all_goals (try simp only [Exit.noGoto, Exit.inBlock, Exit.then])
        all_goals go_ret
        all_goals exact ⟨rfl, Below.drew (Below.drew (Below.refl _ _))⟩
    · go_enter L.f152, Body.n152_ntmps ρ
      go_wp2_with (go_at_fn (ρ.f 119); refine (Any.utf8_ValidRune { L with } _ _).mono ?_; rintro e w' ⟨rfl, hw⟩; rw [hw, hv])
      go_step3
      go_wp2
      go_loopg [9] 1 (fun g s9 wx => s9 = .int .i64 (E.size - 1) ∧ wx = w)
      case atStart => subst hw; rcases hb with h | h <;> simp [hE, h] <;> decide
      case round =>
        obtain ⟨rfl, rfl⟩ := hrel
        have hge : ¬ ((E.size : Int) - 1 < 2) := by omega
        go_wp2
        go_ret
        exact ⟨rfl, Below.refl _ _⟩
end Go.Proofs
end

section
set_option linter.unusedSimpArgs false
set_option linter.unusedVariables false
namespace Go.Proofs
open Go.Shelf Go.RowKit Go.Lib
variable {P : Program} {ρ : Ren}

theorem get_of (s : ByteArray) (j : Nat) (h : j < s.size) : ∃ b, s.data.toList[j]? = some b ∧ (s.get! j) = b := by
  refine ⟨_, Lib.data_getElem? s j h, ?_⟩
  have := get_at s j h
  simpa using this

theorem decode_bytes (s : ByteArray) (i : Nat) (h : i < s.size) (ha : 128 ≤ (s[i]'h).toNat) (j : Nat) (h1 : i ≤ j) (h2 : j < i + (Utf8.decode s i).2) :
    ∃ b, s.data.toList[j]? = some b ∧ 128 ≤ b.toNat := by
  have key : ∀ d, d < (Utf8.decode s i).2 → i + d < s.size ∧ 128 ≤ (s.get! (i + d)).toNat := by
    have h0 : 128 ≤ (s.get! (i + 0)).toNat := by rw [get_at s i h]; exact ha
    have hn : ¬ (s.get! (i + 0)).toNat < 128 := by omega
    intro d hd
    match d, hd with
    | 0, _ => exact ⟨h, h0⟩
    | 1, hd => simp only [Utf8.decode, hn, if_false] at hd; repeat' split at hd <;> (simp_all [Utf8.runeError] <;> try omega)
    | 2, hd => simp only [Utf8.decode, hn, if_false] at hd; repeat' split at hd <;> (simp_all [Utf8.runeError] <;> try omega)
    | 3, hd => simp only [Utf8.decode, hn, if_false] at hd; repeat' split at hd <;> (simp_all [Utf8.runeError] <;> try omega)
    | d + 4, hd => simp only [Utf8.decode, hn, if_false] at hd; repeat' split at hd <;> (simp_all [Utf8.runeError] <;> try omega)
  obtain ⟨k1, k2⟩ := key (j - i) (by omega)
  rw [show i + (j - i) = j by omega] at k1 k2
  obtain ⟨b, hb, hg⟩ := get_of s j k1
  exact ⟨b, hb, hg ▸ k2⟩

theorem twoB_list : twoB.data.toList = [47, 0] := rfl
theorem twoB_no (b : UInt8) (h : 128 ≤ b.toNat) : twoB.data.toList.contains b = false := by
  rw [twoB_list]
  simp only [List.contains_cons, List.contains_nil, Bool.or_false, Bool.or_eq_false_iff, beq_eq_false_iff_ne]
  constructor <;> (intro e; rw [e] at h; exact absurd h (by decide))

theorem NoAny.many {s : List UInt8} {i k : Nat} (h : NoAny s twoB.data.toList i) (hk : ∀ j, i ≤ j → j < k → ∃ b, s[j]? = some b ∧ 128 ≤ b.toNat) : NoAny s twoB.data.toList k := by
  intro j b hj hb
  by_cases hji : j < i
  · exact h j b hji hb
  · obtain ⟨b', hb', h128⟩ := hk j (by omega) hj
    rw [hb] at hb'; cases hb'
    exact twoB_no b h128

theorem idxRune_any (L : Lays.n152 P ρ) (r : Int) (w : World) (h0 : 128 ≤ r) :
    Calls P (ρ.f 152) #[.string twoB, .int .i32 r] w fun e w' => e = .returned (.int .i64 (-1)) ∧ Below w.heap.size w w' := by
  by_cases h : r = 65533
  · subst h
    refine (idxRune_bad L w).mono ?_
    rintro e w' ⟨rfl, pos, rfl⟩
    exact ⟨rfl, (Below.refl _ _).alloc (Nat.le_refl _) _⟩
  · exact idxRune_high L r w h0 h

set_option maxHeartbeats 8000000 in
set_option maxRecDepth 1000000 in
theorem idxAny_short (L : Lays.n153 P ρ) (s : ByteArray) (w : World) (h8 : s.size ≤ 8) :
    Calls P (ρ.f 153) #[.string s, .string twoB] w fun e w' => e = .returned (.int .i64 (Lib.indexAny s.data.toList twoB.data.toList)) ∧ Below w.heap.size w w' := by
  have hz : twoB.size = 2 := rfl
  have hemp : twoB.toList.isEmpty = false := by rw [Lib.toList_data]; rfl
  have h8z : decide ((8 : Int) < (s.size : Int)) = false := decide_eq_false (by omega)
  have t3 := L.t3; have a3 := L.a3; have z3 := L.z3; have v3 := L.v3
  have t4 := L.t4; have a4 := L.a4; have z4 := L.z4; have v4 := L.v4
  have t5 := L.t5; have a5 := L.a5; have z5 := L.z5; have v5 := L.v5
  have t9 := L.t9; have a9 := L.a9; have z9 := L.z9; have v9 := L.v9
  have t21 := L.t21; have a21 := L.a21; have z21 := L.z21; have v21 := L.v21
  have e152 : ∀ args w, (callFunc (ρ.f 152) args).run P w = .ok (.enter (ρ.f 152) args) w := enters_of L.f152 (by kernel_rfl) rfl
  have e226 : ∀ args w, (callFunc (ρ.f 226) args).run P w = .ok (.enter (ρ.f 226) args) w := enters_of L.f226 (by kernel_rfl) rfl
  go_enter L.f153, Body.n153_ntmps ρ
  go_wp2_with (go_at_fn (ρ.f 226); refine (Any.strings_shouldUseASCIISet { L with } _ _).mono ?_; rintro e w' ⟨rfl, hw⟩; rw [hw, h8z])
  go_loopg [9, 10] s.size (fun g _ _ wx => ∃ i : Nat, i + g = s.size ∧ wx.heap[w.heap.size]? = some (.stringIter s i) ∧ Below w.heap.size w wx ∧ Lib.NoAny s.data.toList twoB.data.toList i)
  case atStart => exact ⟨0, by omega, w.iter_heap s 0, (Below.refl _ _).alloc (Nat.le_refl _) _, Lib.NoAny.zero _ _⟩
  case round =>
    obtain ⟨i, hig, hit, hbl, hno⟩ := hrel
    have HN : Aside (Lib.NoAny s.data.toList twoB.data.toList i) := hno
    have HB : Aside (Below w.heap.size w wr) := hbl
    have HI : Aside (wr.heap[w.heap.size]? = some (.stringIter s i)) := hit
    clear hno hbl
    cases gk with
    | zero =>
      obtain rfl : i = s.size := by omega
      have hnx := fun ty => run_next_end_at (P := P) wr _ s s.size ty hit (by omega)
      go_wp2
      go_ret
      exact ⟨by rw [Lib.indexAny_none (by rw [← Lib.size_eq]; exact HN.out)]; rfl, HB.out⟩
    | succ g =>
      have hi : i < s.size := by omega
      obtain ⟨x, hx⟩ : ∃ x : UInt8, s[i]'hi = x := ⟨_, rfl⟩
      have hxl : s.data.toList[i]? = some x := by rw [← hx]; exact Lib.data_getElem? s i hi
      have Hx : Aside (s.data.toList[i]? = some x) := hxl
      clear hxl
      by_cases h128 : x.toNat < 128
      · have hnx := fun ty => run_next_ascii_at (P := P) wr _ s i ty hit hi (by rw [hx]; exact h128)
        rw [hx] at hnx
        clear hx hit
        have hcon := Lib.contains_iff_indexByte twoB.data.toList x
        have hback : ((x.toNat : Int)).toNat.toUInt8 = x := by simp
        cases hin : twoB.data.toList.contains x
        · rw [hin] at hcon
          have hlt : ¬ ((0 : Int) ≤ Lib.indexByte twoB.data.toList x) := of_decide_eq_false hcon.symm
          clear hcon
          go_wp2_with (go_at_fn (ρ.f 152); refine (Any.strings_IndexRune_ascii { L with } _ _ _ (by omega) (by omega)).mono ?_; rintro e w' ⟨rfl, hw⟩; rw [hw, hback])
          go_roundg g
          case measure => omega
          case rel => exact ⟨i + 1, by omega, iterAt_heap _ _ _ _ _ HI.out, below_iterAt HB.out (Nat.le_refl _) _ _, HN.out.succ Hx.out hin⟩
        · rw [hin] at hcon
          have hge : (0 : Int) ≤ Lib.indexByte twoB.data.toList x := of_decide_eq_true hcon.symm
          clear hcon
          go_wp2_with (go_at_fn (ρ.f 152); refine (Any.strings_IndexRune_ascii { L with } _ _ _ (by omega) (by omega)).mono ?_; rintro e w' ⟨rfl, hw⟩; rw [hw, hback])
          go_ret
          exact ⟨by rw [Lib.indexAny_hit HN.out Hx.out hin]; rfl, below_iterAt HB.out (Nat.le_refl _) _ _⟩
      · have hnx := fun ty => run_next_any_at (P := P) wr _ s i ty hit hi
        have hd := decode_high s i hi (by rw [hx]; omega)
        have hdb := decode_bytes s i hi (by rw [hx]; omega)
        generalize hc : (Utf8.decode s i).1 = c at hnx hd
        generalize hwd : (Utf8.decode s i).2 = wd at hnx hd hdb
        have HD : Aside (∀ j, i ≤ j → j < i + wd → ∃ b, s.data.toList[j]? = some b ∧ 128 ≤ b.toNat) := hdb
        have hle : i + wd ≤ s.size := by
          obtain ⟨b, hb, -⟩ := HD.out (i + wd - 1) (by omega) (by omega)
          have := (List.getElem?_eq_some_iff.1 hb).1
          rw [← Lib.size_eq] at this
          omega
        have hw0 : wr.heap.size > w.heap.size := (Array.getElem?_eq_some_iff.1 HI.out).1
        clear hx hit hdb hc hwd
        go_wp2_with (go_at_fn (ρ.f 152); refine (idxRune_any { L with } _ _ (by omega)).mono ?_; rintro e w' ⟨rfl, hw⟩)
        go_roundg (g + 1 - wd)
        case measure => omega
        case rel =>
          rw [iterAt_size] at hw
          refine ⟨i + wd, by omega, ?_, ?_, NoAny.many HN.out HD.out⟩
          · rw [hw.block _ hw0]; exact iterAt_heap _ _ _ _ _ HI.out
          · exact (below_iterAt HB.out (Nat.le_refl _) _ _).trans (hw.mono (by omega))

/-- Does s hold one of the two. -/
theorem indexAny_two : ∀ s : List UInt8, decide (0 ≤ Lib.indexAny s [47, 0]) = (s.contains 47 || s.contains 0)
  | [] => rfl
  | b :: l => by
    have ih := indexAny_two l
    have hge := Lib.indexAny_ge [47, 0] l
    unfold Lib.indexAny
    by_cases h1 : b = 47
    · subst h1; simp
    by_cases h2 : b = 0
    · subst h2; simp
    have h3 : ([47, 0] : List UInt8).contains b = false := by simp [h1, h2]
    rw [h3]
    simp only [List.contains_cons, Bool.false_eq_true, if_false]
    rw [show ((47 : UInt8) == b) = false from beq_eq_false_iff_ne.2 (Ne.symm h1), show ((0 : UInt8) == b) = false from beq_eq_false_iff_ne.2 (Ne.symm h2), Bool.false_or, Bool.false_or, ← ih]
    split
    · rename_i hm
      have := beq_iff_eq.1 hm
      rw [this]
    · rename_i hm
      have : Lib.indexAny l [47, 0] ≠ -1 := fun e => hm (beq_iff_eq.2 e)
      exact decide_eq_decide.2 (by omega)

theorem idxAny_two (L : Lays.n153 P ρ) (hv116 : ∀ w, (zeroValue (ρ.t 116)).run P w = .ok (.agg (Array.replicate 256 (.bool false))) w) (hi116 : (P.info? (ρ.t 116)).map (·.size) = some 256) (s : ByteArray) (w : World) (hs : s.size < 4294967281) :
    Calls P (ρ.f 153) #[.string s, .string twoB] w fun e w' => e = .returned (.int .i64 (Lib.indexAny s.data.toList twoB.data.toList)) ∧ Below w.heap.size w w' := by
  by_cases h8 : s.size ≤ 8
  · exact idxAny_short L s w h8
  · refine (Any.strings_IndexAny_long L hv116 hi116 s twoB w (by decide) (by omega) hs (by decide) ?_).mono fun e w' ⟨h1, h2⟩ => ⟨h1, ?_⟩
    · intro j b hb
      rw [twoB_list] at hb
      match j, hb with
      | 0, hb => cases hb; decide
      | 1, hb => cases hb; decide
      | n + 2, hb => simp at hb
    · rw [h2]
      exact ((Below.refl _ _).alloc (Nat.le_refl _) _).alloc (by simp) _

set_option maxHeartbeats 1000000 in
theorem containsAny_two (L : Lays.n150 P ρ) (h116 : (P.info? (ρ.t 116)).map (fun i => (i.zero, i.size)) = some (some (.agg (Array.replicate 256 (.bool false))), 256)) (s : ByteArray) (w : World) (hs : s.size < 4294967281) :
    Calls P (ρ.f 150) #[.string s, .string twoB] w fun e w' => e = .returned (.bool (s.data.toList.contains 47 || s.data.toList.contains 0)) ∧ Below w.heap.size w w' := by
  have c := idxAny_two { L with } (zero_of_info h116).1 (zero_of_info h116).2 s w hs
  have t3 := L.t3; have a3 := L.a3; have z3 := L.z3; have v3 := L.v3
  have t4 := L.t4; have a4 := L.a4; have z4 := L.z4; have v4 := L.v4
  have t9 := L.t9; have a9 := L.a9; have z9 := L.z9; have v9 := L.v9
  have e153 : ∀ args w, (callFunc (ρ.f 153) args).run P w = .ok (.enter (ρ.f 153) args) w := enters_of L.f153 (by kernel_rfl) rfl
  rw [← indexAny_two, ← twoB_list]
  go_enter L.f150, Body.n150_ntmps ρ
  go_wp2_with (go_at_fn (ρ.f 153); refine c.mono ?_; rintro e w' ⟨rfl, hw⟩)
  go_ret
  exact ⟨rfl, hw⟩
end Go.Proofs
end
