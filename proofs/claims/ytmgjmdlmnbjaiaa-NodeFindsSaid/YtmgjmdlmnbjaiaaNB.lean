/- Part of the proof: what functions of the program do, and laws of plain Lean about it. No condition of its own. -/
import Derived.Test.YtmgjmdlmnbjaiaaNA
set_option linter.unusedSimpArgs false
namespace Go.Proofs.Ytmgjmdlmnbjaiaa.A
open Go Go.AM

theorem less_irrefl : ∀ x : List UInt8, Op.bytesLess x x = false
  | [] => rfl
  | a :: x => by
    have := less_irrefl x
    have h : ¬ a < a := by rw [UInt8.lt_iff_toNat_lt]; omega
    simp [Op.bytesLess, h, this]
theorem less_trans : ∀ {x y z : List UInt8}, Op.bytesLess x y = true → Op.bytesLess y z = true → Op.bytesLess x z = true
  | x, y, [], _, h2 => by cases y <;> simp [Op.bytesLess] at h2
  | x, [], c :: z, h1, _ => by cases x <;> simp [Op.bytesLess] at h1
  | [], b :: y, c :: z, _, _ => rfl
  | a :: x, b :: y, c :: z, h1, h2 => by
    simp only [Op.bytesLess, Bool.or_eq_true, Bool.and_eq_true, decide_eq_true_eq, beq_iff_eq, UInt8.lt_iff_toNat_lt] at *
    rcases h1 with h1 | ⟨rfl, h1⟩
    · rcases h2 with h2 | ⟨rfl, h2⟩
      · left; omega
      · exact .inl h1
    · rcases h2 with h2 | ⟨rfl, h2⟩
      · exact .inl h2
      · exact .inr ⟨rfl, less_trans h1 h2⟩
theorem less_tri : ∀ {x y : List UInt8}, Op.bytesLess x y = false → x ≠ y → Op.bytesLess y x = true
  | [], [], _, h => absurd rfl h
  | [], b :: y, h, _ => by simp [Op.bytesLess] at h
  | a :: x, [], _, _ => rfl
  | a :: x, b :: y, h, hn => by
    simp only [Op.bytesLess, Bool.or_eq_false_iff, Bool.and_eq_false_iff, Bool.or_eq_true, Bool.and_eq_true, decide_eq_true_eq, decide_eq_false_iff_not, beq_iff_eq, beq_eq_false_iff_ne, UInt8.lt_iff_toNat_lt] at *
    obtain ⟨h1, h2⟩ := h
    by_cases e : a = b
    · subst e
      exact .inr ⟨rfl, less_tri (h2.resolve_left (fun h => h rfl)) (fun h => hn (by rw [h]))⟩
    · have : a.toNat ≠ b.toNat := fun h => e (UInt8.toNat_inj.1 h)
      left; omega
theorem less_asymm {x y : List UInt8} (h : Op.bytesLess x y = true) : Op.bytesLess y x = false := by
  cases e : Op.bytesLess y x
  · rfl
  · have := less_trans h e
    rw [less_irrefl] at this; cases this
theorem less_ne {x y : List UInt8} (h : Op.bytesLess x y = true) : x ≠ y := fun e => by
  rw [e, less_irrefl] at h; cases h

def LessN (a b : Nd) : Prop := Op.bytesLess a.name b.name = true

theorem takeWhile_mem {S : List Nd} {n m : Nd} (h : m ∈ S.take (atOf S n)) : LessN m n := by
  unfold atOf at h
  have e : S.take (S.takeWhile fun m => Op.bytesLess m.name n.name).length = S.takeWhile fun m => Op.bytesLess m.name n.name := by
    have h2 := List.takeWhile_append_dropWhile (p := fun m : Nd => Op.bytesLess m.name n.name) (l := S)
    generalize hA : S.takeWhile (fun m => Op.bytesLess m.name n.name) = A at *
    rw [← h2, List.take_left']; rfl
  rw [e] at h
  exact List.all_eq_true.1 List.all_takeWhile m h
theorem atOf_stop {S : List Nd} {n : Nd} (h : atOf S n < S.length) : Op.bytesLess (S.getD (atOf S n) default).name n.name = false := by
  unfold atOf at *
  induction S with
  | nil => simp at h
  | cons m S ih =>
    by_cases hm : Op.bytesLess m.name n.name = true
    · have e : (m :: S).takeWhile (fun m => Op.bytesLess m.name n.name) = m :: S.takeWhile (fun m => Op.bytesLess m.name n.name) := List.takeWhile_cons_of_pos hm
      rw [e] at h ⊢
      simp only [List.length_cons, List.getD_cons_succ] at *
      exact ih (by omega)
    · have e : (m :: S).takeWhile (fun m => Op.bytesLess m.name n.name) = [] := List.takeWhile_cons_of_neg (by simpa using hm)
      rw [e]
      simpa using hm
theorem drop_mem {S : List Nd} {a : Nat} (h : a < S.length) : S.drop a = S.getD a default :: S.drop (a + 1) := by
  rw [List.drop_eq_getElem_cons h, List.getD_eq_getElem?_getD, List.getElem?_eq_getElem h]; rfl

theorem ins_pw {S : List Nd} {n : Nd} (h : S.Pairwise LessN) : (ins S n).Pairwise LessN := by
  unfold ins
  split
  · rename_i hc
    have ht : (S.take (atOf S n)).Pairwise LessN := h.sublist (List.take_sublist _ _)
    have hd : (S.drop (atOf S n)).Pairwise LessN := h.sublist (List.drop_sublist _ _)
    have hbig : ∀ m ∈ S.drop (atOf S n), LessN n m := by
      by_cases hl : atOf S n < S.length
      · have hs := atOf_stop hl
        have hne : (S.getD (atOf S n) default).name ≠ n.name := hc.resolve_left (by omega)
        have h1 : LessN n (S.getD (atOf S n) default) := less_tri hs hne
        rw [drop_mem hl] at hd ⊢
        intro m hm
        rcases List.mem_cons.1 hm with rfl | hm
        · exact h1
        · exact less_trans h1 ((List.pairwise_cons.1 hd).1 m hm)
      · rw [List.drop_of_length_le (by omega)]
        intro m hm; cases hm
    refine List.pairwise_append.2 ⟨ht, List.pairwise_cons.2 ⟨hbig, hd⟩, ?_⟩
    intro a ha b hb
    have h1 := takeWhile_mem ha
    rcases List.mem_cons.1 hb with rfl | hb
    · exact h1
    · exact less_trans h1 (hbig b hb)
  · exact h
theorem ins_mem {S : List Nd} {n m : Nd} (h : m ∈ ins S n) : m ∈ S ∨ m = n := by
  unfold ins at h
  split at h
  · rcases List.mem_append.1 h with h | h
    · exact .inl (List.mem_of_mem_take h)
    · rcases List.mem_cons.1 h with h | h
      · exact .inr h
      · exact .inl (List.mem_of_mem_drop h)
  · exact .inl h
theorem sorted_inv (l S : List Nd) (h : S.Pairwise LessN) (hc : ∀ n ∈ S, n.check = 0) (L : List Nd) (hS : ∀ n ∈ S, n ∈ L) (hl : ∀ n ∈ l, n ∈ L) :
    (l.foldl sStep S).Pairwise LessN ∧ (∀ n ∈ l.foldl sStep S, n.check = 0) ∧ ∀ n ∈ l.foldl sStep S, n ∈ L := by
  induction l generalizing S with
  | nil => exact ⟨h, hc, hS⟩
  | cons m l ih =>
    rw [List.foldl_cons]
    have hl' : ∀ n ∈ l, n ∈ L := fun n hn => hl n (List.mem_cons_of_mem _ hn)
    unfold sStep
    by_cases e : m.check = 0
    · rw [if_pos e]
      refine ih (ins S m) (ins_pw h) ?_ ?_ hl'
      · intro n hn
        rcases ins_mem hn with hn | rfl
        · exact hc n hn
        · exact e
      · intro n hn
        rcases ins_mem hn with hn | rfl
        · exact hS n hn
        · exact hl _ List.mem_cons_self
    · rw [if_neg e]
      exact ih S h hc hS hl'
theorem sorted_pw (l : List Nd) : (sorted l).Pairwise LessN := (sorted_inv l [] .nil (fun _ h => by cases h) l (fun _ h => by cases h) (fun _ h => h)).1
theorem sorted_check (l : List Nd) : ∀ n ∈ sorted l, n.check = 0 := (sorted_inv l [] .nil (fun _ h => by cases h) l (fun _ h => by cases h) (fun _ h => h)).2.1
theorem sorted_sub (l : List Nd) : ∀ n ∈ sorted l, n ∈ l := (sorted_inv l [] .nil (fun _ h => by cases h) l (fun _ h => by cases h) (fun _ h => h)).2.2
theorem sorted_less (l : List Nd) {i : Nat} (h : i + 1 < (sorted l).length) : LessN ((sorted l).getD i default) ((sorted l).getD (i + 1) default) := by
  have := List.pairwise_iff_getElem.1 (sorted_pw l) i (i + 1) (by omega) h (by omega)
  rw [List.getD_eq_getElem?_getD, List.getD_eq_getElem?_getD, List.getElem?_eq_getElem (by omega), List.getElem?_eq_getElem h]
  exact this
theorem few_sub (l : List Nd) : ∀ n ∈ few l, n ∈ l ∧ okFew n = true := fun n hn => by
  unfold few at hn
  rw [List.mem_filter] at hn
  exact ⟨List.mem_of_mem_take hn.1, hn.2⟩
theorem few_le (l : List Nd) : (few l).length ≤ 60 := few_len l 60
theorem sorted_le (l : List Nd) : (sorted l).length ≤ l.length := by
  have := sorted_len l l.length
  rwa [List.take_length] at this

/-! the two of a pair -/
theorem nle_less {a b : Nd} (h : LessN a b) : nle a b = false := by
  unfold nle
  rw [less_asymm h, Bool.false_or, decide_eq_false_iff_not]
  exact fun e => less_ne h e.symm
theorem nle_more {a b : Nd} (h : LessN a b) : nle b a = true := by
  unfold nle
  unfold LessN at h
  rw [h]; rfl
theorem nle_self (a : Nd) : nle a a = true := by unfold nle; simp
theorem two_check {a b : Nd} (ha : a.check = 0) (hb : b.check = 0) (j : Nat) (hj : j < [a, b].length) : ([a, b].getD j default).check = 0 := by
  match j, hj with
  | 0, _ => exact ha
  | 1, _ => exact hb
  | n + 2, h => exact absurd h (by simp)
theorem enc1 {a : Nd} (h : a.check = 0) : (encode [a]).2 = 0 := by
  have hc : ∀ j, j < [a].length → ([a].getD j default).check = 0 := by
    intro j hj
    match j, hj with
    | 0, _ => exact h
    | n + 1, h => exact absurd h (by simp)
  rw [encode_good (by simp) hc (by intro i hi; simp at hi)]
theorem enc2_good {a b : Nd} (ha : a.check = 0) (hb : b.check = 0) (h : LessN a b) : (encode [a, b]).2 = 0 := by
  have hn : ∀ i, i + 1 < [a, b].length → nle ([a, b].getD i default) ([a, b].getD (i + 1) default) = false := by
    intro i hi
    match i, hi with
    | 0, _ => exact nle_less h
    | n + 1, h => exact absurd h (by simp)
  rw [encode_good (by simp) (two_check ha hb) hn]
theorem enc2_bad {a b : Nd} (ha : a.check = 0) (hb : b.check = 0) (h : nle a b = true) : (encode [a, b]).2 = 2 := by
  have h' : nle ([a, b].getD (1 - 1) default) ([a, b].getD 1 default) = true := h
  rw [encode_ord (by simp) (two_check ha hb) (by omega) (by simp) h']
theorem enc_sorted (l : List Nd) (hl : l.length ≤ 60) : (encode (sorted l)).2 = 0 := by
  have := sorted_le l
  rw [encode_good (by omega) (fun j hj => sorted_check l _ (getD_in hj)) (fun i hi => nle_less (sorted_less l hi))]
end Go.Proofs.Ytmgjmdlmnbjaiaa.A
