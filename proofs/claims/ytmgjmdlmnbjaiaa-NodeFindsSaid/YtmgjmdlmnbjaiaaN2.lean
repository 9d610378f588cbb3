/- Part of the proof: what functions of the program do, step by step. No condition of its own. -/
import Derived.Test.YtmgjmdlmnbjaiaaU
import Derived.Test.YtmgjmdlmnbjaiaaS3
set_option linter.unusedSimpArgs false
namespace Go.Proofs.Ytmgjmdlmnbjaiaa.A
open Go Go.AM

/-- An Out: its bytes (the row 'i'), its error. -/
def outB (i : Nat) (l : List UInt8) (e : Int) : List (Nat × Blk) := [(0, .var [.own i 1 0 l.length, .int .i64 e]), (i, .row 1 (.bytes l))]

theorem fail_tr (l : List UInt8) (e e' : Int) : TrOk Try.prog ⟨id_glyph_Out_fail, [.ref 0 0 0, .int .i64 e'], outB 1 l e, 2, .tup [], outB 2 l (if e = 0 then e' else e), 3⟩ := by
  refine glyph_Out_fail_tr (by simp [outB]) ?_
  simp only [glyph_Out_fail_J0, glyph_Out_fail_S, outB, go_sem, Int.reducePow, reduceIte, reduceCtorEq, Nat.reduceEqDiff, Nat.reduceLeDiff, Nat.reduceLT, Nat.reduceAdd, Nat.reduceSub, Nat.reduceMul, Nat.reduceBEq, Int.reduceToNat, Int.reduceLE, Int.reduceLT, Int.reduceAdd, Int.reduceSub, Int.reduceNeg, Int.reduceEq]
  split
  all_goals (refine fin_i [] [0, 1, 1] [] rfl ?_ ?_ (by rfl) <;> simp only [go_sem, Int.reducePow, reduceIte, reduceCtorEq, Nat.reduceEqDiff, Nat.reduceLeDiff, Nat.reduceLT, Nat.reduceAdd, Nat.reduceSub, Nat.reduceMul, Nat.reduceBEq, Int.reduceToNat, Int.reduceLE, Int.reduceLT, Int.reduceAdd, Int.reduceSub, Int.reduceNeg, Int.reduceEq])

theorem num_tr (l : List UInt8) (n : Nat) (hl : l.length ≤ 70368744177664) (hn : (n : Int) < 4611686018427387904) : TrOk Try.prog ⟨id_glyph_Out_num, [.ref 0 0 0, .int .i64 n], outB 1 l 0, 2, .tup [], outB 2 (l ++ numB n) 0, 3⟩ := by
  refine glyph_Out_num_tr (by simp [outB]) ?_
  simp only [glyph_Out_num_J1, glyph_Out_num_R0, glyph_Out_num_S, outB, go_sem, Int.reducePow, reduceIte, reduceCtorEq, Nat.reduceEqDiff, Nat.reduceLeDiff, Nat.reduceLT, Nat.reduceAdd, Nat.reduceSub, Nat.reduceMul, Nat.reduceBEq, Int.reduceToNat, Int.reduceLE, Int.reduceLT, Int.reduceAdd, Int.reduceSub, Int.reduceNeg, Int.reduceEq]
  rw [if_neg (by omega), if_neg (by omega)]
  have hn9 := numB_len9 (n := n) (by omega)
  refine lp_i (fun xs h k => ∃ (j : Nat) (p : List UInt8), xs = [.ref 0 0 0, .int .i64 j] ∧ h = ⟨outB 2 (l ++ p) 0, 3⟩ ∧ k = j ∧ p ++ numB j = numB n ∧ j ≤ n)
    ⟨n + 1, nx_i [] [0, 1, 1] [] n rfl ⟨n, [], rfl, rfl, rfl, rfl, Nat.le_refl _⟩ ?_ ?_ (by rfl) (Nat.lt_succ_self _)⟩ ?_
  · simp only [outB, go_sem, Int.reducePow, reduceIte, reduceCtorEq, Nat.reduceEqDiff, Nat.reduceLeDiff, Nat.reduceLT, Nat.reduceAdd, Nat.reduceSub, Nat.reduceMul, Nat.reduceBEq, Int.reduceToNat, Int.reduceLE, Int.reduceLT, Int.reduceAdd, Int.reduceSub, Int.reduceNeg, Int.reduceEq]
  · simp only [outB, go_sem, Int.reducePow, reduceIte, reduceCtorEq, Nat.reduceEqDiff, Nat.reduceLeDiff, Nat.reduceLT, Nat.reduceAdd, Nat.reduceSub, Nat.reduceMul, Nat.reduceBEq, Int.reduceToNat, Int.reduceLE, Int.reduceLT, Int.reduceAdd, Int.reduceSub, Int.reduceNeg, Int.reduceEq]
  rintro xs h k ⟨j, p, rfl, rfl, rfl, hp, hjn⟩
  have hlen : p.length + (numB k).length ≤ 9 := by rw [← List.length_append, hp]; exact hn9
  have hpos := numB_pos k
  simp only [glyph_Out_num_J1, glyph_Out_num_B2, glyph_Out_num_R0, glyph_Out_num_S, outB, go_sem, Int.reducePow, reduceIte, reduceCtorEq, Nat.reduceEqDiff, Nat.reduceLeDiff, Nat.reduceLT, Nat.reduceAdd, Nat.reduceSub, Nat.reduceMul, Nat.reduceBEq, Int.reduceToNat, Int.reduceLE, Int.reduceLT, Int.reduceAdd, Int.reduceSub, Int.reduceNeg, Int.reduceEq, fdiv128, or128w, wu8, Int.toNat_natCast]
  simp only [List.length_append, List.length_cons, List.length_nil]
  split
  · rename_i h1
    rw [numB_ge (by omega)] at hp
    refine ⟨by omega, by omega, nx_i [] [0, 1, 4] [] (k / 128) rfl ⟨k / 128, p ++ [UInt8.ofNat (k % 128 + 128)], rfl, rfl, rfl, by rw [← hp]; simp, by omega⟩ ?_ ?_ (by rfl) (by omega)⟩
    · simp only [outB, go_sem, Int.reducePow, reduceIte, reduceCtorEq, Nat.reduceEqDiff, Nat.reduceLeDiff, Nat.reduceLT, Nat.reduceAdd, Nat.reduceSub, Nat.reduceMul, Nat.reduceBEq, Int.reduceToNat, Int.reduceLE, Int.reduceLT, Int.reduceAdd, Int.reduceSub, Int.reduceNeg, Int.reduceEq]
    · simp only [outB, go_sem, Int.reducePow, reduceIte, reduceCtorEq, Nat.reduceEqDiff, Nat.reduceLeDiff, Nat.reduceLT, Nat.reduceAdd, Nat.reduceSub, Nat.reduceMul, Nat.reduceBEq, Int.reduceToNat, Int.reduceLE, Int.reduceLT, Int.reduceAdd, Int.reduceSub, Int.reduceNeg, Int.reduceEq, List.append_assoc, List.length_append, Nat.add_assoc]
  · rename_i h1
    rw [numB_lt (by omega)] at hp
    refine ⟨by omega, by omega, ?_⟩
    rw [← hp, Nat.mod_eq_of_lt (by omega)]
    refine fin_i [] [0, 1, 4] [] rfl ?_ ?_ (by rfl)
    · simp only [outB, go_sem, Int.reducePow, reduceIte, reduceCtorEq, Nat.reduceEqDiff, Nat.reduceLeDiff, Nat.reduceLT, Nat.reduceAdd, Nat.reduceSub, Nat.reduceMul, Nat.reduceBEq, Int.reduceToNat, Int.reduceLE, Int.reduceLT, Int.reduceAdd, Int.reduceSub, Int.reduceNeg, Int.reduceEq]
    · simp only [outB, go_sem, Int.reducePow, reduceIte, reduceCtorEq, Nat.reduceEqDiff, Nat.reduceLeDiff, Nat.reduceLT, Nat.reduceAdd, Nat.reduceSub, Nat.reduceMul, Nat.reduceBEq, Int.reduceToNat, Int.reduceLE, Int.reduceLT, Int.reduceAdd, Int.reduceSub, Int.reduceNeg, Int.reduceEq, List.append_assoc, List.length_append, Nat.add_assoc]

def oNum (s : List UInt8 × Int) (n : Int) : List UInt8 × Int := if s.2 = 0 then (if n < 0 ∨ 4611686018427387904 ≤ n then (s.1, 1) else (s.1 ++ numB n.toNat, 0)) else s
theorem oNum_len (s : List UInt8 × Int) (n : Int) : (oNum s n).1.length ≤ s.1.length + 9 := by
  unfold oNum
  split
  · split
    · simp
    · rename_i h
      have := numB_len9 (n := n.toNat) (by omega)
      simp only [List.length_append]; omega
  · omega
theorem oNums_len : ∀ (ns : List Int) (s : List UInt8 × Int), (ns.foldl oNum s).1.length ≤ s.1.length + 9 * ns.length
  | [], s => by simp
  | n :: ns, s => by
    have h1 := oNums_len ns (oNum s n)
    have h2 := oNum_len s n
    simp only [List.foldl_cons, List.length_cons]; omega

theorem num_all (l : List UInt8) (n : Int) (hl : l.length ≤ 70368744177664) : TrOk Try.prog ⟨id_glyph_Out_num, [.ref 0 0 0, .int .i64 n], outB 1 l 0, 2, .tup [], outB 2 (oNum (l, 0) n).1 (oNum (l, 0) n).2, 3⟩ := by
  by_cases h : n < 0 ∨ 4611686018427387904 ≤ n
  · have e : oNum (l, 0) n = (l, 1) := by simp [oNum, h]
    rw [e]
    refine glyph_Out_num_tr (by simp [outB]) ?_
    simp only [glyph_Out_num_J1, glyph_Out_num_R0, glyph_Out_num_S, outB, go_sem, Int.reducePow, reduceIte, reduceCtorEq, Nat.reduceEqDiff, Nat.reduceLeDiff, Nat.reduceLT, Nat.reduceAdd, Nat.reduceSub, Nat.reduceMul, Nat.reduceBEq, Int.reduceToNat, Int.reduceLE, Int.reduceLT, Int.reduceAdd, Int.reduceSub, Int.reduceNeg, Int.reduceEq]
    by_cases h0 : n < 0
    · rw [if_pos h0]
      (refine ecall_i [0, 1] [] (fail_tr l 0 1) rfl (by (try simp only [outB, go_sem, Int.reducePow, reduceIte, reduceCtorEq, Nat.reduceEqDiff, Nat.reduceLeDiff, Nat.reduceLT, Nat.reduceAdd, Nat.reduceSub, Nat.reduceMul, Nat.reduceBEq, Int.reduceToNat, Int.reduceLE, Int.reduceLT, Int.reduceAdd, Int.reduceSub, Int.reduceNeg, Int.reduceEq]) <;> first | done | ((repeat' apply And.intro) <;> first | rfl | trivial | exact wkEs_refl _ | exact wkV_refl _ | (left; rfl) | (right; rfl))) (by (try simp only [outB, go_sem, Int.reducePow, reduceIte, reduceCtorEq, Nat.reduceEqDiff, Nat.reduceLeDiff, Nat.reduceLT, Nat.reduceAdd, Nat.reduceSub, Nat.reduceMul, Nat.reduceBEq, Int.reduceToNat, Int.reduceLE, Int.reduceLT, Int.reduceAdd, Int.reduceSub, Int.reduceNeg, Int.reduceEq]) <;> first | done | ((repeat' apply And.intro) <;> first | rfl | trivial | exact wkEs_refl _ | exact wkV_refl _ | (left; rfl) | (right; rfl))) ⟨rfl, rfl⟩ (by decide) ?_)
      simp only [outB, go_sem, Int.reducePow, reduceIte, reduceCtorEq, Nat.reduceEqDiff, Nat.reduceLeDiff, Nat.reduceLT, Nat.reduceAdd, Nat.reduceSub, Nat.reduceMul, Nat.reduceBEq, Int.reduceToNat, Int.reduceLE, Int.reduceLT, Int.reduceAdd, Int.reduceSub, Int.reduceNeg, Int.reduceEq]
      refine fin_i [] [0, 1, 2] [] rfl ?_ ?_ (by rfl) <;> simp only [outB, go_sem, Int.reducePow, reduceIte, reduceCtorEq, Nat.reduceEqDiff, Nat.reduceLeDiff, Nat.reduceLT, Nat.reduceAdd, Nat.reduceSub, Nat.reduceMul, Nat.reduceBEq, Int.reduceToNat, Int.reduceLE, Int.reduceLT, Int.reduceAdd, Int.reduceSub, Int.reduceNeg, Int.reduceEq]
    · rw [if_neg h0, if_pos (h.resolve_left h0)]
      (refine ecall_i [0, 1] [] (fail_tr l 0 1) rfl (by (try simp only [outB, go_sem, Int.reducePow, reduceIte, reduceCtorEq, Nat.reduceEqDiff, Nat.reduceLeDiff, Nat.reduceLT, Nat.reduceAdd, Nat.reduceSub, Nat.reduceMul, Nat.reduceBEq, Int.reduceToNat, Int.reduceLE, Int.reduceLT, Int.reduceAdd, Int.reduceSub, Int.reduceNeg, Int.reduceEq]) <;> first | done | ((repeat' apply And.intro) <;> first | rfl | trivial | exact wkEs_refl _ | exact wkV_refl _ | (left; rfl) | (right; rfl))) (by (try simp only [outB, go_sem, Int.reducePow, reduceIte, reduceCtorEq, Nat.reduceEqDiff, Nat.reduceLeDiff, Nat.reduceLT, Nat.reduceAdd, Nat.reduceSub, Nat.reduceMul, Nat.reduceBEq, Int.reduceToNat, Int.reduceLE, Int.reduceLT, Int.reduceAdd, Int.reduceSub, Int.reduceNeg, Int.reduceEq]) <;> first | done | ((repeat' apply And.intro) <;> first | rfl | trivial | exact wkEs_refl _ | exact wkV_refl _ | (left; rfl) | (right; rfl))) ⟨rfl, rfl⟩ (by decide) ?_)
      simp only [outB, go_sem, Int.reducePow, reduceIte, reduceCtorEq, Nat.reduceEqDiff, Nat.reduceLeDiff, Nat.reduceLT, Nat.reduceAdd, Nat.reduceSub, Nat.reduceMul, Nat.reduceBEq, Int.reduceToNat, Int.reduceLE, Int.reduceLT, Int.reduceAdd, Int.reduceSub, Int.reduceNeg, Int.reduceEq]
      refine fin_i [] [0, 1, 2] [] rfl ?_ ?_ (by rfl) <;> simp only [outB, go_sem, Int.reducePow, reduceIte, reduceCtorEq, Nat.reduceEqDiff, Nat.reduceLeDiff, Nat.reduceLT, Nat.reduceAdd, Nat.reduceSub, Nat.reduceMul, Nat.reduceBEq, Int.reduceToNat, Int.reduceLE, Int.reduceLT, Int.reduceAdd, Int.reduceSub, Int.reduceNeg, Int.reduceEq]
  · have e : oNum (l, 0) n = (l ++ numB n.toNat, 0) := by simp [oNum, h]
    rw [e]
    have := num_tr l n.toNat hl (by omega)
    rwa [Int.toNat_of_nonneg (by omega)] at this

theorem Num_tr (l : List UInt8) (e : Int) (z : Option Bool) (ns : List Int) (hl : l.length + 9 * ns.length ≤ 70368744177664) :
    TrOk Try.prog ⟨id_glyph_Out_Num, [.ref 0 0 0, .sli z .i64 ns], outB 1 l e, 2, .ref 0 0 0, outB 2 (ns.foldl oNum (l, e)).1 (ns.foldl oNum (l, e)).2, 3⟩ := by
  refine glyph_Out_Num_tr (by simp [outB]) ?_
  simp only [glyph_Out_Num_J1, glyph_Out_Num_R0, glyph_Out_Num_J2, glyph_Out_Num_S, outB, go_sem, Int.reducePow, reduceIte, reduceCtorEq, Nat.reduceEqDiff, Nat.reduceLeDiff, Nat.reduceLT, Nat.reduceAdd, Nat.reduceSub, Nat.reduceMul, Nat.reduceBEq, Int.reduceToNat, Int.reduceLE, Int.reduceLT, Int.reduceAdd, Int.reduceSub, Int.reduceNeg, Int.reduceEq]
  refine lp_i (fun xs h k => ∃ i : Nat, xs = [.ref 0 0 0, .sli z .i64 ns, .int .i64 ns.length, .int .i64 i] ∧ h = ⟨outB 2 ((ns.take i).foldl oNum (l, e)).1 ((ns.take i).foldl oNum (l, e)).2, 3⟩ ∧ k = ns.length - i ∧ i ≤ ns.length)
    ⟨ns.length + 1, nx_i [] [0, 1, 1] [] ns.length rfl ⟨0, rfl, rfl, rfl, Nat.zero_le _⟩ ?_ ?_ (by rfl) (Nat.lt_succ_self _)⟩ ?_
  · simp only [outB, go_sem, Int.reducePow, reduceIte, reduceCtorEq, Nat.reduceEqDiff, Nat.reduceLeDiff, Nat.reduceLT, Nat.reduceAdd, Nat.reduceSub, Nat.reduceMul, Nat.reduceBEq, Int.reduceToNat, Int.reduceLE, Int.reduceLT, Int.reduceAdd, Int.reduceSub, Int.reduceNeg, Int.reduceEq]
  · simp only [outB, go_sem, Int.reducePow, reduceIte, reduceCtorEq, Nat.reduceEqDiff, Nat.reduceLeDiff, Nat.reduceLT, Nat.reduceAdd, Nat.reduceSub, Nat.reduceMul, Nat.reduceBEq, Int.reduceToNat, Int.reduceLE, Int.reduceLT, Int.reduceAdd, Int.reduceSub, Int.reduceNeg, Int.reduceEq, List.foldl_nil]
  rintro xs h k ⟨i, rfl, rfl, rfl, hi⟩
  have hb := oNums_len (ns.take i) (l, e)
  simp only [List.length_take] at hb
  simp only [glyph_Out_Num_J1, glyph_Out_Num_R0, glyph_Out_Num_J2, glyph_Out_Num_B2, glyph_Out_Num_S, outB, go_sem, Int.reducePow, reduceIte, reduceCtorEq, Nat.reduceEqDiff, Nat.reduceLeDiff, Nat.reduceLT, Nat.reduceAdd, Nat.reduceSub, Nat.reduceMul, Nat.reduceBEq, Int.reduceToNat, Int.reduceLE, Int.reduceLT, Int.reduceAdd, Int.reduceSub, Int.reduceNeg, Int.reduceEq]
  split
  · rename_i hlt
    have hlt' : i < ns.length := by omega
    have hst := foldl_take oNum (l, e) ns 0 hlt'
    generalize (ns.take i).foldl oNum (l, e) = s at *
    refine ⟨by omega, ?_⟩
    simp only [Int.toNat_natCast]
    obtain ⟨sl, se⟩ := s
    simp only at hb hst
    by_cases h0 : se = 0
    · subst h0
      rw [if_pos rfl]

      (refine ecall_i [0, 2] [] (num_all sl _ (by omega)) rfl (by (try simp only [outB, go_sem, Int.reducePow, reduceIte, reduceCtorEq, Nat.reduceEqDiff, Nat.reduceLeDiff, Nat.reduceLT, Nat.reduceAdd, Nat.reduceSub, Nat.reduceMul, Nat.reduceBEq, Int.reduceToNat, Int.reduceLE, Int.reduceLT, Int.reduceAdd, Int.reduceSub, Int.reduceNeg, Int.reduceEq]) <;> first | done | ((repeat' apply And.intro) <;> first | rfl | trivial | exact wkEs_refl _ | exact wkV_refl _ | (left; rfl) | (right; rfl))) (by (try simp only [outB, go_sem, Int.reducePow, reduceIte, reduceCtorEq, Nat.reduceEqDiff, Nat.reduceLeDiff, Nat.reduceLT, Nat.reduceAdd, Nat.reduceSub, Nat.reduceMul, Nat.reduceBEq, Int.reduceToNat, Int.reduceLE, Int.reduceLT, Int.reduceAdd, Int.reduceSub, Int.reduceNeg, Int.reduceEq]) <;> first | done | ((repeat' apply And.intro) <;> first | rfl | trivial | exact wkEs_refl _ | exact wkV_refl _ | (left; rfl) | (right; rfl))) ⟨rfl, rfl⟩ (by decide) ?_)
      simp only [outB, go_sem, Int.reducePow, reduceIte, reduceCtorEq, Nat.reduceEqDiff, Nat.reduceLeDiff, Nat.reduceLT, Nat.reduceAdd, Nat.reduceSub, Nat.reduceMul, Nat.reduceBEq, Int.reduceToNat, Int.reduceLE, Int.reduceLT, Int.reduceAdd, Int.reduceSub, Int.reduceNeg, Int.reduceEq]
      rw [add1w hlt' (by omega)]
      refine nx_i [] [0, 1, 3] [] (ns.length - (i + 1)) rfl ⟨i + 1, rfl, rfl, rfl, by omega⟩ ?_ ?_ (by rfl) (by omega)
      · simp only [outB, go_sem, Int.reducePow, reduceIte, reduceCtorEq, Nat.reduceEqDiff, Nat.reduceLeDiff, Nat.reduceLT, Nat.reduceAdd, Nat.reduceSub, Nat.reduceMul, Nat.reduceBEq, Int.reduceToNat, Int.reduceLE, Int.reduceLT, Int.reduceAdd, Int.reduceSub, Int.reduceNeg, Int.reduceEq]
      · simp only [outB, go_sem, Int.reducePow, reduceIte, reduceCtorEq, Nat.reduceEqDiff, Nat.reduceLeDiff, Nat.reduceLT, Nat.reduceAdd, Nat.reduceSub, Nat.reduceMul, Nat.reduceBEq, Int.reduceToNat, Int.reduceLE, Int.reduceLT, Int.reduceAdd, Int.reduceSub, Int.reduceNeg, Int.reduceEq, hst]
    · simp only [if_neg h0]
      rw [add1w hlt' (by omega)]
      have e1 : oNum (sl, se) (ns.getD i 0) = (sl, se) := by simp [oNum, h0]
      rw [e1] at hst
      refine nx_i [] [0, 1, 2] [] (ns.length - (i + 1)) rfl ⟨i + 1, rfl, rfl, rfl, by omega⟩ ?_ ?_ (by rfl) (by omega)
      · simp only [outB, go_sem, Int.reducePow, reduceIte, reduceCtorEq, Nat.reduceEqDiff, Nat.reduceLeDiff, Nat.reduceLT, Nat.reduceAdd, Nat.reduceSub, Nat.reduceMul, Nat.reduceBEq, Int.reduceToNat, Int.reduceLE, Int.reduceLT, Int.reduceAdd, Int.reduceSub, Int.reduceNeg, Int.reduceEq]
      · simp only [outB, go_sem, Int.reducePow, reduceIte, reduceCtorEq, Nat.reduceEqDiff, Nat.reduceLeDiff, Nat.reduceLT, Nat.reduceAdd, Nat.reduceSub, Nat.reduceMul, Nat.reduceBEq, Int.reduceToNat, Int.reduceLE, Int.reduceLT, Int.reduceAdd, Int.reduceSub, Int.reduceNeg, Int.reduceEq, hst]
  · have : ns.take i = ns := List.take_of_length_le (by omega)
    rw [this]
    refine fin_i [] [0, 1, 2] [] rfl ?_ ?_ (by rfl) <;> simp only [outB, go_sem, Int.reducePow, reduceIte, reduceCtorEq, Nat.reduceEqDiff, Nat.reduceLeDiff, Nat.reduceLT, Nat.reduceAdd, Nat.reduceSub, Nat.reduceMul, Nat.reduceBEq, Int.reduceToNat, Int.reduceLE, Int.reduceLT, Int.reduceAdd, Int.reduceSub, Int.reduceNeg, Int.reduceEq]

def oText (s : List UInt8 × Int) (t : List UInt8) : List UInt8 × Int := if s.2 = 0 then (if 131072 < (t.length : Int) then (s.1, 4) else (s.1 ++ (numB t.length ++ t), 0)) else s
theorem oText_len (s : List UInt8 × Int) (t : List UInt8) : (oText s t).1.length ≤ s.1.length + 131081 := by
  unfold oText
  split
  · split
    · simp
    · rename_i h
      have := numB_len9 (n := t.length) (by omega)
      simp only [List.length_append]; omega
  · omega
theorem oTexts_len : ∀ (ns : List (List UInt8)) (s : List UInt8 × Int), (ns.foldl oText s).1.length ≤ s.1.length + 131081 * ns.length
  | [], s => by simp
  | n :: ns, s => by
    have h1 := oTexts_len ns (oText s n)
    have h2 := oText_len s n
    simp only [List.foldl_cons, List.length_cons]; omega

theorem Text_tr (l : List UInt8) (e : Int) (z : Option Bool) (ns : List (List UInt8)) (hl : l.length + 131081 * ns.length ≤ 70368744177664) :
    TrOk Try.prog ⟨id_glyph_Out_Text, [.ref 0 0 0, .sls z ns], outB 1 l e, 2, .ref 0 0 0, outB 2 (ns.foldl oText (l, e)).1 (ns.foldl oText (l, e)).2, 3⟩ := by
  refine glyph_Out_Text_tr (by simp [outB]) ?_
  simp only [glyph_Out_Text_J1, glyph_Out_Text_R0, glyph_Out_Text_J2, glyph_Out_Text_S, outB, go_sem, Int.reducePow, reduceIte, reduceCtorEq, Nat.reduceEqDiff, Nat.reduceLeDiff, Nat.reduceLT, Nat.reduceAdd, Nat.reduceSub, Nat.reduceMul, Nat.reduceBEq, Int.reduceToNat, Int.reduceLE, Int.reduceLT, Int.reduceAdd, Int.reduceSub, Int.reduceNeg, Int.reduceEq]
  refine lp_i (fun xs h k => ∃ i : Nat, xs = [.ref 0 0 0, .sls z ns, .int .i64 ns.length, .int .i64 i] ∧ h = ⟨outB 2 ((ns.take i).foldl oText (l, e)).1 ((ns.take i).foldl oText (l, e)).2, 3⟩ ∧ k = ns.length - i ∧ i ≤ ns.length)
    ⟨ns.length + 1, nx_i [] [0, 1, 1] [] ns.length rfl ⟨0, rfl, rfl, rfl, Nat.zero_le _⟩ ?_ ?_ (by rfl) (Nat.lt_succ_self _)⟩ ?_
  · simp only [outB, go_sem, Int.reducePow, reduceIte, reduceCtorEq, Nat.reduceEqDiff, Nat.reduceLeDiff, Nat.reduceLT, Nat.reduceAdd, Nat.reduceSub, Nat.reduceMul, Nat.reduceBEq, Int.reduceToNat, Int.reduceLE, Int.reduceLT, Int.reduceAdd, Int.reduceSub, Int.reduceNeg, Int.reduceEq]
  · simp only [outB, go_sem, Int.reducePow, reduceIte, reduceCtorEq, Nat.reduceEqDiff, Nat.reduceLeDiff, Nat.reduceLT, Nat.reduceAdd, Nat.reduceSub, Nat.reduceMul, Nat.reduceBEq, Int.reduceToNat, Int.reduceLE, Int.reduceLT, Int.reduceAdd, Int.reduceSub, Int.reduceNeg, Int.reduceEq, List.foldl_nil]
  rintro xs h k ⟨i, rfl, rfl, rfl, hi⟩
  have hb := oTexts_len (ns.take i) (l, e)
  simp only [List.length_take] at hb
  simp only [glyph_Out_Text_J1, glyph_Out_Text_R0, glyph_Out_Text_J2, glyph_Out_Text_B2, glyph_Out_Text_S, outB, go_sem, Int.reducePow, reduceIte, reduceCtorEq, Nat.reduceEqDiff, Nat.reduceLeDiff, Nat.reduceLT, Nat.reduceAdd, Nat.reduceSub, Nat.reduceMul, Nat.reduceBEq, Int.reduceToNat, Int.reduceLE, Int.reduceLT, Int.reduceAdd, Int.reduceSub, Int.reduceNeg, Int.reduceEq]
  split
  · rename_i hlt
    have hlt' : i < ns.length := by omega
    have hst := foldl_take oText (l, e) ns [] hlt'
    generalize (ns.take i).foldl oText (l, e) = s at *
    refine ⟨by omega, ?_⟩
    simp only [Int.toNat_natCast]
    obtain ⟨sl, se⟩ := s
    simp only at hb hst
    generalize ns.getD i [] = t at *
    by_cases h0 : se = 0
    · subst h0
      simp only [go_sem, Int.reducePow, reduceIte, reduceCtorEq, Nat.reduceEqDiff, Nat.reduceLeDiff, Nat.reduceLT, Nat.reduceAdd, Nat.reduceSub, Nat.reduceMul, Nat.reduceBEq, Int.reduceToNat, Int.reduceLE, Int.reduceLT, Int.reduceAdd, Int.reduceSub, Int.reduceNeg, Int.reduceEq]
      split
      · rename_i hbig
        have e1 : oText (sl, 0) t = (sl, 4) := by simp [oText, hbig]
        rw [e1] at hst
        (refine ecall_i [0, 2] [] (fail_tr sl 0 4) rfl (by (try simp only [outB, go_sem, Int.reducePow, reduceIte, reduceCtorEq, Nat.reduceEqDiff, Nat.reduceLeDiff, Nat.reduceLT, Nat.reduceAdd, Nat.reduceSub, Nat.reduceMul, Nat.reduceBEq, Int.reduceToNat, Int.reduceLE, Int.reduceLT, Int.reduceAdd, Int.reduceSub, Int.reduceNeg, Int.reduceEq]) <;> first | done | ((repeat' apply And.intro) <;> first | rfl | trivial | exact wkEs_refl _ | exact wkV_refl _ | (left; rfl) | (right; rfl))) (by (try simp only [outB, go_sem, Int.reducePow, reduceIte, reduceCtorEq, Nat.reduceEqDiff, Nat.reduceLeDiff, Nat.reduceLT, Nat.reduceAdd, Nat.reduceSub, Nat.reduceMul, Nat.reduceBEq, Int.reduceToNat, Int.reduceLE, Int.reduceLT, Int.reduceAdd, Int.reduceSub, Int.reduceNeg, Int.reduceEq]) <;> first | done | ((repeat' apply And.intro) <;> first | rfl | trivial | exact wkEs_refl _ | exact wkV_refl _ | (left; rfl) | (right; rfl))) ⟨rfl, rfl⟩ (by decide) ?_)
        simp only [outB, go_sem, Int.reducePow, reduceIte, reduceCtorEq, Nat.reduceEqDiff, Nat.reduceLeDiff, Nat.reduceLT, Nat.reduceAdd, Nat.reduceSub, Nat.reduceMul, Nat.reduceBEq, Int.reduceToNat, Int.reduceLE, Int.reduceLT, Int.reduceAdd, Int.reduceSub, Int.reduceNeg, Int.reduceEq]
        rw [add1w hlt' (by omega)]
        refine nx_i [] [0, 1, 3] [] (ns.length - (i + 1)) rfl ⟨i + 1, rfl, rfl, rfl, by omega⟩ ?_ ?_ (by rfl) (by omega)
        · simp only [outB, go_sem, Int.reducePow, reduceIte, reduceCtorEq, Nat.reduceEqDiff, Nat.reduceLeDiff, Nat.reduceLT, Nat.reduceAdd, Nat.reduceSub, Nat.reduceMul, Nat.reduceBEq, Int.reduceToNat, Int.reduceLE, Int.reduceLT, Int.reduceAdd, Int.reduceSub, Int.reduceNeg, Int.reduceEq]
        · simp only [outB, go_sem, Int.reducePow, reduceIte, reduceCtorEq, Nat.reduceEqDiff, Nat.reduceLeDiff, Nat.reduceLT, Nat.reduceAdd, Nat.reduceSub, Nat.reduceMul, Nat.reduceBEq, Int.reduceToNat, Int.reduceLE, Int.reduceLT, Int.reduceAdd, Int.reduceSub, Int.reduceNeg, Int.reduceEq, hst]
      · rename_i hbig
        have e1 : oText (sl, 0) t = (sl ++ (numB t.length ++ t), 0) := by simp [oText, hbig]
        rw [e1] at hst
        have h9 := numB_len9 (n := t.length) (by omega)
        (refine ecall_i [0, 2] [] (num_tr sl t.length (by omega) (by omega)) rfl (by (try simp only [outB, go_sem, Int.reducePow, reduceIte, reduceCtorEq, Nat.reduceEqDiff, Nat.reduceLeDiff, Nat.reduceLT, Nat.reduceAdd, Nat.reduceSub, Nat.reduceMul, Nat.reduceBEq, Int.reduceToNat, Int.reduceLE, Int.reduceLT, Int.reduceAdd, Int.reduceSub, Int.reduceNeg, Int.reduceEq]) <;> first | done | ((repeat' apply And.intro) <;> first | rfl | trivial | exact wkEs_refl _ | exact wkV_refl _ | (left; rfl) | (right; rfl))) (by (try simp only [outB, go_sem, Int.reducePow, reduceIte, reduceCtorEq, Nat.reduceEqDiff, Nat.reduceLeDiff, Nat.reduceLT, Nat.reduceAdd, Nat.reduceSub, Nat.reduceMul, Nat.reduceBEq, Int.reduceToNat, Int.reduceLE, Int.reduceLT, Int.reduceAdd, Int.reduceSub, Int.reduceNeg, Int.reduceEq]) <;> first | done | ((repeat' apply And.intro) <;> first | rfl | trivial | exact wkEs_refl _ | exact wkV_refl _ | (left; rfl) | (right; rfl))) ⟨rfl, rfl⟩ (by decide) ?_)
        simp only [outB, go_sem, Int.reducePow, reduceIte, reduceCtorEq, Nat.reduceEqDiff, Nat.reduceLeDiff, Nat.reduceLT, Nat.reduceAdd, Nat.reduceSub, Nat.reduceMul, Nat.reduceBEq, Int.reduceToNat, Int.reduceLE, Int.reduceLT, Int.reduceAdd, Int.reduceSub, Int.reduceNeg, Int.reduceEq]
        simp only [List.length_append]
        refine ⟨by omega, ?_⟩
        rw [add1w hlt' (by omega)]
        refine nx_i [] [0, 1, 4] [] (ns.length - (i + 1)) rfl ⟨i + 1, rfl, rfl, rfl, by omega⟩ ?_ ?_ (by rfl) (by omega)
        · simp only [outB, go_sem, Int.reducePow, reduceIte, reduceCtorEq, Nat.reduceEqDiff, Nat.reduceLeDiff, Nat.reduceLT, Nat.reduceAdd, Nat.reduceSub, Nat.reduceMul, Nat.reduceBEq, Int.reduceToNat, Int.reduceLE, Int.reduceLT, Int.reduceAdd, Int.reduceSub, Int.reduceNeg, Int.reduceEq]
        · simp only [outB, go_sem, Int.reducePow, reduceIte, reduceCtorEq, Nat.reduceEqDiff, Nat.reduceLeDiff, Nat.reduceLT, Nat.reduceAdd, Nat.reduceSub, Nat.reduceMul, Nat.reduceBEq, Int.reduceToNat, Int.reduceLE, Int.reduceLT, Int.reduceAdd, Int.reduceSub, Int.reduceNeg, Int.reduceEq, hst, List.append_assoc, List.length_append, Nat.add_assoc]
    · simp only [h0, go_sem, Int.reducePow, reduceIte, reduceCtorEq, Nat.reduceEqDiff, Nat.reduceLeDiff, Nat.reduceLT, Nat.reduceAdd, Nat.reduceSub, Nat.reduceMul, Nat.reduceBEq, Int.reduceToNat, Int.reduceLE, Int.reduceLT, Int.reduceAdd, Int.reduceSub, Int.reduceNeg, Int.reduceEq]
      rw [add1w hlt' (by omega)]
      have e1 : oText (sl, se) t = (sl, se) := by simp [oText, h0]
      rw [e1] at hst
      refine nx_i [] [0, 1, 2] [] (ns.length - (i + 1)) rfl ⟨i + 1, rfl, rfl, rfl, by omega⟩ ?_ ?_ (by rfl) (by omega)
      · simp only [outB, go_sem, Int.reducePow, reduceIte, reduceCtorEq, Nat.reduceEqDiff, Nat.reduceLeDiff, Nat.reduceLT, Nat.reduceAdd, Nat.reduceSub, Nat.reduceMul, Nat.reduceBEq, Int.reduceToNat, Int.reduceLE, Int.reduceLT, Int.reduceAdd, Int.reduceSub, Int.reduceNeg, Int.reduceEq]
      · simp only [outB, go_sem, Int.reducePow, reduceIte, reduceCtorEq, Nat.reduceEqDiff, Nat.reduceLeDiff, Nat.reduceLT, Nat.reduceAdd, Nat.reduceSub, Nat.reduceMul, Nat.reduceBEq, Int.reduceToNat, Int.reduceLE, Int.reduceLT, Int.reduceAdd, Int.reduceSub, Int.reduceNeg, Int.reduceEq, hst]
  · have : ns.take i = ns := List.take_of_length_le (by omega)
    rw [this]
    refine fin_i [] [0, 1, 2] [] rfl ?_ ?_ (by rfl) <;> simp only [outB, go_sem, Int.reducePow, reduceIte, reduceCtorEq, Nat.reduceEqDiff, Nat.reduceLeDiff, Nat.reduceLT, Nat.reduceAdd, Nat.reduceSub, Nat.reduceMul, Nat.reduceBEq, Int.reduceToNat, Int.reduceLE, Int.reduceLT, Int.reduceAdd, Int.reduceSub, Int.reduceNeg, Int.reduceEq]

def oRaw (s : List UInt8 × Int) (b : Option Bool × List UInt8) : List UInt8 × Int := if s.2 = 0 then (s.1 ++ b.2, 0) else s
def lens (bs : List (Option Bool × List UInt8)) : Nat := (bs.map fun b => b.2.length).sum
theorem oRaws_len : ∀ (ns : List (Option Bool × List UInt8)) (s : List UInt8 × Int), (ns.foldl oRaw s).1.length ≤ s.1.length + lens ns
  | [], s => by simp [lens]
  | n :: ns, s => by
    have h1 := oRaws_len ns (oRaw s n)
    have h2 : (oRaw s n).1.length ≤ s.1.length + n.2.length := by unfold oRaw; split <;> simp
    simp only [List.foldl_cons, lens, List.map_cons, List.sum_cons] at *; omega
theorem lens_take (bs : List (Option Bool × List UInt8)) (i : Nat) (h : i < bs.length) : lens (bs.take i) + (bs.getD i (none, [])).2.length ≤ lens bs := by
  have : bs = bs.take i ++ bs.getD i (none, []) :: bs.drop (i + 1) := by
    rw [List.getD_eq_getElem?_getD, List.getElem?_eq_getElem h]; simp
  conv => rhs; rw [this]
  simp only [lens, List.map_append, List.map_cons, List.sum_append, List.sum_cons]; omega
theorem getD_map {α β : Type} (f : α → β) (l : List α) (d : α) (e : β) {i : Nat} (h : i < l.length) : (l.map f).getD i e = f (l.getD i d) := by
  simp [List.getD_eq_getElem?_getD, h]

theorem Raw_tr (l : List UInt8) (e : Int) (z : Option Bool) (ns : List (Option Bool × List UInt8)) (hl : l.length + lens ns ≤ 70368744177664) (hn : ns.length ≤ 4611686018427387904) :
    TrOk Try.prog ⟨id_glyph_Out_Raw, [.ref 0 0 0, .sle z 1 (ns.map fun b => [.slb b.1 b.2])], outB 1 l e, 2, .ref 0 0 0, outB 2 (ns.foldl oRaw (l, e)).1 (ns.foldl oRaw (l, e)).2, 3⟩ := by
  refine glyph_Out_Raw_tr (by simp [outB]) ?_
  simp only [glyph_Out_Raw_J1, glyph_Out_Raw_R0, glyph_Out_Raw_J2, glyph_Out_Raw_S, outB, go_sem, Int.reducePow, reduceIte, reduceCtorEq, Nat.reduceEqDiff, Nat.reduceLeDiff, Nat.reduceLT, Nat.reduceAdd, Nat.reduceSub, Nat.reduceMul, Nat.reduceBEq, Int.reduceToNat, Int.reduceLE, Int.reduceLT, Int.reduceAdd, Int.reduceSub, Int.reduceNeg, Int.reduceEq]
  refine lp_i (fun xs h k => ∃ i : Nat, xs = [.ref 0 0 0, .sle z 1 (ns.map fun b => [.slb b.1 b.2]), .int .i64 ns.length, .int .i64 i] ∧ h = ⟨outB 2 ((ns.take i).foldl oRaw (l, e)).1 ((ns.take i).foldl oRaw (l, e)).2, 3⟩ ∧ k = ns.length - i ∧ i ≤ ns.length)
    ⟨ns.length + 1, nx_i [] [0, 1, 1] [] ns.length rfl ⟨0, rfl, rfl, rfl, Nat.zero_le _⟩ ?_ ?_ (by rfl) (Nat.lt_succ_self _)⟩ ?_
  · simp only [outB, go_sem, Int.reducePow, reduceIte, reduceCtorEq, Nat.reduceEqDiff, Nat.reduceLeDiff, Nat.reduceLT, Nat.reduceAdd, Nat.reduceSub, Nat.reduceMul, Nat.reduceBEq, Int.reduceToNat, Int.reduceLE, Int.reduceLT, Int.reduceAdd, Int.reduceSub, Int.reduceNeg, Int.reduceEq]
  · simp only [outB, go_sem, Int.reducePow, reduceIte, reduceCtorEq, Nat.reduceEqDiff, Nat.reduceLeDiff, Nat.reduceLT, Nat.reduceAdd, Nat.reduceSub, Nat.reduceMul, Nat.reduceBEq, Int.reduceToNat, Int.reduceLE, Int.reduceLT, Int.reduceAdd, Int.reduceSub, Int.reduceNeg, Int.reduceEq, List.foldl_nil]
  rintro xs h k ⟨i, rfl, rfl, rfl, hi⟩
  have hb := oRaws_len (ns.take i) (l, e)
  simp only at hb
  simp only [glyph_Out_Raw_J1, glyph_Out_Raw_R0, glyph_Out_Raw_J2, glyph_Out_Raw_B2, glyph_Out_Raw_S, outB, go_sem, Int.reducePow, reduceIte, reduceCtorEq, Nat.reduceEqDiff, Nat.reduceLeDiff, Nat.reduceLT, Nat.reduceAdd, Nat.reduceSub, Nat.reduceMul, Nat.reduceBEq, Int.reduceToNat, Int.reduceLE, Int.reduceLT, Int.reduceAdd, Int.reduceSub, Int.reduceNeg, Int.reduceEq]
  split
  · rename_i hlt
    have hlt' : i < ns.length := by omega
    have hst := foldl_take oRaw (l, e) ns (none, []) hlt'
    have hls := lens_take ns i hlt'
    simp only [Int.toNat_natCast, getD_map (fun b : Option Bool × List UInt8 => [V.slb b.1 b.2]) ns (none, []) [] hlt', go_sem, Int.reducePow, reduceIte, reduceCtorEq, Nat.reduceEqDiff, Nat.reduceLeDiff, Nat.reduceLT, Nat.reduceAdd, Nat.reduceSub, Nat.reduceMul, Nat.reduceBEq, Int.reduceToNat, Int.reduceLE, Int.reduceLT, Int.reduceAdd, Int.reduceSub, Int.reduceNeg, Int.reduceEq]
    generalize (ns.take i).foldl oRaw (l, e) = s at *
    refine ⟨by omega, ?_⟩
    obtain ⟨sl, se⟩ := s
    simp only at hb hst
    generalize ns.getD i (none, []) = t at *
    by_cases h0 : se = 0
    · subst h0
      have e1 : oRaw (sl, 0) t = (sl ++ t.2, 0) := by simp [oRaw]
      rw [e1] at hst
      simp only [go_sem, Int.reducePow, reduceIte, reduceCtorEq, Nat.reduceEqDiff, Nat.reduceLeDiff, Nat.reduceLT, Nat.reduceAdd, Nat.reduceSub, Nat.reduceMul, Nat.reduceBEq, Int.reduceToNat, Int.reduceLE, Int.reduceLT, Int.reduceAdd, Int.reduceSub, Int.reduceNeg, Int.reduceEq]
      simp only [List.length_append]
      refine ⟨by omega, ?_⟩
      rw [add1w hlt' hn]
      refine nx_i [] [0, 1, 3] [] (ns.length - (i + 1)) rfl ⟨i + 1, rfl, rfl, rfl, by omega⟩ ?_ ?_ (by rfl) (by omega)
      · simp only [outB, go_sem, Int.reducePow, reduceIte, reduceCtorEq, Nat.reduceEqDiff, Nat.reduceLeDiff, Nat.reduceLT, Nat.reduceAdd, Nat.reduceSub, Nat.reduceMul, Nat.reduceBEq, Int.reduceToNat, Int.reduceLE, Int.reduceLT, Int.reduceAdd, Int.reduceSub, Int.reduceNeg, Int.reduceEq]
      · simp only [outB, go_sem, Int.reducePow, reduceIte, reduceCtorEq, Nat.reduceEqDiff, Nat.reduceLeDiff, Nat.reduceLT, Nat.reduceAdd, Nat.reduceSub, Nat.reduceMul, Nat.reduceBEq, Int.reduceToNat, Int.reduceLE, Int.reduceLT, Int.reduceAdd, Int.reduceSub, Int.reduceNeg, Int.reduceEq, hst, List.length_append]
    · simp only [h0, go_sem, Int.reducePow, reduceIte, reduceCtorEq, Nat.reduceEqDiff, Nat.reduceLeDiff, Nat.reduceLT, Nat.reduceAdd, Nat.reduceSub, Nat.reduceMul, Nat.reduceBEq, Int.reduceToNat, Int.reduceLE, Int.reduceLT, Int.reduceAdd, Int.reduceSub, Int.reduceNeg, Int.reduceEq]
      rw [add1w hlt' hn]
      have e1 : oRaw (sl, se) t = (sl, se) := by simp [oRaw, h0]
      rw [e1] at hst
      refine nx_i [] [0, 1, 2] [] (ns.length - (i + 1)) rfl ⟨i + 1, rfl, rfl, rfl, by omega⟩ ?_ ?_ (by rfl) (by omega)
      · simp only [outB, go_sem, Int.reducePow, reduceIte, reduceCtorEq, Nat.reduceEqDiff, Nat.reduceLeDiff, Nat.reduceLT, Nat.reduceAdd, Nat.reduceSub, Nat.reduceMul, Nat.reduceBEq, Int.reduceToNat, Int.reduceLE, Int.reduceLT, Int.reduceAdd, Int.reduceSub, Int.reduceNeg, Int.reduceEq]
      · simp only [outB, go_sem, Int.reducePow, reduceIte, reduceCtorEq, Nat.reduceEqDiff, Nat.reduceLeDiff, Nat.reduceLT, Nat.reduceAdd, Nat.reduceSub, Nat.reduceMul, Nat.reduceBEq, Int.reduceToNat, Int.reduceLE, Int.reduceLT, Int.reduceAdd, Int.reduceSub, Int.reduceNeg, Int.reduceEq, hst]
  · have : ns.take i = ns := List.take_of_length_le (by omega)
    rw [this]
    refine fin_i [] [0, 1, 2] [] rfl ?_ ?_ (by rfl) <;> simp only [outB, go_sem, Int.reducePow, reduceIte, reduceCtorEq, Nat.reduceEqDiff, Nat.reduceLeDiff, Nat.reduceLT, Nat.reduceAdd, Nat.reduceSub, Nat.reduceMul, Nat.reduceBEq, Int.reduceToNat, Int.reduceLE, Int.reduceLT, Int.reduceAdd, Int.reduceSub, Int.reduceNeg, Int.reduceEq]

theorem Begin_tr (k : UInt8) : TrOk Try.prog ⟨id_glyph_Begin, [.int .u8 (k.toNat : Int)], [], 0, .ref 0 0 0, outB 1 [72, 89, k] 0, 2⟩ := by
  refine glyph_Begin_tr (by simp [outB]) ?_
  have := k.toNat_lt
  simp only [glyph_Begin_S, outB, go_sem, Int.reducePow, reduceIte, reduceCtorEq, Nat.reduceEqDiff, Nat.reduceLeDiff, Nat.reduceLT, Nat.reduceAdd, Nat.reduceSub, Nat.reduceMul, Nat.reduceBEq, Int.reduceToNat, Int.reduceLE, Int.reduceLT, Int.reduceAdd, Int.reduceSub, Int.reduceNeg, Int.reduceEq]
  refine ⟨by omega, fin_i [] [3, 2] [] rfl ?_ ?_ (by rfl)⟩ <;> simp only [outB, go_sem, Int.reducePow, reduceIte, reduceCtorEq, Nat.reduceEqDiff, Nat.reduceLeDiff, Nat.reduceLT, Nat.reduceAdd, Nat.reduceSub, Nat.reduceMul, Nat.reduceBEq, Int.reduceToNat, Int.reduceLE, Int.reduceLT, Int.reduceAdd, Int.reduceSub, Int.reduceNeg, Int.reduceEq, Int.toNat_natCast, UInt8.ofNat_toNat]
  rfl

theorem Clone_tr (z : Option Bool) (l : List UInt8) (hl : l.length ≤ 140737488355328) : TrOk Try.prog ⟨id_bytes_Clone, [.slb z l], [], 0, .own 0 1 0 l.length, [(0, .row 1 (.bytes l))], 1⟩ := by
  have yes : TrOk Try.prog ⟨id_bytes_Clone, [.slb (some true) l], [], 0, .own 0 1 0 l.length, [(0, .row 1 (.bytes l))], 1⟩ := by
    refine bytes_Clone_tr (by simp) ?_
    simp only [bytes_Clone_S, go_sem, Int.reducePow, reduceIte, reduceCtorEq, Nat.reduceEqDiff, Nat.reduceLeDiff, Nat.reduceLT, Nat.reduceAdd, Nat.reduceSub, Nat.reduceMul, Nat.reduceBEq, Int.reduceToNat, Int.reduceLE, Int.reduceLT, Int.reduceAdd, Int.reduceSub, Int.reduceNeg, Int.reduceEq]
    refine ⟨hl, fin_i [] [1] [] rfl ?_ ?_ (by rfl)⟩ <;> simp only [go_sem, Int.reducePow, reduceIte, reduceCtorEq, Nat.reduceEqDiff, Nat.reduceLeDiff, Nat.reduceLT, Nat.reduceAdd, Nat.reduceSub, Nat.reduceMul, Nat.reduceBEq, Int.reduceToNat, Int.reduceLE, Int.reduceLT, Int.reduceAdd, Int.reduceSub, Int.reduceNeg, Int.reduceEq]
  by_cases h : l = []
  · subst h
    refine tr_cases (pre := []) (post := []) (.slb (some true) []) [.slb (some false) []] (slb_cases z []) (fun v' hm => ?_)
    rcases List.mem_cons.1 hm with rfl | hm
    · exact yes
    · rw [List.mem_singleton.1 hm]
      refine bytes_Clone_tr (by simp) ?_
      simp only [bytes_Clone_S, go_sem, Int.reducePow, reduceIte, reduceCtorEq, Nat.reduceEqDiff, Nat.reduceLeDiff, Nat.reduceLT, Nat.reduceAdd, Nat.reduceSub, Nat.reduceMul, Nat.reduceBEq, Int.reduceToNat, Int.reduceLE, Int.reduceLT, Int.reduceAdd, Int.reduceSub, Int.reduceNeg, Int.reduceEq]
      refine fin_i [(1, .byte)] [0] [] rfl ?_ ?_ (by rfl) <;> simp only [go_sem, Int.reducePow, reduceIte, reduceCtorEq, Nat.reduceEqDiff, Nat.reduceLeDiff, Nat.reduceLT, Nat.reduceAdd, Nat.reduceSub, Nat.reduceMul, Nat.reduceBEq, Int.reduceToNat, Int.reduceLE, Int.reduceLT, Int.reduceAdd, Int.reduceSub, Int.reduceNeg, Int.reduceEq]
  · refine tr_cases (pre := []) (post := []) (.slb (some true) l) [] (slb_cases0 z l h) (fun v' hm => ?_)
    rw [List.mem_singleton.1 hm]; exact yes

/-- The bytes; the Out is not used any more. -/
theorem Bytes_tr (l : List UInt8) (hl : l.length ≤ 140737488355328) : TrOk Try.prog ⟨id_glyph_Out_Bytes, [.ref 0 0 0], outB 1 l 0, 2, .tup [.own 2 1 0 l.length, .int .i64 0], [(2, .row 1 (.bytes l))], 3⟩ := by
  refine glyph_Out_Bytes_tr (by simp) ?_
  simp only [glyph_Out_Bytes_S, outB, go_sem, Int.reducePow, reduceIte, reduceCtorEq, Nat.reduceEqDiff, Nat.reduceLeDiff, Nat.reduceLT, Nat.reduceAdd, Nat.reduceSub, Nat.reduceMul, Nat.reduceBEq, Int.reduceToNat, Int.reduceLE, Int.reduceLT, Int.reduceAdd, Int.reduceSub, Int.reduceNeg, Int.reduceEq]
  (refine ecall_i [] [1] (Clone_tr none l hl) rfl (by (try simp only [go_sem, Int.reducePow, reduceIte, reduceCtorEq, Nat.reduceEqDiff, Nat.reduceLeDiff, Nat.reduceLT, Nat.reduceAdd, Nat.reduceSub, Nat.reduceMul, Nat.reduceBEq, Int.reduceToNat, Int.reduceLE, Int.reduceLT, Int.reduceAdd, Int.reduceSub, Int.reduceNeg, Int.reduceEq]) <;> first | done | ((repeat' apply And.intro) <;> first | rfl | trivial | exact wkEs_refl _ | exact wkV_refl _ | (left; rfl) | (right; rfl))) (by (try simp only [go_sem, Int.reducePow, reduceIte, reduceCtorEq, Nat.reduceEqDiff, Nat.reduceLeDiff, Nat.reduceLT, Nat.reduceAdd, Nat.reduceSub, Nat.reduceMul, Nat.reduceBEq, Int.reduceToNat, Int.reduceLE, Int.reduceLT, Int.reduceAdd, Int.reduceSub, Int.reduceNeg, Int.reduceEq]) <;> first | done | ((repeat' apply And.intro) <;> first | rfl | trivial | exact wkEs_refl _ | exact wkV_refl _ | (left; rfl) | (right; rfl))) ⟨rfl, rfl⟩ (by decide) ?_)
  simp only [go_sem, Int.reducePow, reduceIte, reduceCtorEq, Nat.reduceEqDiff, Nat.reduceLeDiff, Nat.reduceLT, Nat.reduceAdd, Nat.reduceSub, Nat.reduceMul, Nat.reduceBEq, Int.reduceToNat, Int.reduceLE, Int.reduceLT, Int.reduceAdd, Int.reduceSub, Int.reduceNeg, Int.reduceEq]
  refine fin_i [] [0, 1, 2] [] rfl ?_ ?_ (by rfl) <;> simp only [go_sem, Int.reducePow, reduceIte, reduceCtorEq, Nat.reduceEqDiff, Nat.reduceLeDiff, Nat.reduceLT, Nat.reduceAdd, Nat.reduceSub, Nat.reduceMul, Nat.reduceBEq, Int.reduceToNat, Int.reduceLE, Int.reduceLT, Int.reduceAdd, Int.reduceSub, Int.reduceNeg, Int.reduceEq]
theorem BytesE_tr (l : List UInt8) (e : Int) (he : e ≠ 0) : TrOk Try.prog ⟨id_glyph_Out_Bytes, [.ref 0 0 0], outB 1 l e, 2, .tup [.nils, .int .i64 e], [], 2⟩ := by
  refine glyph_Out_Bytes_tr (by simp) ?_
  simp only [glyph_Out_Bytes_S, outB, go_sem, Int.reducePow, reduceIte, reduceCtorEq, Nat.reduceEqDiff, Nat.reduceLeDiff, Nat.reduceLT, Nat.reduceAdd, Nat.reduceSub, Nat.reduceMul, Nat.reduceBEq, Int.reduceToNat, Int.reduceLE, Int.reduceLT, Int.reduceAdd, Int.reduceSub, Int.reduceNeg, Int.reduceEq, he]
  refine fin_i [] [0, 1] [] rfl ?_ ?_ (by rfl) <;> simp only [go_sem, Int.reducePow, reduceIte, reduceCtorEq, Nat.reduceEqDiff, Nat.reduceLeDiff, Nat.reduceLT, Nat.reduceAdd, Nat.reduceSub, Nat.reduceMul, Nat.reduceBEq, Int.reduceToNat, Int.reduceLE, Int.reduceLT, Int.reduceAdd, Int.reduceSub, Int.reduceNeg, Int.reduceEq]

theorem flatten_len : ∀ {ns : List (List UInt8)}, (∀ x ∈ ns, x.length = 32) → ns.flatten.length = 32 * ns.length
  | [], _ => rfl
  | x :: ns, h => by
    have h1 := h x List.mem_cons_self
    have h2 := flatten_len (ns := ns) (fun y hy => h y (List.mem_cons_of_mem _ hy))
    simp only [List.flatten_cons, List.length_append, List.length_cons, h1, h2]; omega
theorem flatten_take (ns : List (List UInt8)) {i : Nat} (h : i < ns.length) : (ns.take (i + 1)).flatten = (ns.take i).flatten ++ ns.getD i [] := by
  rw [List.take_succ_eq_append_getElem h, List.flatten_append, List.getD_eq_getElem?_getD, List.getElem?_eq_getElem h]; simp

/-- node.ids: the names of pieces. -/
theorem ids_tr (l : List UInt8) (z : Option Bool) (ns : List (List UInt8)) (hns : ∀ x ∈ ns, x.length = 32) (hl : l.length + 32 * ns.length ≤ 70368744177664) :
    TrOk Try.prog ⟨id_node_ids, [.ref 0 0 0, .sle z 32 (ns.map fun x => [.byt 32 x])], outB 1 l 0, 2, .tup [], outB 2 (l ++ ns.flatten) 0, 3⟩ := by
  refine node_ids_tr (by simp [outB]) ?_
  simp only [node_ids_J0, node_ids_S, outB, go_sem, Int.reducePow, reduceIte, reduceCtorEq, Nat.reduceEqDiff, Nat.reduceLeDiff, Nat.reduceLT, Nat.reduceAdd, Nat.reduceSub, Nat.reduceMul, Nat.reduceBEq, Int.reduceToNat, Int.reduceLE, Int.reduceLT, Int.reduceAdd, Int.reduceSub, Int.reduceNeg, Int.reduceEq]
  refine lp_i (fun xs h k => ∃ i : Nat, xs = [.ref 0 0 0, .sle z 32 (ns.map fun x => [.byt 32 x]), .int .i64 ns.length, .int .i64 i] ∧ h = ⟨outB 2 (l ++ (ns.take i).flatten) 0, 3⟩ ∧ k = ns.length - i ∧ i ≤ ns.length)
    ⟨ns.length + 1, nx_i [] [0, 1, 1] [] ns.length rfl ⟨0, rfl, rfl, rfl, Nat.zero_le _⟩ ?_ ?_ (by rfl) (Nat.lt_succ_self _)⟩ ?_
  · simp only [outB, go_sem, Int.reducePow, reduceIte, reduceCtorEq, Nat.reduceEqDiff, Nat.reduceLeDiff, Nat.reduceLT, Nat.reduceAdd, Nat.reduceSub, Nat.reduceMul, Nat.reduceBEq, Int.reduceToNat, Int.reduceLE, Int.reduceLT, Int.reduceAdd, Int.reduceSub, Int.reduceNeg, Int.reduceEq]
  · simp only [outB, go_sem, Int.reducePow, reduceIte, reduceCtorEq, Nat.reduceEqDiff, Nat.reduceLeDiff, Nat.reduceLT, Nat.reduceAdd, Nat.reduceSub, Nat.reduceMul, Nat.reduceBEq, Int.reduceToNat, Int.reduceLE, Int.reduceLT, Int.reduceAdd, Int.reduceSub, Int.reduceNeg, Int.reduceEq, List.flatten_nil]
  rintro xs h k ⟨i, rfl, rfl, rfl, hi⟩
  have hb := flatten_len (ns := ns.take i) (fun x hx => hns x (List.mem_of_mem_take hx))
  simp only [List.length_take] at hb
  simp only [node_ids_J0, node_ids_B1, node_ids_S, outB, go_sem, Int.reducePow, reduceIte, reduceCtorEq, Nat.reduceEqDiff, Nat.reduceLeDiff, Nat.reduceLT, Nat.reduceAdd, Nat.reduceSub, Nat.reduceMul, Nat.reduceBEq, Int.reduceToNat, Int.reduceLE, Int.reduceLT, Int.reduceAdd, Int.reduceSub, Int.reduceNeg, Int.reduceEq]
  split
  · rename_i hlt
    have hlt' : i < ns.length := by omega
    have hst := flatten_take ns hlt'
    simp only [Int.toNat_natCast, getD_map (fun x : List UInt8 => [V.byt 32 x]) ns [] [] hlt', go_sem, Int.reducePow, reduceIte, reduceCtorEq, Nat.reduceEqDiff, Nat.reduceLeDiff, Nat.reduceLT, Nat.reduceAdd, Nat.reduceSub, Nat.reduceMul, Nat.reduceBEq, Int.reduceToNat, Int.reduceLE, Int.reduceLT, Int.reduceAdd, Int.reduceSub, Int.reduceNeg, Int.reduceEq]
    have h32 : (ns.getD i []).length = 32 := by
      rw [List.getD_eq_getElem?_getD, List.getElem?_eq_getElem hlt']; exact hns _ (List.getElem_mem _)
    generalize ns.getD i [] = t at *
    have ht : t.take 32 = t := List.take_of_length_le (by omega)
    refine ⟨by omega, ?_⟩
    simp only [ht, go_sem, Int.reducePow, reduceIte, reduceCtorEq, Nat.reduceEqDiff, Nat.reduceLeDiff, Nat.reduceLT, Nat.reduceAdd, Nat.reduceSub, Nat.reduceMul, Nat.reduceBEq, Int.reduceToNat, Int.reduceLE, Int.reduceLT, Int.reduceAdd, Int.reduceSub, Int.reduceNeg, Int.reduceEq]
    (refine ecall_i [0, 2] [4] (Raw_tr (l ++ (ns.take i).flatten) 0 none [(some true, t)] (by simp only [lens, List.map_cons, List.map_nil, List.sum_cons, List.sum_nil, List.length_append]; omega) (by simp)) rfl (by (try simp only [outB, go_sem, Int.reducePow, reduceIte, reduceCtorEq, Nat.reduceEqDiff, Nat.reduceLeDiff, Nat.reduceLT, Nat.reduceAdd, Nat.reduceSub, Nat.reduceMul, Nat.reduceBEq, Int.reduceToNat, Int.reduceLE, Int.reduceLT, Int.reduceAdd, Int.reduceSub, Int.reduceNeg, Int.reduceEq]) <;> first | done | ((repeat' apply And.intro) <;> first | rfl | trivial | exact wkEs_refl _ | exact wkV_refl _ | (left; rfl) | (right; rfl))) (by (try simp only [outB, go_sem, Int.reducePow, reduceIte, reduceCtorEq, Nat.reduceEqDiff, Nat.reduceLeDiff, Nat.reduceLT, Nat.reduceAdd, Nat.reduceSub, Nat.reduceMul, Nat.reduceBEq, Int.reduceToNat, Int.reduceLE, Int.reduceLT, Int.reduceAdd, Int.reduceSub, Int.reduceNeg, Int.reduceEq]) <;> first | done | ((repeat' apply And.intro) <;> first | rfl | trivial | exact wkEs_refl _ | exact wkV_refl _ | (left; rfl) | (right; rfl))) ⟨rfl, rfl⟩ (by decide) ?_)
    simp only [outB, oRaw, List.foldl_cons, List.foldl_nil, go_sem, Int.reducePow, reduceIte, reduceCtorEq, Nat.reduceEqDiff, Nat.reduceLeDiff, Nat.reduceLT, Nat.reduceAdd, Nat.reduceSub, Nat.reduceMul, Nat.reduceBEq, Int.reduceToNat, Int.reduceLE, Int.reduceLT, Int.reduceAdd, Int.reduceSub, Int.reduceNeg, Int.reduceEq]
    rw [add1w hlt' (by omega)]
    refine nx_i [] [0, 1, 5] [] (ns.length - (i + 1)) rfl ⟨i + 1, rfl, rfl, rfl, by omega⟩ ?_ ?_ (by rfl) (by omega)
    · simp only [outB, go_sem, Int.reducePow, reduceIte, reduceCtorEq, Nat.reduceEqDiff, Nat.reduceLeDiff, Nat.reduceLT, Nat.reduceAdd, Nat.reduceSub, Nat.reduceMul, Nat.reduceBEq, Int.reduceToNat, Int.reduceLE, Int.reduceLT, Int.reduceAdd, Int.reduceSub, Int.reduceNeg, Int.reduceEq]
    · simp only [outB, go_sem, Int.reducePow, reduceIte, reduceCtorEq, Nat.reduceEqDiff, Nat.reduceLeDiff, Nat.reduceLT, Nat.reduceAdd, Nat.reduceSub, Nat.reduceMul, Nat.reduceBEq, Int.reduceToNat, Int.reduceLE, Int.reduceLT, Int.reduceAdd, Int.reduceSub, Int.reduceNeg, Int.reduceEq, hst, List.append_assoc]
  · have : ns.take i = ns := List.take_of_length_le (by omega)
    rw [this]
    refine fin_i [] [0, 1, 2] [] rfl ?_ ?_ (by rfl) <;> simp only [outB, go_sem, Int.reducePow, reduceIte, reduceCtorEq, Nat.reduceEqDiff, Nat.reduceLeDiff, Nat.reduceLT, Nat.reduceAdd, Nat.reduceSub, Nat.reduceMul, Nat.reduceBEq, Int.reduceToNat, Int.reduceLE, Int.reduceLT, Int.reduceAdd, Int.reduceSub, Int.reduceNeg, Int.reduceEq]

end Go.Proofs.Ytmgjmdlmnbjaiaa.A
