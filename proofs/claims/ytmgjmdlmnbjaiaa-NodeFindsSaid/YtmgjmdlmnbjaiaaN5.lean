/- Part of the proof: what functions of the program do, step by step. No condition of its own. -/
import Derived.Test.YtmgjmdlmnbjaiaaN4
import Derived.Test.YtmgjmdlmnbjaiaaS2
import Derived.Test.YtmgjmdlmnbjaiaaS6
set_option linter.unusedSimpArgs false
namespace Go.Proofs.Ytmgjmdlmnbjaiaa.A
open Go Go.AM

theorem refCheck_tr (n : Nd) (z : Option Bool) : Pu Try.prog id_ref07_Check [.agg (n.segs z)] (.int .i64 n.check) := by
  refine ref07_Check_tr nok ?_
  simp only [ref07_Check_S, Nd.segs, go_sem, Int.reducePow, reduceIte, reduceCtorEq, Nat.reduceEqDiff, Nat.reduceLeDiff, Nat.reduceLT, Nat.reduceAdd, Nat.reduceSub, Nat.reduceMul, Nat.reduceBEq, Int.reduceToNat, Int.reduceLE, Int.reduceLT, Int.reduceAdd, Int.reduceSub, Int.reduceNeg, Int.reduceEq, zs]
  have nil : n.target = [] → n.target.length = 0 := fun h => by rw [h]; rfl
  (refine ecall_pu (refIsName_tr _) (by (try simp only [go_sem, Int.reducePow, reduceIte, reduceCtorEq, Nat.reduceEqDiff, Nat.reduceLeDiff, Nat.reduceLT, Nat.reduceAdd, Nat.reduceSub, Nat.reduceMul, Nat.reduceBEq, Int.reduceToNat, Int.reduceLE, Int.reduceLT, Int.reduceAdd, Int.reduceSub, Int.reduceNeg, Int.reduceEq]) <;> first | done | ((repeat' apply And.intro) <;> first | rfl | trivial | exact wkEs_refl _ | exact wkV_refl _ | (left; rfl) | (right; rfl))) ?_)
  simp (maxSteps := 2000000) only [ref07_Check_J2, ref07_Check_R0, ref07_Check_S, go_sem, Int.reducePow, reduceIte, reduceCtorEq, Nat.reduceEqDiff, Nat.reduceLeDiff, Nat.reduceLT, Nat.reduceAdd, Nat.reduceSub, Nat.reduceMul, Nat.reduceBEq, Int.reduceToNat, Int.reduceLE, Int.reduceLT, Int.reduceAdd, Int.reduceSub, Int.reduceNeg, Int.reduceEq]
  repeat' (refine iteI (fun _ => ?_) (fun _ => ?_))
  all_goals first | (refine fin_eq ?_; grind [Nd.check, Nd.Fits]) | trace_state

theorem refNum_tr (n : Nat) (hn : n < 9223372036854775808) : Pu Try.prog id_ref06_Num [.int .i64 n] (.str (numB n)) := by
  refine ref06_Num_tr nok ?_
  simp only [ref06_Num_J0, ref06_Num_S, go_sem, Int.reducePow, reduceIte, reduceCtorEq, Nat.reduceEqDiff, Nat.reduceLeDiff, Nat.reduceLT, Nat.reduceAdd, Nat.reduceSub, Nat.reduceMul, Nat.reduceBEq, Int.reduceToNat, Int.reduceLE, Int.reduceLT, Int.reduceAdd, Int.reduceSub, Int.reduceNeg, Int.reduceEq]
  refine lp_0 (fun xs k => ∃ (j : Nat) (p : List UInt8), xs = [.int .i64 j, .str p] ∧ k = j ∧ p ++ numB j = numB n ∧ j ≤ n) n ⟨n, [], rfl, rfl, rfl, Nat.le_refl _⟩ ?_
  rintro xs k ⟨j, p, rfl, rfl, hp, hj⟩
  have hlen : p.length + (numB k).length ≤ 9 := by rw [← List.length_append, hp]; exact numB_len9 hn
  have hpos := numB_pos k
  have et : ((k : Int)).tmod 128 = ((k % 128 : Nat) : Int) := rfl
  have ed : ((k : Int)).tdiv 128 = ((k / 128 : Nat) : Int) := rfl
  have e1 : IntKind.wrap .i64 (((k % 128 : Nat) : Int) + 128) = ((k % 128 + 128 : Nat) : Int) := by rw [w64 (by omega) (by omega)]; rfl
  have e2 : IntKind.wrap .i64 ((k / 128 : Nat) : Int) = ((k / 128 : Nat) : Int) := w64 (by omega) (by omega)
  have e3 : (k % 128 + 128) % 256 = k % 128 + 128 := by omega
  simp only [ref06_Num_J0, ref06_Num_B2, ref06_Num_S, go_sem, Int.reducePow, reduceIte, reduceCtorEq, Nat.reduceEqDiff, Nat.reduceLeDiff, Nat.reduceLT, Nat.reduceAdd, Nat.reduceSub, Nat.reduceMul, Nat.reduceBEq, Int.reduceToNat, Int.reduceLE, Int.reduceLT, Int.reduceAdd, Int.reduceSub, Int.reduceNeg, Int.reduceEq, et, ed, e1, e2, wu8, e3, Int.toNat_natCast]
  split
  · rename_i h1
    rw [numB_ge (by omega)] at hp
    exact ⟨by omega, by omega, nx0 ⟨k / 128, p ++ [UInt8.ofNat (k % 128 + 128)], rfl, rfl, by rw [← hp]; simp, by omega⟩ (by omega)⟩
  · rename_i h1
    rw [numB_lt (by omega)] at hp
    refine ⟨by omega, by omega, fin_eq ?_⟩
    rw [Nat.mod_eq_of_lt (by omega), hp]

theorem refText_tr (t : List UInt8) (ht : t.length < 9223372036854775000) : Pu Try.prog id_ref06_Text [.str t] (.str (numB t.length ++ t)) := by
  refine ref06_Text_tr nok ?_
  simp only [ref06_Text_S, go_sem, Int.reducePow, reduceIte, reduceCtorEq, Nat.reduceEqDiff, Nat.reduceLeDiff, Nat.reduceLT, Nat.reduceAdd, Nat.reduceSub, Nat.reduceMul, Nat.reduceBEq, Int.reduceToNat, Int.reduceLE, Int.reduceLT, Int.reduceAdd, Int.reduceSub, Int.reduceNeg, Int.reduceEq]
  (refine ecall_pu (refNum_tr t.length (by omega)) (by (try simp only [go_sem, Int.reducePow, reduceIte, reduceCtorEq, Nat.reduceEqDiff, Nat.reduceLeDiff, Nat.reduceLT, Nat.reduceAdd, Nat.reduceSub, Nat.reduceMul, Nat.reduceBEq, Int.reduceToNat, Int.reduceLE, Int.reduceLT, Int.reduceAdd, Int.reduceSub, Int.reduceNeg, Int.reduceEq]) <;> first | done | ((repeat' apply And.intro) <;> first | rfl | trivial | exact wkEs_refl _ | exact wkV_refl _ | (left; rfl) | (right; rfl))) ?_)
  have := numB_len9 (n := t.length) (by omega)
  simp only [go_sem, Int.reducePow, reduceIte, reduceCtorEq, Nat.reduceEqDiff, Nat.reduceLeDiff, Nat.reduceLT, Nat.reduceAdd, Nat.reduceSub, Nat.reduceMul, Nat.reduceBEq, Int.reduceToNat, Int.reduceLE, Int.reduceLT, Int.reduceAdd, Int.reduceSub, Int.reduceNeg, Int.reduceEq]
  refine ⟨by omega, fin_eq rfl⟩

theorem refBegin_tr (k : UInt8) : Pu Try.prog id_ref06_Begin [.int .u8 (k.toNat : Int)] (.str [72, 89, k]) := by
  refine ref06_Begin_tr nok ?_
  have := k.toNat_lt
  simp only [ref06_Begin_S, go_sem, Int.reducePow, reduceIte, reduceCtorEq, Nat.reduceEqDiff, Nat.reduceLeDiff, Nat.reduceLT, Nat.reduceAdd, Nat.reduceSub, Nat.reduceMul, Nat.reduceBEq, Int.reduceToNat, Int.reduceLE, Int.reduceLT, Int.reduceAdd, Int.reduceSub, Int.reduceNeg, Int.reduceEq, Int.toNat_natCast, UInt8.ofNat_toNat]
  exact ⟨by omega, fin_eq rfl⟩
end Go.Proofs.Ytmgjmdlmnbjaiaa.A
