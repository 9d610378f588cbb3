/- Part of the proof: what functions of the program do, step by step. No condition of its own. -/
import Derived.Test.YtmgjmdlmnbjaiaaN1
import Derived.Test.YtmgjmdlmnbjaiaaN2
import Derived.Test.YtmgjmdlmnbjaiaaS5
import Derived.Test.YtmgjmdlmnbjaiaaS4
set_option linter.unusedSimpArgs false
namespace Go.Proofs.Ytmgjmdlmnbjaiaa.A
open Go Go.AM

structure Nd.Ok (n : Nd) : Prop where
  parts : ∀ x ∈ n.parts, x.length = 32
  tree : n.tree.length = 32
def Nd.tail (n : Nd) : List UInt8 :=
  if n.kind = 0 then numB n.size.toNat ++ (numB n.parts.length ++ n.parts.flatten)
  else if n.kind = 1 then n.tree
  else if n.kind = 2 then numB n.target.length ++ n.target else []
def Nd.bytes (n : Nd) : List UInt8 := numB n.name.length ++ (n.name ++ (numB n.kind.toNat ++ (numB n.mode.toNat ++ (numB n.time.toNat ++ n.tail))))

theorem oNum_ok (l : List UInt8) {n : Int} (h0 : 0 ≤ n) (h1 : n < 4611686018427387904) : oNum (l, 0) n = (l ++ numB n.toNat, 0) := by
  unfold oNum; rw [if_pos rfl, if_neg (by omega)]
theorem oText_ok (l t : List UInt8) (h : (t.length : Int) ≤ 131072) : oText (l, 0) t = (l ++ (numB t.length ++ t), 0) := by
  unfold oText; rw [if_pos rfl, if_neg (by omega)]
theorem check_ok {n : Nd} (h : n.check = 0) : IsName n.name ∧ 0 ≤ n.mode ∧ n.mode ≤ 4095 ∧ 0 ≤ n.time ∧ n.time ≤ 1099511627776 ∧ n.Fits := by
  unfold Nd.check at h
  grind

theorem putD {vals : List V} {b0 : List (Nat × Blk)} (l : List UInt8) (n : Nd) (z : Option Bool) (hn : n.Ok) (hc : n.check = 0) (hl : l.length + 67108864 ≤ 70368744177664) :
    node_Node_put_D1 (FinT ⟨id_node_Node_put, vals, b0, 2, .tup [], outB 2 (l ++ n.tail) 0, 3⟩) 2 (.ref 0 0 0) (.ref 2 0 0) ⟨[(2, .var (n.segs z)), (6, .row 1 (.bytes l)), (0, .var [.own 6 1 0 l.length, .int .i64 0])], 7⟩ := by
  generalize hK : FinT _ = K
  have hck := (check_ok hc).2.2.2.2.2
  have hp := hn.parts
  have ht := hn.tree
  simp only [node_Node_put_U1, node_Node_put_J2, node_Node_put_D1, node_Node_put_S, Nd.segs, zs, go_sem, Int.reducePow, reduceIte, reduceCtorEq, Nat.reduceEqDiff, Nat.reduceLeDiff, Nat.reduceLT, Nat.reduceAdd, Nat.reduceSub, Nat.reduceMul, Nat.reduceBEq, Int.reduceToNat, Int.reduceLE, Int.reduceLT, Int.reduceAdd, Int.reduceSub, Int.reduceNeg, Int.reduceEq]
  unfold Nd.Fits at hck
  by_cases h0 : n.kind = 0
  · rw [if_pos h0]
    have hf : 0 ≤ n.size ∧ n.size ≤ 1048576 ∧ (n.parts.length : Int) ≤ n.size := by omega
    have e1 := oNum_ok l (n := n.size) (by omega) (by omega)
    have e2 := oNum_ok (l ++ numB n.size.toNat) (n := (n.parts.length : Int)) (by omega) (by omega)
    rw [Int.toNat_natCast] at e2
    have b1 := numB_len9 (n := n.size.toNat) (by omega)
    have b2 := numB_len9 (n := n.parts.length) (by omega)
    have et : n.tail = numB n.size.toNat ++ (numB n.parts.length ++ n.parts.flatten) := by unfold Nd.tail; rw [if_pos h0]
    (refine ecall_i [0, 6] [7] (Num_tr l 0 none [n.size, n.parts.length] (by simp only [List.length_cons, List.length_nil]; omega)) rfl (by (try simp only [outB, go_sem, Int.reducePow, reduceIte, reduceCtorEq, Nat.reduceEqDiff, Nat.reduceLeDiff, Nat.reduceLT, Nat.reduceAdd, Nat.reduceSub, Nat.reduceMul, Nat.reduceBEq, Int.reduceToNat, Int.reduceLE, Int.reduceLT, Int.reduceAdd, Int.reduceSub, Int.reduceNeg, Int.reduceEq]) <;> first | done | ((repeat' apply And.intro) <;> first | rfl | trivial | exact wkEs_refl _ | exact wkV_refl _ | (left; rfl) | (right; rfl))) (by (try simp only [outB, go_sem, Int.reducePow, reduceIte, reduceCtorEq, Nat.reduceEqDiff, Nat.reduceLeDiff, Nat.reduceLT, Nat.reduceAdd, Nat.reduceSub, Nat.reduceMul, Nat.reduceBEq, Int.reduceToNat, Int.reduceLE, Int.reduceLT, Int.reduceAdd, Int.reduceSub, Int.reduceNeg, Int.reduceEq]) <;> first | done | ((repeat' apply And.intro) <;> first | rfl | trivial | exact wkEs_refl _ | exact wkV_refl _ | (left; rfl) | (right; rfl))) ⟨rfl, rfl⟩ (by decide) ?_)
    simp only [outB, List.foldl_cons, List.foldl_nil, e1, e2, go_sem, Int.reducePow, reduceIte, reduceCtorEq, Nat.reduceEqDiff, Nat.reduceLeDiff, Nat.reduceLT, Nat.reduceAdd, Nat.reduceSub, Nat.reduceMul, Nat.reduceBEq, Int.reduceToNat, Int.reduceLE, Int.reduceLT, Int.reduceAdd, Int.reduceSub, Int.reduceNeg, Int.reduceEq]
    (refine ecall_i [0, 8] [] (ids_tr (l ++ numB n.size.toNat ++ numB n.parts.length) z n.parts hp (by simp only [List.length_append]; omega)) rfl (by (try simp only [outB, go_sem, Int.reducePow, reduceIte, reduceCtorEq, Nat.reduceEqDiff, Nat.reduceLeDiff, Nat.reduceLT, Nat.reduceAdd, Nat.reduceSub, Nat.reduceMul, Nat.reduceBEq, Int.reduceToNat, Int.reduceLE, Int.reduceLT, Int.reduceAdd, Int.reduceSub, Int.reduceNeg, Int.reduceEq]) <;> first | done | ((repeat' apply And.intro) <;> first | rfl | trivial | exact wkEs_refl _ | exact wkV_refl _ | (left; rfl) | (right; rfl))) (by (try simp only [outB, go_sem, Int.reducePow, reduceIte, reduceCtorEq, Nat.reduceEqDiff, Nat.reduceLeDiff, Nat.reduceLT, Nat.reduceAdd, Nat.reduceSub, Nat.reduceMul, Nat.reduceBEq, Int.reduceToNat, Int.reduceLE, Int.reduceLT, Int.reduceAdd, Int.reduceSub, Int.reduceNeg, Int.reduceEq]) <;> first | done | ((repeat' apply And.intro) <;> first | rfl | trivial | exact wkEs_refl _ | exact wkV_refl _ | (left; rfl) | (right; rfl))) ⟨rfl, rfl⟩ (by decide) ?_)
    simp only [outB, go_sem, Int.reducePow, reduceIte, reduceCtorEq, Nat.reduceEqDiff, Nat.reduceLeDiff, Nat.reduceLT, Nat.reduceAdd, Nat.reduceSub, Nat.reduceMul, Nat.reduceBEq, Int.reduceToNat, Int.reduceLE, Int.reduceLT, Int.reduceAdd, Int.reduceSub, Int.reduceNeg, Int.reduceEq]
    subst hK
    refine fin_i [] [0, 1, 9] [] rfl ?_ ?_ (by rfl) <;> simp only [outB, et, List.append_assoc, go_sem, Int.reducePow, reduceIte, reduceCtorEq, Nat.reduceEqDiff, Nat.reduceLeDiff, Nat.reduceLT, Nat.reduceAdd, Nat.reduceSub, Nat.reduceMul, Nat.reduceBEq, Int.reduceToNat, Int.reduceLE, Int.reduceLT, Int.reduceAdd, Int.reduceSub, Int.reduceNeg, Int.reduceEq]
  · rw [if_neg h0]
    by_cases h1 : n.kind = 1
    · rw [if_pos h1]
      have et : n.tail = n.tree := by unfold Nd.tail; rw [if_neg h0, if_pos h1]
      (refine ecall_i [0, 6] [7] (ids_tr l none [n.tree] (by simp only [List.mem_singleton]; rintro x rfl; exact ht) (by simp only [List.length_cons, List.length_nil]; omega)) rfl (by (try simp only [outB, go_sem, Int.reducePow, reduceIte, reduceCtorEq, Nat.reduceEqDiff, Nat.reduceLeDiff, Nat.reduceLT, Nat.reduceAdd, Nat.reduceSub, Nat.reduceMul, Nat.reduceBEq, Int.reduceToNat, Int.reduceLE, Int.reduceLT, Int.reduceAdd, Int.reduceSub, Int.reduceNeg, Int.reduceEq]) <;> first | done | ((repeat' apply And.intro) <;> first | rfl | trivial | exact wkEs_refl _ | exact wkV_refl _ | (left; rfl) | (right; rfl))) (by (try simp only [outB, go_sem, Int.reducePow, reduceIte, reduceCtorEq, Nat.reduceEqDiff, Nat.reduceLeDiff, Nat.reduceLT, Nat.reduceAdd, Nat.reduceSub, Nat.reduceMul, Nat.reduceBEq, Int.reduceToNat, Int.reduceLE, Int.reduceLT, Int.reduceAdd, Int.reduceSub, Int.reduceNeg, Int.reduceEq]) <;> first | done | ((repeat' apply And.intro) <;> first | rfl | trivial | exact wkEs_refl _ | exact wkV_refl _ | (left; rfl) | (right; rfl))) ⟨rfl, rfl⟩ (by decide) ?_)
      simp only [outB, go_sem, Int.reducePow, reduceIte, reduceCtorEq, Nat.reduceEqDiff, Nat.reduceLeDiff, Nat.reduceLT, Nat.reduceAdd, Nat.reduceSub, Nat.reduceMul, Nat.reduceBEq, Int.reduceToNat, Int.reduceLE, Int.reduceLT, Int.reduceAdd, Int.reduceSub, Int.reduceNeg, Int.reduceEq]
      subst hK
      refine fin_i [] [0, 1, 8] [] rfl ?_ ?_ (by rfl) <;> simp only [outB, et, List.flatten_cons, List.flatten_nil, List.append_assoc, go_sem, Int.reducePow, reduceIte, reduceCtorEq, Nat.reduceEqDiff, Nat.reduceLeDiff, Nat.reduceLT, Nat.reduceAdd, Nat.reduceSub, Nat.reduceMul, Nat.reduceBEq, Int.reduceToNat, Int.reduceLE, Int.reduceLT, Int.reduceAdd, Int.reduceSub, Int.reduceNeg, Int.reduceEq]
    · have h2 : n.kind = 2 := by omega
      rw [if_neg h1, if_pos h2]
      have et : n.tail = numB n.target.length ++ n.target := by unfold Nd.tail; rw [if_neg h0, if_neg h1, if_pos h2]
      have hf : 1 ≤ (n.target.length : Int) ∧ (n.target.length : Int) ≤ 4095 := by omega
      have e1 := oText_ok l n.target (by omega)
      (refine ecall_i [0, 6] [7] (Text_tr l 0 none [n.target] (by simp only [List.length_cons, List.length_nil]; omega)) rfl (by (try simp only [outB, go_sem, Int.reducePow, reduceIte, reduceCtorEq, Nat.reduceEqDiff, Nat.reduceLeDiff, Nat.reduceLT, Nat.reduceAdd, Nat.reduceSub, Nat.reduceMul, Nat.reduceBEq, Int.reduceToNat, Int.reduceLE, Int.reduceLT, Int.reduceAdd, Int.reduceSub, Int.reduceNeg, Int.reduceEq]) <;> first | done | ((repeat' apply And.intro) <;> first | rfl | trivial | exact wkEs_refl _ | exact wkV_refl _ | (left; rfl) | (right; rfl))) (by (try simp only [outB, go_sem, Int.reducePow, reduceIte, reduceCtorEq, Nat.reduceEqDiff, Nat.reduceLeDiff, Nat.reduceLT, Nat.reduceAdd, Nat.reduceSub, Nat.reduceMul, Nat.reduceBEq, Int.reduceToNat, Int.reduceLE, Int.reduceLT, Int.reduceAdd, Int.reduceSub, Int.reduceNeg, Int.reduceEq]) <;> first | done | ((repeat' apply And.intro) <;> first | rfl | trivial | exact wkEs_refl _ | exact wkV_refl _ | (left; rfl) | (right; rfl))) ⟨rfl, rfl⟩ (by decide) ?_)
      simp only [outB, List.foldl_cons, List.foldl_nil, e1, go_sem, Int.reducePow, reduceIte, reduceCtorEq, Nat.reduceEqDiff, Nat.reduceLeDiff, Nat.reduceLT, Nat.reduceAdd, Nat.reduceSub, Nat.reduceMul, Nat.reduceBEq, Int.reduceToNat, Int.reduceLE, Int.reduceLT, Int.reduceAdd, Int.reduceSub, Int.reduceNeg, Int.reduceEq]
      subst hK
      refine fin_i [] [0, 1, 8] [] rfl ?_ ?_ (by rfl) <;> simp only [outB, et, List.append_assoc, go_sem, Int.reducePow, reduceIte, reduceCtorEq, Nat.reduceEqDiff, Nat.reduceLeDiff, Nat.reduceLT, Nat.reduceAdd, Nat.reduceSub, Nat.reduceMul, Nat.reduceBEq, Int.reduceToNat, Int.reduceLE, Int.reduceLT, Int.reduceAdd, Int.reduceSub, Int.reduceNeg, Int.reduceEq]

theorem put_tr (l : List UInt8) (n : Nd) (z : Option Bool) (hn : n.Ok) (hc : n.check = 0) (hl : l.length + 134217728 ≤ 70368744177664) :
    TrOk Try.prog ⟨id_node_Node_put, [.agg (n.segs z), .ref 0 0 0], outB 1 l 0, 2, .tup [], outB 2 (l ++ n.bytes) 0, 3⟩ := by
  refine node_Node_put_tr (by simp [outB]) ?_
  have hck := check_ok hc
  generalize hK : FinT _ = K
  simp only [node_Node_put_S, outB, Nd.segs, zs, go_sem, Int.reducePow, reduceIte, reduceCtorEq, Nat.reduceEqDiff, Nat.reduceLeDiff, Nat.reduceLT, Nat.reduceAdd, Nat.reduceSub, Nat.reduceMul, Nat.reduceBEq, Int.reduceToNat, Int.reduceLE, Int.reduceLT, Int.reduceAdd, Int.reduceSub, Int.reduceNeg, Int.reduceEq]
  have e1 : oText (l, 0) n.name = (l ++ (numB n.name.length ++ n.name), 0) := oText_ok _ _ (by have := hck.1.2.1; omega)
  have hkd : 0 ≤ n.kind ∧ n.kind ≤ 2 := by have := hck.2.2.2.2.2; unfold Nd.Fits at this; omega
  have e2 := oNum_ok (l ++ (numB n.name.length ++ n.name)) (n := n.kind) (by omega) (by omega)
  have e3 := oNum_ok (l ++ (numB n.name.length ++ n.name) ++ numB n.kind.toNat) (n := n.mode) (by omega) (by omega)
  have e4 := oNum_ok (l ++ (numB n.name.length ++ n.name) ++ numB n.kind.toNat ++ numB n.mode.toNat) (n := n.time) (by omega) (by omega)
  have hnm := hck.1.2.1
  have b1 := numB_len9 (n := n.name.length) (by omega)
  have b2 := numB_len9 (n := n.kind.toNat) (by omega)
  have b3 := numB_len9 (n := n.mode.toNat) (by omega)
  have b4 := numB_len9 (n := n.time.toNat) (by omega)
  have fin := putD (vals := [.agg (n.segs z), .ref 0 0 0]) (b0 := outB 1 l 0) (l ++ (numB n.name.length ++ n.name) ++ numB n.kind.toNat ++ numB n.mode.toNat ++ numB n.time.toNat) n z hn hc (by simp only [List.length_append]; omega)
  have eb : l ++ (numB n.name.length ++ n.name) ++ numB n.kind.toNat ++ numB n.mode.toNat ++ numB n.time.toNat ++ n.tail = l ++ n.bytes := by simp only [Nd.bytes, List.append_assoc]
  rw [eb, hK] at fin
  refine ⟨?_, ?_, ?_⟩
  · (refine ecallD_i [0, 1] [3] (Text_tr l 0 none [n.name] (by simp only [List.length_cons, List.length_nil]; omega)) rfl (by (try simp only [outB, go_sem, Int.reducePow, reduceIte, reduceCtorEq, Nat.reduceEqDiff, Nat.reduceLeDiff, Nat.reduceLT, Nat.reduceAdd, Nat.reduceSub, Nat.reduceMul, Nat.reduceBEq, Int.reduceToNat, Int.reduceLE, Int.reduceLT, Int.reduceAdd, Int.reduceSub, Int.reduceNeg, Int.reduceEq]) <;> first | done | ((repeat' apply And.intro) <;> first | rfl | trivial | exact wkEs_refl _ | exact wkV_refl _ | (left; rfl) | (right; rfl))) (by (try simp only [outB, go_sem, Int.reducePow, reduceIte, reduceCtorEq, Nat.reduceEqDiff, Nat.reduceLeDiff, Nat.reduceLT, Nat.reduceAdd, Nat.reduceSub, Nat.reduceMul, Nat.reduceBEq, Int.reduceToNat, Int.reduceLE, Int.reduceLT, Int.reduceAdd, Int.reduceSub, Int.reduceNeg, Int.reduceEq]) <;> first | done | ((repeat' apply And.intro) <;> first | rfl | trivial | exact wkEs_refl _ | exact wkV_refl _ | (left; rfl) | (right; rfl))) ⟨rfl, rfl⟩ (by decide) ?_)
    simp only [outB, List.foldl_cons, List.foldl_nil, e1, go_sem, Int.reducePow, reduceIte, reduceCtorEq, Nat.reduceEqDiff, Nat.reduceLeDiff, Nat.reduceLT, Nat.reduceAdd, Nat.reduceSub, Nat.reduceMul, Nat.reduceBEq, Int.reduceToNat, Int.reduceLE, Int.reduceLT, Int.reduceAdd, Int.reduceSub, Int.reduceNeg, Int.reduceEq]
    (refine ecallD_i [0, 4] [5] (Num_tr (l ++ (numB n.name.length ++ n.name)) 0 none [n.kind, n.mode, n.time] (by simp only [List.length_append, List.length_cons, List.length_nil]; omega)) rfl (by (try simp only [outB, go_sem, Int.reducePow, reduceIte, reduceCtorEq, Nat.reduceEqDiff, Nat.reduceLeDiff, Nat.reduceLT, Nat.reduceAdd, Nat.reduceSub, Nat.reduceMul, Nat.reduceBEq, Int.reduceToNat, Int.reduceLE, Int.reduceLT, Int.reduceAdd, Int.reduceSub, Int.reduceNeg, Int.reduceEq]) <;> first | done | ((repeat' apply And.intro) <;> first | rfl | trivial | exact wkEs_refl _ | exact wkV_refl _ | (left; rfl) | (right; rfl))) (by (try simp only [outB, go_sem, Int.reducePow, reduceIte, reduceCtorEq, Nat.reduceEqDiff, Nat.reduceLeDiff, Nat.reduceLT, Nat.reduceAdd, Nat.reduceSub, Nat.reduceMul, Nat.reduceBEq, Int.reduceToNat, Int.reduceLE, Int.reduceLT, Int.reduceAdd, Int.reduceSub, Int.reduceNeg, Int.reduceEq]) <;> first | done | ((repeat' apply And.intro) <;> first | rfl | trivial | exact wkEs_refl _ | exact wkV_refl _ | (left; rfl) | (right; rfl))) ⟨rfl, rfl⟩ (by decide) ?_)
    refine ⟨indep_of (by rfl), ?_⟩
    simp only [outB, List.foldl_cons, List.foldl_nil, e2, e3, e4, go_sem, Int.reducePow, reduceIte, reduceCtorEq, Nat.reduceEqDiff, Nat.reduceLeDiff, Nat.reduceLT, Nat.reduceAdd, Nat.reduceSub, Nat.reduceMul, Nat.reduceBEq, Int.reduceToNat, Int.reduceLE, Int.reduceLT, Int.reduceAdd, Int.reduceSub, Int.reduceNeg, Int.reduceEq]
    simpa only [Nd.segs, zs] using fin
  · (refine ecallD_i [0, 1] [3] (Text_tr l 0 none [n.name] (by simp only [List.length_cons, List.length_nil]; omega)) rfl (by (try simp only [outB, go_sem, Int.reducePow, reduceIte, reduceCtorEq, Nat.reduceEqDiff, Nat.reduceLeDiff, Nat.reduceLT, Nat.reduceAdd, Nat.reduceSub, Nat.reduceMul, Nat.reduceBEq, Int.reduceToNat, Int.reduceLE, Int.reduceLT, Int.reduceAdd, Int.reduceSub, Int.reduceNeg, Int.reduceEq]) <;> first | done | ((repeat' apply And.intro) <;> first | rfl | trivial | exact wkEs_refl _ | exact wkV_refl _ | (left; rfl) | (right; rfl))) (by (try simp only [outB, go_sem, Int.reducePow, reduceIte, reduceCtorEq, Nat.reduceEqDiff, Nat.reduceLeDiff, Nat.reduceLT, Nat.reduceAdd, Nat.reduceSub, Nat.reduceMul, Nat.reduceBEq, Int.reduceToNat, Int.reduceLE, Int.reduceLT, Int.reduceAdd, Int.reduceSub, Int.reduceNeg, Int.reduceEq]) <;> first | done | ((repeat' apply And.intro) <;> first | rfl | trivial | exact wkEs_refl _ | exact wkV_refl _ | (left; rfl) | (right; rfl))) ⟨rfl, rfl⟩ (by decide) ?_)
    simp only [outB, List.foldl_cons, List.foldl_nil, e1, go_sem, Int.reducePow, reduceIte, reduceCtorEq, Nat.reduceEqDiff, Nat.reduceLeDiff, Nat.reduceLT, Nat.reduceAdd, Nat.reduceSub, Nat.reduceMul, Nat.reduceBEq, Int.reduceToNat, Int.reduceLE, Int.reduceLT, Int.reduceAdd, Int.reduceSub, Int.reduceNeg, Int.reduceEq]
    (refine ecallD_i [0, 5] [4] (Num_tr (l ++ (numB n.name.length ++ n.name)) 0 none [n.kind, n.mode, n.time] (by simp only [List.length_append, List.length_cons, List.length_nil]; omega)) rfl (by (try simp only [outB, go_sem, Int.reducePow, reduceIte, reduceCtorEq, Nat.reduceEqDiff, Nat.reduceLeDiff, Nat.reduceLT, Nat.reduceAdd, Nat.reduceSub, Nat.reduceMul, Nat.reduceBEq, Int.reduceToNat, Int.reduceLE, Int.reduceLT, Int.reduceAdd, Int.reduceSub, Int.reduceNeg, Int.reduceEq]) <;> first | done | ((repeat' apply And.intro) <;> first | rfl | trivial | exact wkEs_refl _ | exact wkV_refl _ | (left; rfl) | (right; rfl))) (by (try simp only [outB, go_sem, Int.reducePow, reduceIte, reduceCtorEq, Nat.reduceEqDiff, Nat.reduceLeDiff, Nat.reduceLT, Nat.reduceAdd, Nat.reduceSub, Nat.reduceMul, Nat.reduceBEq, Int.reduceToNat, Int.reduceLE, Int.reduceLT, Int.reduceAdd, Int.reduceSub, Int.reduceNeg, Int.reduceEq]) <;> first | done | ((repeat' apply And.intro) <;> first | rfl | trivial | exact wkEs_refl _ | exact wkV_refl _ | (left; rfl) | (right; rfl))) ⟨rfl, rfl⟩ (by decide) ?_)
    refine ⟨indep_of (by rfl), ?_⟩
    simp only [outB, List.foldl_cons, List.foldl_nil, e2, e3, e4, go_sem, Int.reducePow, reduceIte, reduceCtorEq, Nat.reduceEqDiff, Nat.reduceLeDiff, Nat.reduceLT, Nat.reduceAdd, Nat.reduceSub, Nat.reduceMul, Nat.reduceBEq, Int.reduceToNat, Int.reduceLE, Int.reduceLT, Int.reduceAdd, Int.reduceSub, Int.reduceNeg, Int.reduceEq]
    simpa only [Nd.segs, zs] using fin
  · (refine ecallD_i [0, 1] [4] (Text_tr l 0 none [n.name] (by simp only [List.length_cons, List.length_nil]; omega)) rfl (by (try simp only [outB, go_sem, Int.reducePow, reduceIte, reduceCtorEq, Nat.reduceEqDiff, Nat.reduceLeDiff, Nat.reduceLT, Nat.reduceAdd, Nat.reduceSub, Nat.reduceMul, Nat.reduceBEq, Int.reduceToNat, Int.reduceLE, Int.reduceLT, Int.reduceAdd, Int.reduceSub, Int.reduceNeg, Int.reduceEq]) <;> first | done | ((repeat' apply And.intro) <;> first | rfl | trivial | exact wkEs_refl _ | exact wkV_refl _ | (left; rfl) | (right; rfl))) (by (try simp only [outB, go_sem, Int.reducePow, reduceIte, reduceCtorEq, Nat.reduceEqDiff, Nat.reduceLeDiff, Nat.reduceLT, Nat.reduceAdd, Nat.reduceSub, Nat.reduceMul, Nat.reduceBEq, Int.reduceToNat, Int.reduceLE, Int.reduceLT, Int.reduceAdd, Int.reduceSub, Int.reduceNeg, Int.reduceEq]) <;> first | done | ((repeat' apply And.intro) <;> first | rfl | trivial | exact wkEs_refl _ | exact wkV_refl _ | (left; rfl) | (right; rfl))) ⟨rfl, rfl⟩ (by decide) ?_)
    simp only [outB, List.foldl_cons, List.foldl_nil, e1, go_sem, Int.reducePow, reduceIte, reduceCtorEq, Nat.reduceEqDiff, Nat.reduceLeDiff, Nat.reduceLT, Nat.reduceAdd, Nat.reduceSub, Nat.reduceMul, Nat.reduceBEq, Int.reduceToNat, Int.reduceLE, Int.reduceLT, Int.reduceAdd, Int.reduceSub, Int.reduceNeg, Int.reduceEq]
    (refine ecallD_i [0, 5] [3] (Num_tr (l ++ (numB n.name.length ++ n.name)) 0 none [n.kind, n.mode, n.time] (by simp only [List.length_append, List.length_cons, List.length_nil]; omega)) rfl (by (try simp only [outB, go_sem, Int.reducePow, reduceIte, reduceCtorEq, Nat.reduceEqDiff, Nat.reduceLeDiff, Nat.reduceLT, Nat.reduceAdd, Nat.reduceSub, Nat.reduceMul, Nat.reduceBEq, Int.reduceToNat, Int.reduceLE, Int.reduceLT, Int.reduceAdd, Int.reduceSub, Int.reduceNeg, Int.reduceEq]) <;> first | done | ((repeat' apply And.intro) <;> first | rfl | trivial | exact wkEs_refl _ | exact wkV_refl _ | (left; rfl) | (right; rfl))) (by (try simp only [outB, go_sem, Int.reducePow, reduceIte, reduceCtorEq, Nat.reduceEqDiff, Nat.reduceLeDiff, Nat.reduceLT, Nat.reduceAdd, Nat.reduceSub, Nat.reduceMul, Nat.reduceBEq, Int.reduceToNat, Int.reduceLE, Int.reduceLT, Int.reduceAdd, Int.reduceSub, Int.reduceNeg, Int.reduceEq]) <;> first | done | ((repeat' apply And.intro) <;> first | rfl | trivial | exact wkEs_refl _ | exact wkV_refl _ | (left; rfl) | (right; rfl))) ⟨rfl, rfl⟩ (by decide) ?_)
    refine ⟨indep_of (by rfl), ?_⟩
    simp only [outB, List.foldl_cons, List.foldl_nil, e2, e3, e4, go_sem, Int.reducePow, reduceIte, reduceCtorEq, Nat.reduceEqDiff, Nat.reduceLeDiff, Nat.reduceLT, Nat.reduceAdd, Nat.reduceSub, Nat.reduceMul, Nat.reduceBEq, Int.reduceToNat, Int.reduceLE, Int.reduceLT, Int.reduceAdd, Int.reduceSub, Int.reduceNeg, Int.reduceEq]
    simpa only [Nd.segs, zs] using fin

instance : Inhabited Nd := ⟨⟨[], 0, 0, 0, 0, [], [], zero32⟩⟩
theorem bytes_len {n : Nd} (hn : n.Ok) (hc : n.check = 0) : n.bytes.length ≤ 33600000 := by
  have hck := check_ok hc
  have hnm := hck.1.2.1
  have hf := hck.2.2.2.2.2
  unfold Nd.Fits at hf
  have b1 := numB_len9 (n := n.name.length) (by omega)
  have b2 := numB_len9 (n := n.kind.toNat) (by omega)
  have b3 := numB_len9 (n := n.mode.toNat) (by omega)
  have b4 := numB_len9 (n := n.time.toNat) (by omega)
  have bt : n.tail.length ≤ 33554500 := by
    unfold Nd.tail
    split
    · have b1 := numB_len9 (n := n.size.toNat) (by omega)
      have b2 := numB_len9 (n := n.parts.length) (by omega)
      simp only [List.length_append, flatten_len hn.parts]; omega
    · split
      · rw [hn.tree]; omega
      · split
        · have b1 := numB_len9 (n := n.target.length) (by omega)
          simp only [List.length_append]; omega
        · simp
  simp only [Nd.bytes, List.length_append]; omega

/-- Is the second name not behind the first? -/
def nle (a b : Nd) : Bool := Op.bytesLess b.name a.name || decide (b.name = a.name)
def encB (l : List Nd) : List UInt8 := [72, 89, 110] ++ (numB l.length ++ l.flatMap Nd.bytes)
def encode (l : List Nd) : List UInt8 × Int :=
  if 2000 < l.length then ([], 4)
  else match l.find? fun n => n.check != 0 with
    | some n => ([], n.check)
    | none => if nbrs nle l = true then (encB l, 0) else ([], 2)
def nds (l : List Nd) : List (List V) := l.map (Nd.segs none)

end Go.Proofs.Ytmgjmdlmnbjaiaa.A
