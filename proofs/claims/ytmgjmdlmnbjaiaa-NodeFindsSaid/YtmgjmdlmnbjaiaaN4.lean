/- Part of the proof: what functions of the program do, step by step. No condition of its own. -/
import Derived.Test.YtmgjmdlmnbjaiaaN3
set_option linter.unusedSimpArgs false
namespace Go.Proofs.Ytmgjmdlmnbjaiaa.A
open Go Go.AM

theorem encode_ord {l : List Nd} (h1 : ¬ 2000 < l.length) (h2 : ∀ j, j < l.length → (l.getD j default).check = 0) {i : Nat} (h0 : 0 < i) (hi : i < l.length) (h : nle (l.getD (i - 1) default) (l.getD i default) = true) : encode l = ([], 2) := by
  unfold encode
  rw [if_neg h1, find_none _ default l (fun j hj => by show ((l.getD j default).check != 0) = false; rw [h2 j hj]; rfl)]
  have : ¬ nbrs nle l = true := fun hn => by
    have := (nbrs_iff nle default l).1 hn (i - 1) (by omega)
    rw [show i - 1 + 1 = i by omega, h] at this; cases this
  simp only; rw [if_neg this]
theorem encode_good {l : List Nd} (h1 : ¬ 2000 < l.length) (h2 : ∀ j, j < l.length → (l.getD j default).check = 0) (h : ∀ i, i + 1 < l.length → nle (l.getD i default) (l.getD (i + 1) default) = false) : encode l = (encB l, 0) := by
  unfold encode
  rw [if_neg h1, find_none _ default l (fun j hj => by show ((l.getD j default).check != 0) = false; rw [h2 j hj]; rfl)]
  simp only; rw [if_pos ((nbrs_iff nle default l).2 h)]
theorem flatMap_len (l : List Nd) (hl : ∀ n ∈ l, n.Ok) (hc : ∀ n ∈ l, n.check = 0) : (l.flatMap Nd.bytes).length ≤ 33600000 * l.length := by
  induction l with
  | nil => simp
  | cons n l ih =>
    have h1 := bytes_len (hl n List.mem_cons_self) (hc n List.mem_cons_self)
    have h2 := ih (fun x hx => hl x (List.mem_cons_of_mem _ hx)) (fun x hx => hc x (List.mem_cons_of_mem _ hx))
    simp only [List.flatMap_cons, List.length_append, List.length_cons]; omega

theorem Encode_tr (ha : HasAny) (l : List Nd) (z : Option Bool) (hl : ∀ n ∈ l, n.Ok) :
    TrOk Try.prog ⟨id_node_Encode, [.sle z 39 (nds l)], [], 0, .tup [.own 0 1 0 (encode l).1.length, .int .i64 (encode l).2], [(0, .row 1 (.bytes (encode l).1))], 1⟩ := by
  refine node_Encode_tr (by simp) ?_
  generalize hK : FinT _ = K
  have bad : ∀ (e : Int) (h : H), encode l = ([], e) → K (.tup [.nils, .int .i64 e]) h := by
    intro e h he
    subst hK
    obtain ⟨b, n⟩ := h
    rw [he]
    refine fin_i [(1, .byte)] [n] [] rfl ?_ ?_ (by rfl) <;> simp only [go_sem, Int.reducePow, reduceIte, reduceCtorEq, Nat.reduceEqDiff, Nat.reduceLeDiff, Nat.reduceLT, Nat.reduceAdd, Nat.reduceSub, Nat.reduceMul, Nat.reduceBEq, Int.reduceToNat, Int.reduceLE, Int.reduceLT, Int.reduceAdd, Int.reduceSub, Int.reduceNeg, Int.reduceEq]
  simp only [node_Encode_S, nds, go_sem, Int.reducePow, reduceIte, reduceCtorEq, Nat.reduceEqDiff, Nat.reduceLeDiff, Nat.reduceLT, Nat.reduceAdd, Nat.reduceSub, Nat.reduceMul, Nat.reduceBEq, Int.reduceToNat, Int.reduceLE, Int.reduceLT, Int.reduceAdd, Int.reduceSub, Int.reduceNeg, Int.reduceEq]
  split
  · exact bad _ _ (by unfold encode; rw [if_pos (by omega)])
  rename_i hbig
  have hbig : ¬ 2000 < l.length := by omega
  refine lp_0 (fun xs k => ∃ i : Nat, xs = [.sle z 39 (l.map (Nd.segs none)), .sle z 39 (l.map (Nd.segs none)), .int .i64 l.length, .int .i64 i] ∧ k = l.length - i ∧ i ≤ l.length ∧ ∀ j, j < i → (l.getD j default).check = 0) l.length ⟨0, rfl, rfl, Nat.zero_le _, fun j hj => absurd hj (Nat.not_lt_zero _)⟩ ?_
  rintro xs k ⟨i, rfl, rfl, hi, hck⟩
  simp only [node_Encode_B4, go_sem, Int.reducePow, reduceIte, reduceCtorEq, Nat.reduceEqDiff, Nat.reduceLeDiff, Nat.reduceLT, Nat.reduceAdd, Nat.reduceSub, Nat.reduceMul, Nat.reduceBEq, Int.reduceToNat, Int.reduceLE, Int.reduceLT, Int.reduceAdd, Int.reduceSub, Int.reduceNeg, Int.reduceEq]
  split
  · rename_i hlt
    have hlt' : i < l.length := by omega
    simp only [Int.toNat_natCast, getD_map (Nd.segs none) l default [] hlt', Nd.segs, zs, go_sem, Int.reducePow, reduceIte, reduceCtorEq, Nat.reduceEqDiff, Nat.reduceLeDiff, Nat.reduceLT, Nat.reduceAdd, Nat.reduceSub, Nat.reduceMul, Nat.reduceBEq, Int.reduceToNat, Int.reduceLE, Int.reduceLT, Int.reduceAdd, Int.reduceSub, Int.reduceNeg, Int.reduceEq]
    refine ⟨by omega, ?_⟩
    (refine ecall_pu (check_tr ha (l.getD i default) none) (by (try simp only [go_sem, Int.reducePow, reduceIte, reduceCtorEq, Nat.reduceEqDiff, Nat.reduceLeDiff, Nat.reduceLT, Nat.reduceAdd, Nat.reduceSub, Nat.reduceMul, Nat.reduceBEq, Int.reduceToNat, Int.reduceLE, Int.reduceLT, Int.reduceAdd, Int.reduceSub, Int.reduceNeg, Int.reduceEq]) <;> first | done | ((repeat' apply And.intro) <;> first | rfl | trivial | exact wkEs_refl _ | exact wkV_refl _ | (left; rfl) | (right; rfl))) ?_)
    simp only [go_sem, Int.reducePow, reduceIte, reduceCtorEq, Nat.reduceEqDiff, Nat.reduceLeDiff, Nat.reduceLT, Nat.reduceAdd, Nat.reduceSub, Nat.reduceMul, Nat.reduceBEq, Int.reduceToNat, Int.reduceLE, Int.reduceLT, Int.reduceAdd, Int.reduceSub, Int.reduceNeg, Int.reduceEq]
    split
    · rename_i hne
      refine bad _ _ ?_
      unfold encode
      rw [if_neg hbig, find_first (fun n : Nd => n.check != 0) default l i hlt' (fun j hj => by show ((l.getD j default).check != 0) = false; rw [hck j hj]; rfl) (by show ((l.getD i default).check != 0) = true; rw [bne_iff_ne]; simpa using hne)]
    · rename_i hne
      rw [add1w hlt' (by omega)]
      refine nx0 ⟨i + 1, rfl, rfl, hlt', fun j hj => ?_⟩ (by omega)
      by_cases e : j = i
      · subst e; simpa using hne
      · exact hck j (by omega)
  · rename_i hge
    have hil : i = l.length := by omega
    subst hil
    clear hge hi
    have hck' : ∀ n ∈ l, n.check = 0 := by
      intro n hn
      obtain ⟨j, hj, rfl⟩ := List.getElem_of_mem hn
      have := hck j hj
      rwa [List.getD_eq_getElem?_getD, List.getElem?_eq_getElem hj] at this
    simp only [node_Encode_J0, go_sem, Int.reducePow, reduceIte, reduceCtorEq, Nat.reduceEqDiff, Nat.reduceLeDiff, Nat.reduceLT, Nat.reduceAdd, Nat.reduceSub, Nat.reduceMul, Nat.reduceBEq, Int.reduceToNat, Int.reduceLE, Int.reduceLT, Int.reduceAdd, Int.reduceSub, Int.reduceNeg, Int.reduceEq]
    (refine ecall_i [] [] (Begin_tr 110) rfl (by (try simp only [outB, go_sem, Int.reducePow, reduceIte, reduceCtorEq, Nat.reduceEqDiff, Nat.reduceLeDiff, Nat.reduceLT, Nat.reduceAdd, Nat.reduceSub, Nat.reduceMul, Nat.reduceBEq, Int.reduceToNat, Int.reduceLE, Int.reduceLT, Int.reduceAdd, Int.reduceSub, Int.reduceNeg, Int.reduceEq]) <;> first | done | ((repeat' apply And.intro) <;> first | rfl | trivial | exact wkEs_refl _ | exact wkV_refl _ | (left; rfl) | (right; rfl))) (by (try simp only [outB, go_sem, Int.reducePow, reduceIte, reduceCtorEq, Nat.reduceEqDiff, Nat.reduceLeDiff, Nat.reduceLT, Nat.reduceAdd, Nat.reduceSub, Nat.reduceMul, Nat.reduceBEq, Int.reduceToNat, Int.reduceLE, Int.reduceLT, Int.reduceAdd, Int.reduceSub, Int.reduceNeg, Int.reduceEq]) <;> first | done | ((repeat' apply And.intro) <;> first | rfl | trivial | exact wkEs_refl _ | exact wkV_refl _ | (left; rfl) | (right; rfl))) ⟨rfl, rfl⟩ (by decide) ?_)
    simp only [outB, go_sem, Int.reducePow, reduceIte, reduceCtorEq, Nat.reduceEqDiff, Nat.reduceLeDiff, Nat.reduceLT, Nat.reduceAdd, Nat.reduceSub, Nat.reduceMul, Nat.reduceBEq, Int.reduceToNat, Int.reduceLE, Int.reduceLT, Int.reduceAdd, Int.reduceSub, Int.reduceNeg, Int.reduceEq]
    (refine ecall_i [0, 1] [2] (Num_tr [72, 89, 110] 0 none [(l.length : Int)] (by simp)) rfl (by (try simp only [outB, go_sem, Int.reducePow, reduceIte, reduceCtorEq, Nat.reduceEqDiff, Nat.reduceLeDiff, Nat.reduceLT, Nat.reduceAdd, Nat.reduceSub, Nat.reduceMul, Nat.reduceBEq, Int.reduceToNat, Int.reduceLE, Int.reduceLT, Int.reduceAdd, Int.reduceSub, Int.reduceNeg, Int.reduceEq]) <;> first | done | ((repeat' apply And.intro) <;> first | rfl | trivial | exact wkEs_refl _ | exact wkV_refl _ | (left; rfl) | (right; rfl))) (by (try simp only [outB, go_sem, Int.reducePow, reduceIte, reduceCtorEq, Nat.reduceEqDiff, Nat.reduceLeDiff, Nat.reduceLT, Nat.reduceAdd, Nat.reduceSub, Nat.reduceMul, Nat.reduceBEq, Int.reduceToNat, Int.reduceLE, Int.reduceLT, Int.reduceAdd, Int.reduceSub, Int.reduceNeg, Int.reduceEq]) <;> first | done | ((repeat' apply And.intro) <;> first | rfl | trivial | exact wkEs_refl _ | exact wkV_refl _ | (left; rfl) | (right; rfl))) ⟨rfl, rfl⟩ (by decide) ?_)
    obtain ⟨hd, hhd⟩ : ∃ hd, hd = [72, 89, 110] ++ numB l.length := ⟨_, rfl⟩
    have e1 : oNum ([72, 89, 110], 0) (l.length : Int) = (hd, 0) := by rw [hhd, oNum_ok _ (by omega) (by omega), Int.toNat_natCast]
    have e2 : encB l = hd ++ l.flatMap Nd.bytes := by rw [hhd]; simp [encB]
    have hdl : hd.length ≤ 12 := by rw [hhd]; have := numB_len9 (n := l.length) (by omega); simp only [List.length_append, List.length_cons, List.length_nil]; omega
    simp only [outB, List.foldl_cons, List.foldl_nil, e1, go_sem, Int.reducePow, reduceIte, reduceCtorEq, Nat.reduceEqDiff, Nat.reduceLeDiff, Nat.reduceLT, Nat.reduceAdd, Nat.reduceSub, Nat.reduceMul, Nat.reduceBEq, Int.reduceToNat, Int.reduceLE, Int.reduceLT, Int.reduceAdd, Int.reduceSub, Int.reduceNeg, Int.reduceEq]
    clear hhd
    refine lp_i (fun xs h k => ∃ i : Nat, xs = [.sle z 39 (l.map (Nd.segs none)), .ref 0 0 0, .sle z 39 (l.map (Nd.segs none)), .int .i64 l.length, .int .i64 i] ∧ h = ⟨outB 1 (hd ++ (l.take i).flatMap Nd.bytes) 0, 2⟩ ∧ k = l.length - i ∧ i ≤ l.length ∧ ∀ j, j + 1 < i → nle (l.getD j default) (l.getD (j + 1) default) = false)
      ⟨l.length + 1, nx_i [] [0, 3] [] l.length rfl ⟨0, rfl, rfl, rfl, Nat.zero_le _, fun j hj => absurd hj (Nat.not_lt_zero _)⟩ ?_ ?_ (by rfl) (Nat.lt_succ_self _)⟩ ?_
    · simp only [outB, go_sem, Int.reducePow, reduceIte, reduceCtorEq, Nat.reduceEqDiff, Nat.reduceLeDiff, Nat.reduceLT, Nat.reduceAdd, Nat.reduceSub, Nat.reduceMul, Nat.reduceBEq, Int.reduceToNat, Int.reduceLE, Int.reduceLT, Int.reduceAdd, Int.reduceSub, Int.reduceNeg, Int.reduceEq]
    · simp only [outB, List.flatMap_nil, go_sem, Int.reducePow, reduceIte, reduceCtorEq, Nat.reduceEqDiff, Nat.reduceLeDiff, Nat.reduceLT, Nat.reduceAdd, Nat.reduceSub, Nat.reduceMul, Nat.reduceBEq, Int.reduceToNat, Int.reduceLE, Int.reduceLT, Int.reduceAdd, Int.reduceSub, Int.reduceNeg, Int.reduceEq]
    rintro xs h k ⟨i, rfl, rfl, rfl, hi, hnb⟩
    have hfl := flatMap_len (l.take i) (fun n hn => hl n (List.mem_of_mem_take hn)) (fun n hn => hck' n (List.mem_of_mem_take hn))
    rw [List.length_take] at hfl
    simp only [node_Encode_B12, outB, go_sem, Int.reducePow, reduceIte, reduceCtorEq, Nat.reduceEqDiff, Nat.reduceLeDiff, Nat.reduceLT, Nat.reduceAdd, Nat.reduceSub, Nat.reduceMul, Nat.reduceBEq, Int.reduceToNat, Int.reduceLE, Int.reduceLT, Int.reduceAdd, Int.reduceSub, Int.reduceNeg, Int.reduceEq]
    split
    · rename_i hlt
      have hlt' : i < l.length := by omega
      have hokn := hl _ (getD_in (d := default) hlt')
      have hckn := hck' _ (getD_in (d := default) hlt')
      have hst := flatMap_take Nd.bytes l default hlt'
      generalize hsf : (l.take i).flatMap Nd.bytes = sf at *
      simp only [Int.toNat_natCast, getD_map (Nd.segs none) l default [] hlt', Nd.segs, zs, go_sem, Int.reducePow, reduceIte, reduceCtorEq, Nat.reduceEqDiff, Nat.reduceLeDiff, Nat.reduceLT, Nat.reduceAdd, Nat.reduceSub, Nat.reduceMul, Nat.reduceBEq, Int.reduceToNat, Int.reduceLE, Int.reduceLT, Int.reduceAdd, Int.reduceSub, Int.reduceNeg, Int.reduceEq]
      refine ⟨by omega, ?_⟩
      have go : (∀ j, j + 1 < i + 1 → nle (l.getD j default) (l.getD (j + 1) default) = false) → ∀ I : List V → H → Nat → Prop, (∀ i : Nat, i ≤ l.length → (∀ j, j + 1 < i → nle (l.getD j default) (l.getD (j + 1) default) = false) → I [.sle z 39 (l.map (Nd.segs none)), .ref 0 0 0, .sle z 39 (l.map (Nd.segs none)), .int .i64 l.length, .int .i64 i] ⟨outB 1 (hd ++ (l.take i).flatMap Nd.bytes) 0, 2⟩ (l.length - i)) →
          node_Encode_D2 K 0 (Nxt 0 I (l.length - i)) (.sle z 39 (l.map (Nd.segs none))) (.ref 0 0 0) (.ref 2 0 0) (.sle z 39 (l.map (Nd.segs none))) (.int .i64 l.length) (.int .i64 i) (.bool false)
            ⟨[(0, .var [.own 1 1 0 (hd ++ sf).length, .int .i64 0]), (1, .row 1 (.bytes (hd ++ sf))), (2, .var ((l.getD i default).segs none))], 3⟩ := by
        intro hn I hI
        simp only [node_Encode_D2, Nd.segs, zs, go_sem, Int.reducePow, reduceIte, reduceCtorEq, Nat.reduceEqDiff, Nat.reduceLeDiff, Nat.reduceLT, Nat.reduceAdd, Nat.reduceSub, Nat.reduceMul, Nat.reduceBEq, Int.reduceToNat, Int.reduceLE, Int.reduceLT, Int.reduceAdd, Int.reduceSub, Int.reduceNeg, Int.reduceEq]
        (refine ecall_i [0, 1] [] (put_tr (hd ++ sf) (l.getD i default) none hokn hckn (by simp only [List.length_append]; omega)) rfl (by (try simp only [outB, Nd.segs, zs, go_sem, Int.reducePow, reduceIte, reduceCtorEq, Nat.reduceEqDiff, Nat.reduceLeDiff, Nat.reduceLT, Nat.reduceAdd, Nat.reduceSub, Nat.reduceMul, Nat.reduceBEq, Int.reduceToNat, Int.reduceLE, Int.reduceLT, Int.reduceAdd, Int.reduceSub, Int.reduceNeg, Int.reduceEq]) <;> first | done | ((repeat' apply And.intro) <;> first | rfl | trivial | exact wkEs_refl _ | exact wkV_refl _ | (left; rfl) | (right; rfl))) (by (try simp only [outB, Nd.segs, zs, go_sem, Int.reducePow, reduceIte, reduceCtorEq, Nat.reduceEqDiff, Nat.reduceLeDiff, Nat.reduceLT, Nat.reduceAdd, Nat.reduceSub, Nat.reduceMul, Nat.reduceBEq, Int.reduceToNat, Int.reduceLE, Int.reduceLT, Int.reduceAdd, Int.reduceSub, Int.reduceNeg, Int.reduceEq]) <;> first | done | ((repeat' apply And.intro) <;> first | rfl | trivial | exact wkEs_refl _ | exact wkV_refl _ | (left; rfl) | (right; rfl))) ⟨rfl, rfl⟩ (by decide) ?_)
        simp only [outB, go_sem, Int.reducePow, reduceIte, reduceCtorEq, Nat.reduceEqDiff, Nat.reduceLeDiff, Nat.reduceLT, Nat.reduceAdd, Nat.reduceSub, Nat.reduceMul, Nat.reduceBEq, Int.reduceToNat, Int.reduceLE, Int.reduceLT, Int.reduceAdd, Int.reduceSub, Int.reduceNeg, Int.reduceEq]
        rw [add1w hlt' (by omega)]
        refine nx_i [] [0, 3] [] (l.length - (i + 1)) rfl (hI (i + 1) hlt' hn) ?_ ?_ (by rfl) (by omega)
        · simp only [outB, go_sem, Int.reducePow, reduceIte, reduceCtorEq, Nat.reduceEqDiff, Nat.reduceLeDiff, Nat.reduceLT, Nat.reduceAdd, Nat.reduceSub, Nat.reduceMul, Nat.reduceBEq, Int.reduceToNat, Int.reduceLE, Int.reduceLT, Int.reduceAdd, Int.reduceSub, Int.reduceNeg, Int.reduceEq]
        · simp only [outB, hst, List.append_assoc, go_sem, Int.reducePow, reduceIte, reduceCtorEq, Nat.reduceEqDiff, Nat.reduceLeDiff, Nat.reduceLT, Nat.reduceAdd, Nat.reduceSub, Nat.reduceMul, Nat.reduceBEq, Int.reduceToNat, Int.reduceLE, Int.reduceLT, Int.reduceAdd, Int.reduceSub, Int.reduceNeg, Int.reduceEq]
      split
      · rename_i hpos
        rw [sub1w (i := i) (n := l.length) (by omega) hi (by omega)]
        simp only [Int.toNat_natCast, getD_map (Nd.segs none) l default [] (i := i - 1) (by omega), Nd.segs, zs, go_sem, Int.reducePow, reduceIte, reduceCtorEq, Nat.reduceEqDiff, Nat.reduceLeDiff, Nat.reduceLT, Nat.reduceAdd, Nat.reduceSub, Nat.reduceMul, Nat.reduceBEq, Int.reduceToNat, Int.reduceLE, Int.reduceLT, Int.reduceAdd, Int.reduceSub, Int.reduceNeg, Int.reduceEq]
        refine ⟨by omega, indep_of (by rfl), ?_⟩
        cases hle : nle (l.getD (i - 1) default) (l.getD i default) with
        | true =>
          have hle' := hle
          unfold nle at hle'
          rw [hle']
          simp only [node_Encode_D2, go_sem, Int.reducePow, reduceIte, reduceCtorEq, Nat.reduceEqDiff, Nat.reduceLeDiff, Nat.reduceLT, Nat.reduceAdd, Nat.reduceSub, Nat.reduceMul, Nat.reduceBEq, Int.reduceToNat, Int.reduceLE, Int.reduceLT, Int.reduceAdd, Int.reduceSub, Int.reduceNeg, Int.reduceEq]
          exact bad _ _ (encode_ord hbig hck (by omega) hlt' hle)
        | false =>
          have hle' := hle
          unfold nle at hle'
          rw [hle']
          refine go (fun j hj => ?_) _ (fun i hi hnb => ⟨i, rfl, rfl, rfl, hi, hnb⟩)
          by_cases e : j + 1 = i
          · subst e; simpa using hle
          · exact hnb j (by omega)
      · rename_i hpos
        refine ⟨indep_of (by rfl), go (fun j hj => ?_) _ (fun i hi hnb => ⟨i, rfl, rfl, rfl, hi, hnb⟩)⟩
        omega
    · rename_i hge
      have hil : i = l.length := by omega
      subst hil
      rw [List.take_length] at hfl ⊢
      simp only [node_Encode_J3, go_sem, Int.reducePow, reduceIte, reduceCtorEq, Nat.reduceEqDiff, Nat.reduceLeDiff, Nat.reduceLT, Nat.reduceAdd, Nat.reduceSub, Nat.reduceMul, Nat.reduceBEq, Int.reduceToNat, Int.reduceLE, Int.reduceLT, Int.reduceAdd, Int.reduceSub, Int.reduceNeg, Int.reduceEq]
      (refine ecall_i [0, 1] [] (Bytes_tr (hd ++ l.flatMap Nd.bytes) (by simp only [List.length_append]; omega)) rfl (by (try simp only [outB, go_sem, Int.reducePow, reduceIte, reduceCtorEq, Nat.reduceEqDiff, Nat.reduceLeDiff, Nat.reduceLT, Nat.reduceAdd, Nat.reduceSub, Nat.reduceMul, Nat.reduceBEq, Int.reduceToNat, Int.reduceLE, Int.reduceLT, Int.reduceAdd, Int.reduceSub, Int.reduceNeg, Int.reduceEq]) <;> first | done | ((repeat' apply And.intro) <;> first | rfl | trivial | exact wkEs_refl _ | exact wkV_refl _ | (left; rfl) | (right; rfl))) (by (try simp only [outB, go_sem, Int.reducePow, reduceIte, reduceCtorEq, Nat.reduceEqDiff, Nat.reduceLeDiff, Nat.reduceLT, Nat.reduceAdd, Nat.reduceSub, Nat.reduceMul, Nat.reduceBEq, Int.reduceToNat, Int.reduceLE, Int.reduceLT, Int.reduceAdd, Int.reduceSub, Int.reduceNeg, Int.reduceEq]) <;> first | done | ((repeat' apply And.intro) <;> first | rfl | trivial | exact wkEs_refl _ | exact wkV_refl _ | (left; rfl) | (right; rfl))) ⟨rfl, rfl⟩ (by decide) ?_)
      simp only [outB, go_sem, Int.reducePow, reduceIte, reduceCtorEq, Nat.reduceEqDiff, Nat.reduceLeDiff, Nat.reduceLT, Nat.reduceAdd, Nat.reduceSub, Nat.reduceMul, Nat.reduceBEq, Int.reduceToNat, Int.reduceLE, Int.reduceLT, Int.reduceAdd, Int.reduceSub, Int.reduceNeg, Int.reduceEq]
      rw [encode_good hbig hck (fun j hj => hnb j (by omega)), e2] at hK
      subst hK
      refine fin_i [] [2] [] rfl ?_ ?_ (by rfl) <;> simp only [go_sem, Int.reducePow, reduceIte, reduceCtorEq, Nat.reduceEqDiff, Nat.reduceLeDiff, Nat.reduceLT, Nat.reduceAdd, Nat.reduceSub, Nat.reduceMul, Nat.reduceBEq, Int.reduceToNat, Int.reduceLE, Int.reduceLT, Int.reduceAdd, Int.reduceSub, Int.reduceNeg, Int.reduceEq]
end Go.Proofs.Ytmgjmdlmnbjaiaa.A
