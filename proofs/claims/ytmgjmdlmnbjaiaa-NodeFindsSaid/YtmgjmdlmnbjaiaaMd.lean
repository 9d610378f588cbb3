/- A machine of our own for Go code without shared memory: one step of it stands for the model's steps. Part of the proof; no condition of its own. -/
import Derived.Test.YtmgjmdlmnbjaiaaMc

section
/- AM, part 28: what an operation of a drawn region does wherever it stands. -/
namespace Go.AM
section
variable {P : Program}

theorem eop_of {o : Oper} {t : List V} {h : H} {K : V → H → Prop} (hX : X (opR P o t h.get h.n) h K) : EOp P o t h K := by
  unfold opR at hX
  split at hX
  · rename_i e ho; unfold EOp; rw [ho]; exact hX
  · rename_i e x ho; unfold EOp; rw [ho]; exact hX
  · rename_i ty len parts ho
    unfold EOp; rw [ho]
    split at hX
    · rename_i hc; (first | exact hX | (simp only [if_pos hc]; exact hX))
    · exact hX.elim
  · rename_i ty x ho
    unfold EOp; rw [ho]
    split at hX
    · rename_i hc; (first | exact hX | (simp only [if_pos hc]; exact hX))
    · exact hX.elim
  · rename_i ty x y ho
    unfold EOp; rw [ho]
    split at hX
    · rename_i hc; (first | exact hX | (simp only [if_pos hc]; exact hX))
    · exact hX.elim
  · rename_i x ho; unfold EOp; rw [ho]; exact hX
  · rename_i op ty x y yt ho
    unfold EOp; rw [ho]
    split at hX
    · rename_i hop
      try simp only [hop]
      split at hX
      · rename_i hu; (first | exact hX | (simp only [hu]; exact hX))
      · rename_i hu; (first | exact hX | (simp only [hu]; exact hX))
      · rename_i hu; (first | exact hX | (simp only [hu]; exact hX))
      · rename_i n e hu
        try simp only [hu]
        split at hX
        · rename_i he
          try simp only [he]
          split at hX
          · rename_i hc; (first | exact hX | (simp only [if_pos hc]; exact hX))
          · exact hX.elim
        · exact hX.elim
      · rename_i hu; (first | exact hX | (simp only [hu]; exact hX))
      · rename_i hu; (first | exact hX | (simp only [hu]; exact hX))
      · rename_i hu; (first | exact hX | (simp only [hu]; exact hX))
      · exact hX.elim
    · exact hX.elim
  · rename_i src dst x ho; unfold EOp; rw [ho]; exact hX
  · rename_i ty x lo hi ho
    unfold EOp; rw [ho]
    try simp only
    split at hX
    · rename_i hu
      try simp only [hu]
      split at hX
      · rename_i hc; (first | exact hX | (simp only [if_pos hc]; exact hX))
      · exact hX.elim
    · rename_i hu; (first | exact hX | (simp only [hu]; exact hX))
    · rename_i hu
      try simp only [hu]
      split at hX
      · exact hX.elim
      · rename_i hc; (first | exact hX | (simp only [if_neg hc]; exact hX))
    · exact hX.elim
  · rename_i s x f ho
    unfold EOp; rw [ho]
    try simp only
    split at hX
    · rename_i fs hu
      try simp only [hu]
      split at hX
      · rename_i d hd
        try simp only [hd]
        split at hX
        · exact hX.elim
        · rename_i hc; (first | exact hX | (simp only [if_neg hc]; exact hX))
      · exact hX.elim
    · exact hX.elim
  · rename_i ty x i ho
    unfold EOp; rw [ho]
    try simp only
    split at hX
    · rename_i hu
      try simp only [hu]
      split at hX
      · rename_i hc; (first | exact hX | (simp only [if_pos hc]; exact hX))
      · exact hX.elim
    · rename_i hu
      try simp only [hu]
      split at hX
      · exact hX.elim
      · rename_i hc; (first | exact hX | (simp only [if_neg hc]; exact hX))
    · exact hX.elim
  · rename_i ty x ho
    unfold EOp; rw [ho]
    try simp only
    split at hX
    · rename_i hu; (first | exact hX | (simp only [hu]; exact hX))
    · exact hX.elim
  · rename_i ty l cc ho
    unfold EOp; rw [ho]
    try simp only
    split at hX
    · exact hX.elim
    · rename_i hc; (first | exact hX | (rw [if_neg hc]; exact hX))
  · rename_i cl ho
    unfold EOp; rw [ho]
    try simp only
    split at hX
    · rename_i hc
      try simp only [hc]
      split at hX
      · rename_i hs
        try rw [if_pos hs]
        split at hX
        · rename_i hu; (first | exact hX | (simp only [hu]; exact hX))
        · rename_i hu; (first | exact hX | (simp only [hu]; exact hX))
        · rename_i hu; (first | exact hX | (simp only [hu]; exact hX))
        · exact hX.elim
      · exact hX.elim
    · rename_i hc
      try simp only [hc]
      split at hX
      · rename_i hs; (first | exact hX | (rw [if_pos hs]; exact hX))
      · exact hX.elim
    · rename_i hc
      try simp only [hc]
      split at hX
      · rename_i hs; (first | exact hX | (rw [if_pos hs]; exact hX))
      · exact hX.elim
    · rename_i hc
      try simp only [hc]
      split at hX
      · rename_i hs; (first | exact hX | (rw [if_pos hs]; exact hX))
      · exact hX.elim
    · rename_i hc
      try simp only [hc]
      split at hX
      · exact hX.elim
      · rename_i hs; (first | exact hX | (rw [if_neg hs]; exact hX))
    · exact hX.elim
  · exact hX.elim

/-- What it does wherever its operands and the blocks that it looks at are the same. -/
def Exec (P : Program) (o : Oper) (t : List V) (h : H) (v : V) (u : List (Nat × Option Blk)) (nw : Nat) (rs : List Nat) : Prop :=
  (nw ≠ 0 → allocy P o.op = true) ∧
  ∀ (t' : List V) (h' : H), (∀ x ∈ opds o.op, ev t' x = ev t x) → (∀ i ∈ rs, h'.get i = h.get i) → (allocy P o.op = true → h'.n = h.n) → EOp P o t' h' fun v' h'' => v' = v ∧ h'' = h'.app u nw

/-! ### what brings no blocks -/
def Nw0 : R → Prop
  | .fail => True
  | .ok _ _ _ nw => nw = 0
def Pur : R → Prop
  | .fail => True
  | .ok _ _ u nw => u = [] ∧ nw = 0
theorem Nw0.al {g : G} {i : Nat} {r : R} (h : Nw0 r) : Nw0 (al g i r) := by
  unfold AM.al; split
  · exact h
  · trivial
theorem pLoad_nw {a : Bool} {sz : Nat} {v : V} {g : G} : Nw0 (pLoad a sz v g) := by unfold pLoad; (repeat' split) <;> first | trivial | rfl
theorem pStore_nw {a : Bool} {sz : Nat} {v x : V} {g : G} : Nw0 (pStore a sz v x g) := by unfold pStore; (repeat' split) <;> first | trivial | rfl
theorem pNil_nw {v : V} {g : G} : Nw0 (pNil v g) := by unfold pNil; split <;> first | trivial | rfl | exact Nw0.al rfl
theorem pNot_nw {b : Bool} {q : Option Bool} : Nw0 (pNot b q) := by cases q <;> first | trivial | rfl
theorem pConv_nw {ck : CK} {v : V} {g : G} {n : Nat} (h : ck ≠ .toBytes) : Nw0 (pConv ck v g n) := by
  unfold pConv
  split <;> first
    | trivial
    | rfl
    | exact absurd rfl h
    | (split <;> first | trivial | rfl)
theorem pSliceStr_nw {v : V} {lo hi : Option V} : Nw0 (pSliceStr v lo hi) := by unfold pSliceStr; (repeat' split) <;> first | trivial | rfl
theorem pSliceSl_nw {n : Nat} {v : V} {lo hi : Option V} {g : G} : Nw0 (pSliceSl n v lo hi g) := by
  unfold pSliceSl
  split <;> first
    | trivial
    | (split <;> first | trivial | rfl | (split <;> first | trivial | rfl | exact Nw0.al rfl))
theorem pSliceArr_nw {n : Nat} {v : V} {lo hi : Option V} {g : G} : Nw0 (pSliceArr n v lo hi g) := by
  unfold pSliceArr
  split <;> first
    | trivial
    | (split <;> first | trivial | rfl | exact Nw0.al rfl | (split <;> first | trivial | rfl))
theorem pFieldAddr_nw {n : Nat} {v : V} {g : G} : Nw0 (pFieldAddr n v g) := by unfold pFieldAddr; split <;> first | trivial | rfl | exact Nw0.al rfl
theorem pIndexArr_nw {n : Nat} {v x : V} {g : G} : Nw0 (pIndexArr n v x g) := by unfold pIndexArr; split <;> first | trivial | rfl | exact Nw0.al rfl
theorem pIndexSl_nw {n : Nat} {v x : V} {g : G} : Nw0 (pIndexSl n v x g) := by
  unfold pIndexSl
  split <;> first
    | trivial
    | (split <;> first | trivial | rfl | exact Nw0.al rfl)
theorem pLenStr_nw {v : V} : Nw0 (pLenStr v) := by unfold pLenStr; split <;> first | trivial | rfl
theorem pLenSl_nw {v : V} {g : G} : Nw0 (pLenSl v g) := by unfold pLenSl; split <;> first | trivial | rfl | exact Nw0.al rfl
theorem pLenMap_nw {v : V} {g : G} : Nw0 (pLenMap v g) := by unfold pLenMap; (repeat' split) <;> first | trivial | rfl
theorem pMin_nw {x y : V} : Nw0 (pMin x y) := by unfold pMin; (repeat' split) <;> first | trivial | rfl
theorem pMax_nw {x y : V} : Nw0 (pMax x y) := by unfold pMax; (repeat' split) <;> first | trivial | rfl
theorem pCopy_nw {x y : V} {g : G} : Nw0 (pCopy x y g) := by unfold pCopy; (repeat' split) <;> first | trivial | rfl
theorem pS2A_nw {n : Nat} {v : V} {g : G} : Nw0 (pS2A n v g) := by unfold pS2A; split <;> first | trivial | rfl
theorem opR_nw {o : Oper} {t : List V} {g : G} {n : Nat} (ha : allocy P o.op ≠ true) : Nw0 (opR P o t g n) := by
  unfold opR
  split
  · rename_i ho; rw [ho] at ha; exact absurd rfl ha
  · rename_i ho; rw [ho] at ha; exact absurd rfl ha
  · rename_i ho; rw [ho] at ha; exact absurd rfl ha
  · split
    · exact pLoad_nw
    · trivial
  · split
    · exact pStore_nw
    · trivial
  · exact pNil_nw
  · repeat' split
    all_goals first | trivial | exact pNot_nw
  · rename_i src dst x ho
    refine pConv_nw (fun hc => ha ?_)
    rw [ho]; exact ckP_bytes hc
  · repeat' split
    all_goals first | trivial | exact pSliceArr_nw | exact pSliceStr_nw | exact pSliceSl_nw
  · repeat' split
    all_goals first | trivial | exact pFieldAddr_nw
  · repeat' split
    all_goals first | trivial | exact pIndexArr_nw | exact pIndexSl_nw
  · repeat' split
    all_goals first | trivial | exact pS2A_nw
  · rename_i ho; rw [ho] at ha; exact absurd rfl ha
  · rename_i cl ho
    split
    · repeat' split
      all_goals first | trivial | exact pLenStr_nw | exact pLenSl_nw | exact pLenMap_nw
    · rename_i hc
      exact absurd (by rw [ho]; simp only [allocy, hc]) ha
    · split
      · exact pMin_nw
      · trivial
    · split
      · exact pMax_nw
      · trivial
    · split
      · trivial
      · exact pCopy_nw
    · trivial
  · trivial

/-! ### what does not look at the blocks -/
def opN (P : Program) (o : Oper) (t : List V) : R := match o.op with
  | .move x => .ok True (ev t x) [] 0
  | .assign x => .ok True (ev t x) [] 0
  | .pick c a b => pPick (ev t c) (ev t a) (ev t b)
  | .build ty parts => if !buildOk P ty (parts.toList.map (·.1)) then .fail else pBuild (zeroP P ty) (parts.toList.map fun q => ((partP P ty q.1).1, (partP P ty q.1).2, ev t q.2))
  | .binOp op _ x y _ => match op == .eql || op == .neq with
    | true => .fail
    | false => pBin op (ev t x) (ev t y)
  | .unOp op _ x => pUn op (ev t x)
  | .field s x f => match P.underlying s with
    | some (.struct fs) => match fs[f]? with
      | some d => if !tyOk P d.type then .fail else pField (aggP P d.type) (szP P d.type) d.offset (ev t x)
      | none => .fail
    | _ => .fail
  | .index ty x i => match P.underlying ty with
    | some .string => pIndexStr (ev t x) (ev t i)
    | some (.array n e) => if szP P e = 1 ∧ P.underlying e ≠ none ∧ aggP P e = false then pIndexAgg n (ev t x) (ev t i) else .fail
    | _ => .fail
  | .extract x i => pExtract (ev t x) i
  | .makeFunc (.func f) first caps => if first.size = 0 then .ok True (.fn f (caps.toList.map (ev t))) [] 0 else .fail
  | _ => .fail
theorem opN_of {o : Oper} {t : List V} {h : H} {K : V → H → Prop} (hh : heapy o.op = false) (hE : EOp P o t h K) : X (opN P o t) h K := by
  have k0 : ∀ {v : V}, K v h → X (.ok True v [] 0) h K := fun hk => ⟨trivial, by rw [app0]; exact hk⟩
  unfold EOp at hE
  unfold opN
  split at hE <;> first | exact hE.elim | (rename_i ho; rw [ho] at hh ⊢; simp only)
  all_goals first
    | (cases hh; done)
    | exact k0 hE
    | exact hE
    | skip
  · split at hE
    · exact hE.elim
    · rename_i hc; rw [if_neg hc]; exact hE
  · split at hE
    · rename_i hop
      simp only [heapy, hop] at hh
      cases hh
    · rename_i hop; simp only [hop]; exact hE
  · split at hE
    · split at hE
      · split at hE
        · exact hE.elim
        · rename_i fs hu x d hd hc; simp only [hu, hd]; rw [if_neg hc]; exact hE
      · exact hE.elim
    · exact hE.elim
  · split at hE
    · rename_i hu; simp only [hu]; exact hE
    · split at hE
      · rename_i n e hu hc; simp only [hu]; rw [if_pos hc]; exact hE
      · exact hE.elim
    · exact hE.elim
  · split at hE
    · rename_i hc; rw [if_pos hc]; exact k0 hE
    · exact hE.elim
theorem opN_to {o : Oper} {t : List V} {h : H} {K : V → H → Prop} (hX : X (opN P o t) h K) : EOp P o t h K := by
  have k0 : ∀ {v : V} {K : V → H → Prop}, X (.ok True v [] 0) h K → K v h := fun hk => by have := hk.2; rwa [app0] at this
  unfold opN at hX
  split at hX
  · rename_i ho; unfold EOp; rw [ho]; exact k0 hX
  · rename_i ho; unfold EOp; rw [ho]; exact k0 hX
  · rename_i ho; unfold EOp; rw [ho]; exact hX
  · rename_i ho
    unfold EOp; rw [ho]
    split at hX
    · exact hX.elim
    · rename_i hc; simp only; rw [if_neg hc]; exact hX
  · rename_i ho
    unfold EOp; rw [ho]
    split at hX
    · exact hX.elim
    · rename_i hop; simp only; (first | exact hX | (simp only [hop]; exact hX))
  · rename_i ho; unfold EOp; rw [ho]; exact hX
  · rename_i ho
    unfold EOp; rw [ho]
    simp only
    split at hX
    · split at hX
      · split at hX
        · exact hX.elim
        · rename_i hu _ _ hd hc; simp only [hu, hd]; rw [if_neg hc]; exact hX
      · exact hX.elim
    · exact hX.elim
  · rename_i ho
    unfold EOp; rw [ho]
    simp only
    split at hX
    · rename_i hu; simp only [hu]; exact hX
    · split at hX
      · rename_i hu hc; simp only [hu]; rw [if_pos hc]; exact hX
      · exact hX.elim
    · exact hX.elim
  · rename_i ho; unfold EOp; rw [ho]; exact hX
  · rename_i ho
    unfold EOp; rw [ho]
    split at hX
    · rename_i hc; simp only; rw [if_pos hc]; exact k0 hX
    · exact hX.elim
  · exact hX.elim

theorem Pur.x {r : R} {h : H} {K : V → H → Prop} (hp : Pur r) (hX : X r h K) : ∃ p v, r = .ok p v [] 0 ∧ p ∧ K v h := by
  cases r with
  | fail => exact hX.elim
  | ok p v u nw =>
    obtain ⟨rfl, rfl⟩ := hp
    exact ⟨p, v, rfl, hX.1, by have := hX.2; rwa [app0] at this⟩
theorem opN_pur {o : Oper} {t : List V} : Pur (opN P o t) := by
  unfold opN pPick pBuild pBin pUn pField pIndexStr pIndexAgg pExtract
  (repeat' split) <;> first
    | trivial
    | exact ⟨rfl, rfl⟩
theorem opN_loc {o : Oper} {t t' : List V} (ht : ∀ x ∈ opds o.op, ev t' x = ev t x) : opN P o t' = opN P o t := by
  unfold opN
  split
  · rename_i ho; rw [ht _ (by rw [ho]; simp [opds])]
  · rename_i ho; rw [ht _ (by rw [ho]; simp [opds])]
  · rename_i ho; rw [ht _ (by rw [ho]; simp [opds]), ht _ (by rw [ho]; simp [opds]), ht _ (by rw [ho]; simp [opds])]
  · rename_i ty parts ho
    have e1 : (parts.toList.map fun q => ((partP P ty q.1).1, (partP P ty q.1).2, ev t' q.2)) = parts.toList.map fun q => ((partP P ty q.1).1, (partP P ty q.1).2, ev t q.2) := by
      apply List.map_congr_left
      intro q hq
      rw [ht q.2 (by rw [ho]; exact List.mem_map.2 ⟨q, hq, rfl⟩)]
    rw [e1]
  · rename_i ho; rw [ht _ (by rw [ho]; simp [opds]), ht _ (by rw [ho]; simp [opds])]
  · rename_i ho; rw [ht _ (by rw [ho]; simp [opds])]
  · rename_i ho; rw [ht _ (by rw [ho]; simp [opds])]
  · rename_i ho; rw [ht _ (by rw [ho]; simp [opds]), ht _ (by rw [ho]; simp [opds])]
  · rename_i ho; rw [ht _ (by rw [ho]; simp [opds])]
  · rename_i f first caps ho
    have e1 : caps.toList.map (ev t') = caps.toList.map (ev t) := List.map_congr_left fun x hx => ht x (by rw [ho]; exact hx)
    rw [e1]
  · rfl

/-! ### calls -/
theorem pass_loc {g g' : G} {r : Nat → Nat} {ps : List Nat} {v v' : V} (hg : ∀ i ∈ ps, g' i = g i) (hp : pass g r ps v v') : pass g' r ps v v' := by
  unfold pass at hp ⊢
  split at hp <;> first
    | exact hp
    | skip
  · obtain ⟨h1, h2⟩ := hp
    exact ⟨h1, by rw [hg _ h1]; exact h2⟩
  · rename_i i off lo n _ _
    obtain ⟨h1, h2⟩ := hp
    refine ⟨h1, ?_⟩
    rw [deepen1_loc (g := g) (fun j hj => hg j (by simp [idsV] at hj; rw [hj]; exact h1))]
    exact h2
theorem passM_loc {g g' : G} {r : Nat → Nat} {ps : List Nat} {v v' : V} (hg : ∀ i ∈ ps, g' i = g i) (hp : passM none g r ps v v') : passM none g' r ps v v' := by
  unfold passM at hp ⊢
  split at hp
  · exact hp.elim
  · exact pass_loc hg hp
theorem passE_loc {g g' : G} {r : Nat → Nat} {ps : List Nat} (hg : ∀ i ∈ ps, g' i = g i) : ∀ {l l' : List V}, passE none g r ps l l' → passE none g' r ps l l'
  | [], [], h => h
  | _ :: _, _ :: _, h => ⟨by
      have h1 := h.1
      unfold passS at h1 ⊢
      split at h1
      · exact h1
      · exact passM_loc hg h1, passE_loc hg h.2⟩
  | [], _ :: _, h => h.elim
  | _ :: _, [], h => h.elim
theorem passT_loc {g g' : G} {r : Nat → Nat} {ps : List Nat} (hg : ∀ i ∈ ps, g' i = g i) : ∀ {l l' : List V}, passT none g r ps l l' → passT none g' r ps l l'
  | [], [], h => h
  | _ :: _, _ :: _, h => ⟨by
      have h1 := h.1
      split at h1
      · exact passE_loc hg h1
      · exact passM_loc hg h1, passT_loc hg h.2⟩
  | [], _ :: _, h => h.elim
  | _ :: _, [], h => h.elim
theorem passN_loc {g g' : G} {r : Nat → Nat} {ps : List Nat} {v v' : V} (hg : ∀ i ∈ ps, g' i = g i) (hp : passN none g r ps v v') : passN none g' r ps v v' := by
  unfold passN at hp ⊢
  split at hp
  · exact passT_loc hg hp
  · exact passE_loc hg hp
  · exact passM_loc hg hp
theorem passL_loc {g g' : G} {r : Nat → Nat} {ps : List Nat} (hg : ∀ i ∈ ps, g' i = g i) : ∀ {l l' : List V}, passL none g r ps l l' → passL none g' r ps l l'
  | [], [], h => h
  | _ :: _, _ :: _, h => ⟨passN_loc hg h.1, passL_loc hg h.2⟩
  | [], _ :: _, h => h.elim
  | _ :: _, [], h => h.elim
theorem passB_loc {g g' : G} {r : Nat → Nat} {ps : List Nat} (hg : ∀ i ∈ ps, g' i = g i) {x y : Blk} (h : passB none g r ps x y) : passB none g' r ps x y := by
  unfold passB at h ⊢
  split at h
  · exact passE_loc hg h
  · exact h
theorem heapOk_loc {g g' : G} {r : Nat → Nat} {ps : List Nat} (hp : ∀ i ∈ ps, g' i = g i) : ∀ {l : List (Nat × Blk)}, (∀ q ∈ l, g' (r q.1) = g (r q.1)) → heapOk none g r ps l → heapOk none g' r ps l
  | [], _, h => h
  | (i, b) :: l, hg, h => ⟨by
      have h1 := h.1
      have e : g' (r i) = g (r i) := hg (i, b) List.mem_cons_self
      rw [e]
      split at h1
      · rename_i x hx
        exact passB_loc hp h1
      · exact h1.elim, heapOk_loc hp (fun q hq => hg q (List.mem_cons_of_mem _ hq)) h.2⟩
theorem rn_mem {ρ : List Nat} {m base i : Nat} (hl : ρ.length = m) (hi : i < m) : rn ρ m base i ∈ ρ := by
  unfold rn
  rw [if_pos hi, List.getD_eq_getElem?_getD, List.getElem?_eq_getElem (by omega)]
  exact List.getElem_mem _
theorem Fits.loc {T : Tr} {ρ ps : List Nat} {f : FuncId} {vals : List V} {h h' : H} (F : Fits T ρ ps f vals h) (hg : ∀ i ∈ ρ ++ ps, h'.get i = h.get i) (hn : h'.n = h.n) : Fits T ρ ps f vals h' := by
  refine ⟨F.f, ?_, ?_, F.m, F.dist⟩
  · rw [hn]; exact passL_loc (fun i hi => hg i (List.mem_append.2 (.inr hi))) F.vals
  · rw [hn]
    refine heapOk_loc (fun i hi => hg i (List.mem_append.2 (.inr hi))) (fun q hq => hg _ (List.mem_append.2 (.inl ?_))) F.heap
    refine rn_mem F.m.1 ?_
    have : q.1 ∈ T.b0.map (·.1) := List.mem_map.2 ⟨q, hq, rfl⟩
    rw [F.m.2] at this; exact List.mem_range.1 this
theorem updB_app (b : List (Nat × Blk)) : ∀ (u w : List (Nat × Option Blk)), updB b (u ++ w) = updB (updB b u) w
  | [], _ => rfl
  | (i, none) :: u, w => updB_app (delB b i) u w
  | (i, some x) :: u, w => updB_app (setB b i x) u w
theorem updB_putAll (b : List (Nat × Blk)) : ∀ l : List (Nat × Blk), updB b (l.reverse.map fun q => (q.1, some q.2)) = putAll b l
  | [] => rfl
  | (i, x) :: l => by
    rw [List.reverse_cons, List.map_append, updB_app, updB_putAll b l]
    rfl
theorem callH_app {T : Tr} {ρ ps : List Nat} {h : H} : callH T ρ ps h = h.app (callU T ρ ps h.n) (T.n1 - T.m) := by
  unfold callH H.app callU
  rw [updB_pubs, updB_pubs, updB_putAll]

theorem eopD_loc {o : Oper} {t : List V} {h : H} {K : V → List Nat → List Nat → H → Prop} (hE : EOpD P o t h K) :
    ∃ v u nw rs, K v (u.map (·.1)) rs (h.app u nw) ∧ Exec P o t h v u nw rs ∧ (heapy o.op = false → u = [] ∧ nw = 0 ∧ rs = []) := by
  unfold EOpD at hE
  split at hE
  · rename_i hh
    obtain ⟨p, v, hr, hp, hK⟩ := opN_pur.x (opN_of hh hE)
    refine ⟨v, [], 0, [], by rw [app0]; exact hK, ⟨fun h => absurd rfl h, fun t' h' ht _ _ => opN_to ?_⟩, fun _ => ⟨rfl, rfl, rfl⟩⟩
    rw [opN_loc ht, hr]
    exact ⟨hp, rfl, rfl⟩
  · rename_i hh
    have go : XD (opR P o t h.get h.n) h (idsL ((opds o.op).map (ev t))) K → ∃ v u nw rs, K v (u.map (·.1)) rs (h.app u nw) ∧ Exec P o t h v u nw rs ∧ (heapy o.op = false → u = [] ∧ nw = 0 ∧ rs = []) := by
      intro hX
      cases hr : opR P o t h.get h.n with
      | fail => rw [hr] at hX; exact hX.elim
      | ok p v u nw =>
        rw [hr] at hX
        refine ⟨v, u, nw, _, hX.2, ⟨fun hn => ?_, fun t' h' ht hg hn => eop_of ?_⟩, fun h => by rw [h] at hh; cases hh⟩
        · apply Decidable.byContradiction
          intro ha
          have := opR_nw (P := P) (t := t) (g := h.get) (n := h.n) ha
          rw [hr] at this
          exact hn this
        · rw [opR_loc ht hg hn, hr]
          exact ⟨hX.1, rfl, rfl⟩
    split at hE
    · rename_i cl ho
      split at hE
      · rename_i f hc
        split at hE
        · rename_i g caps hf
          obtain ⟨T, ρ, ps, hT, F, hK⟩ := hE
          have hop : opds o.op = f :: cl.args.toList := by rw [ho]; simp only [opds, hc]
          refine ⟨_, callU T ρ ps h.n, T.n1 - T.m, ρ ++ ps, by rw [← callH_app]; exact hK, ⟨fun _ => by rw [ho]; simp only [allocy, hc], fun t' h' ht hg hn => ?_⟩, fun h => by rw [h] at hh; cases hh⟩
          have hn' := hn (by rw [ho]; simp only [allocy, hc])
          unfold EOp
          rw [ho]
          simp only [hc]
          rw [ht f (by rw [hop]; simp), hf]
          have e1 : cl.args.toList.map (ev t') = cl.args.toList.map (ev t) := List.map_congr_left fun x hx => ht x (by rw [hop]; simp [hx])
          simp only
          rw [e1]
          refine ⟨T, ρ, ps, hT, F.loc hg hn', by rw [hn'], ?_⟩
          rw [callH_app, hn']
        · exact hE.elim
      · exact go hE
    · exact go hE
end
end Go.AM
end

section
/- AM, part 29: the trace of a drawn region along one order. -/
namespace Go.AM
section
variable {P : Program} {ops : Array Oper}

structure Dt where
  v : V
  u : List (Nat × Option Blk)
  nw : Nat
  rs : List Nat
structure Ent where
  i : Nat
  d : Option Dt
def dstOf (ops : Array Oper) (i : Nat) : Option Tmp := (ops[i]?).bind (·.dst)
def Ent.val (e : Ent) : V := match e.d with
  | some d => d.v
  | none => .tup []
def Ent.keys (e : Ent) : List Nat := match e.d with
  | some d => d.u.map (·.1)
  | none => []
def Ent.reads (e : Ent) : List Nat := match e.d with
  | some d => d.rs
  | none => []
def Ent.nw (e : Ent) : Nat := match e.d with
  | some d => d.nw
  | none => 0
def Ent.u (e : Ent) : List (Nat × Option Blk) := match e.d with
  | some d => d.u
  | none => []
def nxT (ops : Array Oper) (e : Ent) (t : List V) : List V := putT t (dstOf ops e.i) e.val
def nxH (e : Ent) (h : H) : H := h.app e.u e.nw
def foldT (ops : Array Oper) : List Ent → List V → List V
  | [], t => t
  | e :: r, t => foldT ops r (nxT ops e t)
def foldH : List Ent → H → H
  | [], h => h
  | e :: r, h => foldH r (nxH e h)
def gval (ops : Array Oper) (t : List V) (j : Nat) : Option (Option Bool) := match dstOf ops j with
  | some d => match t.getD d .undef with
    | .bool b => some (some b)
    | .tup [] => some none
    | _ => none
  | none => none
def Stp (P : Program) (ops : Array Oper) (e : Ent) (t : List V) (h : H) : Prop :=
  ∃ o, ops[e.i]? = some o ∧ match e.d with
    | none => ∃ j want b, o.guard = some (j, want) ∧ gval ops t j = some b ∧ (b == some want) = false
    | some d => (o.guard = none ∨ ∃ j want, o.guard = some (j, want) ∧ gval ops t j = some (some want)) ∧ Exec P o t h d.v d.u d.nw d.rs ∧ (heapy o.op = false → d.u = [] ∧ d.nw = 0 ∧ d.rs = [])
def Trc (P : Program) (ops : Array Oper) : List Ent → List V → H → Prop
  | [], _, _ => True
  | e :: r, t, h => Stp P ops e t h ∧ Trc P ops r (nxT ops e t) (nxH e h)
def esOf : List Ent → List TE → List TE
  | [], es => es
  | ⟨_, none⟩ :: r, es => esOf r es
  | ⟨i, some d⟩ :: r, es => esOf r ((i, d.u.map (·.1), d.rs) :: es)

theorem eopsD_trc {K : St → List TE → Prop} : ∀ (σ : List Nat) {t : List V} {h : H} {es : List TE}, EOpsD P ops σ t h es K →
    ∃ l : List Ent, l.map (·.i) = σ ∧ Trc P ops l t h ∧ K ⟨foldT ops l t, foldH l h⟩ (esOf l es)
  | [], t, h, es, hE => ⟨[], rfl, trivial, hE⟩
  | i :: r, t, h, es, hE => by
    unfold EOpsD at hE
    split at hE
    · exact hE.elim
    · rename_i o ho
      have hdo : dstOf ops i = o.dst := by unfold dstOf; rw [ho]; rfl
      have run : ∀ (hg : o.guard = none ∨ ∃ j want, o.guard = some (j, want) ∧ gval ops t j = some (some want)), EOpD P o t h (fun v ks rs h' => match isG ops i with
          | true => Sp v (EOpsD P ops r (putT t o.dst (.bool true)) h' ((i, ks, rs) :: es) K) (EOpsD P ops r (putT t o.dst (.bool false)) h' ((i, ks, rs) :: es) K)
          | false => EOpsD P ops r (putT t o.dst v) h' ((i, ks, rs) :: es) K) → ∃ l : List Ent, l.map (·.i) = i :: r ∧ Trc P ops l t h ∧ K ⟨foldT ops l t, foldH l h⟩ (esOf l es) := by
        intro hg hD
        obtain ⟨v, u, nw, rs, hK, hx, hh⟩ := eopD_loc hD
        have fin : EOpsD P ops r (putT t o.dst v) (h.app u nw) ((i, u.map (·.1), rs) :: es) K → ∃ l : List Ent, l.map (·.i) = i :: r ∧ Trc P ops l t h ∧ K ⟨foldT ops l t, foldH l h⟩ (esOf l es) := by
          intro hE'
          obtain ⟨l, h1, h2, h3⟩ := eopsD_trc r hE'
          refine ⟨⟨i, some ⟨v, u, nw, rs⟩⟩ :: l, by simp [h1], ⟨⟨o, ho, hg, hx, hh⟩, ?_⟩, ?_⟩
          · show Trc P ops l (putT t (dstOf ops i) v) (h.app u nw)
            rw [hdo]; exact h2
          · show K ⟨foldT ops l (putT t (dstOf ops i) v), foldH l (h.app u nw)⟩ (esOf l _)
            rw [hdo]; exact h3
        split at hK
        · unfold Sp at hK
          split at hK
          · split at hK
            · exact fin hK
            · exact fin hK
          · exact hK.elim
        · exact fin hK
      split at hE
      · rename_i hg
        exact run (.inl hg) hE
      · rename_i j want hg
        split at hE
        · exact hE.elim
        · rename_i d hd
          split at hE
          · rename_i b hb
            have hgv : gval ops t j = some (some b) := by
              unfold gval dstOf; rw [hd]; simp only; rw [hb]
            split at hE
            · rename_i hbw
              have : b = want := by cases b <;> cases want <;> first | rfl | cases hbw
              subst this
              exact run (.inr ⟨j, b, hg, hgv⟩) hE
            · rename_i hbw
              obtain ⟨l, h1, h2, h3⟩ := eopsD_trc r hE
              refine ⟨⟨i, none⟩ :: l, by simp [h1], ⟨⟨o, ho, j, want, some b, hg, hgv, by simpa using hbw⟩, ?_⟩, ?_⟩
              · show Trc P ops l (putT t (dstOf ops i) (.tup [])) (h.app [] 0)
                rw [hdo, app0]; exact h2
              · show K ⟨foldT ops l (putT t (dstOf ops i) (.tup [])), foldH l (h.app [] 0)⟩ (esOf l es)
                rw [hdo, app0]; exact h3
          · rename_i l0 hl0
            split at hE
            · have hgv : gval ops t j = some none := by
                unfold gval dstOf; rw [hd]; simp only; rw [hl0]
              obtain ⟨l, h1, h2, h3⟩ := eopsD_trc r hE
              refine ⟨⟨i, none⟩ :: l, by simp [h1], ⟨⟨o, ho, j, want, none, hg, hgv, rfl⟩, ?_⟩, ?_⟩
              · show Trc P ops l (putT t (dstOf ops i) (.tup [])) (h.app [] 0)
                rw [hdo, app0]; exact h2
              · show K ⟨foldT ops l (putT t (dstOf ops i) (.tup [])), foldH l (h.app [] 0)⟩ (esOf l es)
                rw [hdo, app0]; exact h3
            · exact hE.elim
          · exact hE.elim
end
end Go.AM
end

section
/- AM, part 30: another order of a drawn region. -/
namespace Go.AM
section
variable {P : Program} {z : Ctx0}

structure Sim (z : Ctx0) (nt : Nat) (c : Cx) (t : List V) (h : H) (a : Act) : Prop where
  inv : Inv z c h
  tm : Reps c t a.tmps.toList
  df : a.defers = []
  sz : a.tmps.size = nt

theorem wp_next {o : Oper} {a : Act} {w : World} {N N' : Act → World → Prop} {Q : Exit → Act → World → Prop} (h : o.wp P a w N Q) (hn : ∀ a' w', N a' w' → N' a' w') : o.wp P a w N' Q := by
  unfold Oper.wp at *
  cases hr : (execOp a.eval o).run P w with
  | halt x w' => rw [hr] at h; cases x <;> exact h
  | ok x w' =>
    rw [hr] at h
    cases x <;> first
      | exact hn _ _ h
      | exact h
      | skip
    case enter f args =>
      refine Calls.mono h ?_
      intro e w'' he
      cases e with
      | returned v => exact hn _ _ he
      | panicked ch => exact he
      | outgrown => exact he
    case row r args => exact Rows.mono h fun v w'' => hn _ _

theorem put_size (a : Act) (d : Option Tmp) (v : Value) : (a.put d v).tmps.size = a.tmps.size := by cases d <;> simp [Act.put]
theorem put_defers (a : Act) (d : Option Tmp) (v : Value) : (a.put d v).defers = a.defers := by cases d <;> rfl
theorem put_ok {c : Cx} {t : List V} {a : Act} (ht : Reps c t a.tmps.toList) (d : Option Tmp) {v : V} {u : Value} (hv : Rep c v u) : Reps c (putT t d v) (a.put d u).tmps.toList := by
  cases d with
  | none => exact ht
  | some i =>
    show Reps c (t.set i v) (a.tmps.setIfInBounds i u).toList
    rw [Array.toList_setIfInBounds]
    exact Reps.setU ht i hv

theorem Sim.put {nt : Nat} {c c' : Cx} {t : List V} {h h' : H} {a : Act} (S : Sim z nt c t h a) (I : Inv z c' h') (x : Ext c c') (d : Option Tmp) {v : V} {u : Value} (hv : Rep c' v u) : Sim z nt c' (putT t d v) h' (a.put d u) :=
  ⟨I, put_ok (Reps.ext x _ _ S.tm) d hv, (put_defers _ _ _).trans S.df, (put_size _ _ _).trans S.sz⟩

/-- What is known behind a piece of code. -/
def Lift (z : Ctx0) (nt : Nat) (Q : Exit → St → Prop) (e : Exit) (a : Act) (w : World) : Prop :=
  ∃ σ c, c.w = w ∧ Sim z nt c σ.t σ.h a ∧ Q e σ

theorem tmp_bool {c : Cx} {t : List V} {us : List Value} (ht : Reps c t us) {d : Nat} {b : Bool} (hb : t.getD d .undef = .bool b) : us[d]? = some (.bool b) := by
  have hd : t[d]? = some (.bool b) := by
    rw [List.getD_eq_getElem?_getD] at hb
    cases h : t[d]? with
    | none => rw [h] at hb; cases hb
    | some v => rw [h] at hb; simp only [Option.getD_some] at hb; rw [hb]
  obtain ⟨u, h1, h2⟩ := Reps.get t us ht d _ hd
  rw [h1]; cases h2; rfl


theorem tmp_skip {c : Cx} {t : List V} {us : List Value} (ht : Reps c t us) {d : Nat} (hb : t.getD d .undef = .tup []) : us[d]? = some undef := by
  have hd : t[d]? = some (.tup []) := by
    rw [List.getD_eq_getElem?_getD] at hb
    cases h : t[d]? with
    | none => rw [h] at hb; cases hb
    | some v => rw [h] at hb; simp only [Option.getD_some] at hb; rw [hb]
  obtain ⟨u, h1, h2⟩ := Reps.get t us ht d _ hd
  rw [h1]; obtain ⟨vs, rfl, hv⟩ := h2; cases hv; rfl
theorem skip_rep {c : Cx} : Rep c (.tup []) undef := ⟨[], rfl, rfl⟩

/-! ### folds -/
section
variable {ops : Array Oper}
theorem foldT_app : ∀ (A B : List Ent) (t : List V), foldT ops (A ++ B) t = foldT ops B (foldT ops A t)
  | [], _, _ => rfl
  | e :: A, B, t => foldT_app A B (nxT ops e t)
theorem foldH_app : ∀ (A B : List Ent) (h : H), foldH (A ++ B) h = foldH B (foldH A h)
  | [], _, _ => rfl
  | e :: A, B, h => foldH_app A B (nxH e h)
theorem nxT_len (e : Ent) (t : List V) : (nxT ops e t).length = t.length := by
  unfold nxT putT; split <;> simp
theorem nxT_ne {e : Ent} {t : List V} {d : Nat} (h : dstOf ops e.i ≠ some d) : (nxT ops e t).getD d .undef = t.getD d .undef := by
  unfold nxT putT
  split
  · rename_i v' d' hd
    have : d' ≠ d := by intro e'; rw [e'] at hd; exact h hd
    simp [List.getD_eq_getElem?_getD, List.getElem?_set_ne this]
  · rfl
theorem nxT_congr {e : Ent} {t t' : List V} {d : Nat} (hl : t.length = t'.length) (h : t.getD d .undef = t'.getD d .undef) : (nxT ops e t).getD d .undef = (nxT ops e t').getD d .undef := by
  unfold nxT putT
  split
  · rename_i v' d' hd
    by_cases e' : d' = d
    · subst e'
      simp only [List.getD_eq_getElem?_getD, List.getElem?_set_self']
      by_cases hlt : d' < t'.length
      · simp [hlt, hl]
      · have h1 : t[d']? = none := List.getElem?_eq_none (Nat.le_of_not_lt (by rw [hl]; exact hlt))
        have h2 : t'[d']? = none := List.getElem?_eq_none (Nat.le_of_not_lt hlt)
        simp [h1, h2]
    · simp only [List.getD_eq_getElem?_getD, List.getElem?_set_ne e'] at h ⊢
      exact h
  · exact h
theorem foldT_ne {d : Nat} : ∀ (B : List Ent) (t : List V), (∀ e ∈ B, dstOf ops e.i ≠ some d) → (foldT ops B t).getD d .undef = t.getD d .undef
  | [], _, _ => rfl
  | e :: B, t, h => by
    rw [foldT, foldT_ne B _ (fun x hx => h x (List.mem_cons_of_mem _ hx)), nxT_ne (h e List.mem_cons_self)]
theorem foldT_filter {d : Nat} {f : Ent → Bool} : ∀ (A : List Ent) (t t' : List V), t.length = t'.length → t.getD d .undef = t'.getD d .undef → (∀ e ∈ A, f e = false → dstOf ops e.i ≠ some d) →
    (foldT ops (A.filter f) t).getD d .undef = (foldT ops A t').getD d .undef
  | [], _, _, _, h, _ => h
  | e :: A, t, t', hl, h, hn => by
    by_cases hf : f e = true
    · rw [List.filter_cons_of_pos hf]
      exact foldT_filter A _ _ (by rw [nxT_len, nxT_len, hl]) (nxT_congr hl h) (fun x hx => hn x (List.mem_cons_of_mem _ hx))
    · rw [List.filter_cons_of_neg hf]
      have hf' : f e = false := by simpa using hf
      exact foldT_filter A _ _ (by rw [nxT_len, hl]) (by rw [nxT_ne (hn e List.mem_cons_self hf')]; exact h) (fun x hx => hn x (List.mem_cons_of_mem _ hx))
theorem nxT_comm {a b : Ent} (h : ∀ d, dstOf ops a.i = some d → dstOf ops b.i ≠ some d) (t : List V) : nxT ops a (nxT ops b t) = nxT ops b (nxT ops a t) := by
  unfold nxT putT
  cases ha : dstOf ops a.i with
  | none => rfl
  | some d =>
    cases hb : dstOf ops b.i with
    | none => rfl
    | some d' =>
      have : d ≠ d' := by intro e; subst e; exact h d ha hb
      exact List.set_comm _ _ (Ne.symm this)
theorem foldT_comm {a : Ent} : ∀ (B : List Ent) (t : List V), (∀ b ∈ B, ∀ d, dstOf ops a.i = some d → dstOf ops b.i ≠ some d) → foldT ops B (nxT ops a t) = nxT ops a (foldT ops B t)
  | [], _, _ => rfl
  | b :: B, t, h => by
    rw [foldT, ← nxT_comm (h b List.mem_cons_self), foldT_comm B _ (fun x hx => h x (List.mem_cons_of_mem _ hx))]
    rfl

/-- The same blocks. -/
structure Eqv (h h' : H) : Prop where
  n : h.n = h'.n
  b : ∀ k, getB h.b k = getB h'.b k
theorem Eqv.refl (h : H) : Eqv h h := ⟨rfl, fun _ => rfl⟩
theorem Eqv.symm' {a b : H} (x : Eqv a b) : Eqv b a := ⟨x.n.symm, fun k => (x.b k).symm⟩
theorem Eqv.trans {a b c : H} (x : Eqv a b) (y : Eqv b c) : Eqv a c := ⟨x.n.trans y.n, fun k => (x.b k).trans (y.b k)⟩
theorem getB_updB (k : Nat) : ∀ (u : List (Nat × Option Blk)) (b b' : List (Nat × Blk)), getB b k = getB b' k → getB (updB b u) k = getB (updB b' u) k
  | [], _, _, h => h
  | (i, none) :: u, b, b', h => getB_updB k u _ _ (by rw [getB_delB, getB_delB, h])
  | (i, some x) :: u, b, b', h => getB_updB k u _ _ (by rw [getB_setB, getB_setB, h])
theorem getB_updB_ne {k : Nat} : ∀ (u : List (Nat × Option Blk)) (b : List (Nat × Blk)), k ∉ u.map (·.1) → getB (updB b u) k = getB b k
  | [], _, _ => rfl
  | (i, none) :: u, b, h => by
    simp only [List.map_cons, List.mem_cons, not_or] at h
    rw [updB, getB_updB_ne u _ h.2, getB_delB, if_neg h.1]
  | (i, some x) :: u, b, h => by
    simp only [List.map_cons, List.mem_cons, not_or] at h
    rw [updB, getB_updB_ne u _ h.2, getB_setB, if_neg h.1]
theorem keys_u (e : Ent) : e.keys = e.u.map (·.1) := by unfold Ent.keys Ent.u; cases e.d <;> rfl
theorem nxH_ne {e : Ent} {h : H} {k : Nat} (hk : k ∉ e.keys) : getB (nxH e h).b k = getB h.b k := getB_updB_ne _ _ (by rw [← keys_u]; exact hk)
theorem nxH_congr {e : Ent} {h h' : H} {k : Nat} (hk : getB h.b k = getB h'.b k) : getB (nxH e h).b k = getB (nxH e h').b k := getB_updB k _ _ _ hk
theorem nxH_eqv {e : Ent} {h h' : H} (x : Eqv h h') : Eqv (nxH e h) (nxH e h') := ⟨by show h.n + _ = h'.n + _; rw [x.n], fun k => nxH_congr (x.b k)⟩
theorem foldH_eqv : ∀ (B : List Ent) {h h' : H}, Eqv h h' → Eqv (foldH B h) (foldH B h')
  | [], _, _, x => x
  | _ :: B, _, _, x => foldH_eqv B (nxH_eqv x)
theorem nxH_comm {a b : Ent} (hd : ∀ k ∈ a.keys, k ∉ b.keys) (h : H) : Eqv (nxH a (nxH b h)) (nxH b (nxH a h)) := by
  refine ⟨by show h.n + _ + _ = h.n + _ + _; omega, fun k => ?_⟩
  by_cases ha : k ∈ a.keys
  · rw [nxH_ne (e := b) (hd k ha)]
    exact nxH_congr (nxH_ne (hd k ha))
  · rw [nxH_ne (e := a) ha]
    exact (nxH_congr (e := b) (h := nxH a h) (h' := h) (nxH_ne ha)).symm
theorem foldH_comm {a : Ent} : ∀ (B : List Ent) (h : H), (∀ b ∈ B, ∀ k ∈ a.keys, k ∉ b.keys) → Eqv (foldH B (nxH a h)) (nxH a (foldH B h))
  | [], _, _ => Eqv.refl _
  | b :: B, h, hd => (foldH_eqv B (nxH_comm (a := a) (b := b) (hd b List.mem_cons_self) h)).symm' |>.trans (foldH_comm B _ (fun x hx => hd x (List.mem_cons_of_mem _ hx)))
theorem foldH_ne {k : Nat} : ∀ (B : List Ent) (h : H), (∀ e ∈ B, k ∉ e.keys) → getB (foldH B h).b k = getB h.b k
  | [], _, _ => rfl
  | e :: B, h, hn => by rw [foldH, foldH_ne B _ (fun x hx => hn x (List.mem_cons_of_mem _ hx)), nxH_ne (hn e List.mem_cons_self)]
theorem foldH_filter {k : Nat} {f : Ent → Bool} : ∀ (A : List Ent) (h h' : H), getB h.b k = getB h'.b k → (∀ e ∈ A, f e = false → k ∉ e.keys) → getB (foldH (A.filter f) h).b k = getB (foldH A h').b k
  | [], _, _, h, _ => h
  | e :: A, h, h', hb, hn => by
    by_cases hf : f e = true
    · rw [List.filter_cons_of_pos hf]
      exact foldH_filter A _ _ (nxH_congr hb) (fun x hx => hn x (List.mem_cons_of_mem _ hx))
    · rw [List.filter_cons_of_neg hf]
      have hf' : f e = false := by simpa using hf
      exact foldH_filter A _ _ (by rw [nxH_ne (hn e List.mem_cons_self hf')]; exact hb) (fun x hx => hn x (List.mem_cons_of_mem _ hx))
theorem foldH_n : ∀ (B : List Ent) (h : H), (∀ e ∈ B, e.nw = 0) → (foldH B h).n = h.n
  | [], _, _ => rfl
  | e :: B, h, hn => by rw [foldH, foldH_n B _ (fun x hx => hn x (List.mem_cons_of_mem _ hx))]; show h.n + e.nw = _; rw [hn e List.mem_cons_self]; rfl
theorem foldH_n_filter {f : Ent → Bool} : ∀ (A : List Ent) (h h' : H), h.n = h'.n → (∀ e ∈ A, f e = false → e.nw = 0) → (foldH (A.filter f) h).n = (foldH A h').n
  | [], _, _, h, _ => h
  | e :: A, h, h', hb, hn => by
    by_cases hf : f e = true
    · rw [List.filter_cons_of_pos hf]
      exact foldH_n_filter A _ _ (by show h.n + _ = h'.n + _; rw [hb]) (fun x hx => hn x (List.mem_cons_of_mem _ hx))
    · rw [List.filter_cons_of_neg hf]
      have hf' : f e = false := by simpa using hf
      exact foldH_n_filter A _ _ (by show h.n = h'.n + e.nw; rw [hn e List.mem_cons_self hf', hb]; rfl) (fun x hx => hn x (List.mem_cons_of_mem _ hx))
end
end
end Go.AM
end

section
/- AM, part 31: another order does the same. -/
namespace Go.AM
section
variable {P : Program} {z : Ctx0} {ops : Array Oper}

theorem Trc.split : ∀ (l1 : List Ent) {e : Ent} {l2 : List Ent} {t : List V} {h : H}, Trc P ops (l1 ++ e :: l2) t h → Stp P ops e (foldT ops l1 t) (foldH l1 h)
  | [], _, _, _, _, hT => hT.1
  | _ :: l1, _, _, _, _, hT => Trc.split l1 hT.2

/-- 'j' may come ahead of 'i' or behind it. -/
structure Free (P : Program) (ops : Array Oper) (j i : Ent) : Prop where
  dst : ∀ d, dstOf ops j.i = some d → dstOf ops i.i ≠ some d ∧ d ∉ tmpsOf ops (opAt ops i.i)
  keys : ∀ k ∈ j.keys, k ∉ i.reads ∧ k ∉ i.keys
  nw : allocy P (opAt ops i.i).op = true → j.nw = 0

/-- 'j' ahead of 'i'. -/
def bef (l : List Nat) (j i : Nat) : Prop := ∃ a b, l = a ++ i :: b ∧ j ∈ a
theorem split_uniq {i : Nat} : ∀ {a b c d : List Nat}, a ++ i :: b = c ++ i :: d → i ∉ a → i ∉ c → a = c
  | [], _, [], _, _, _, _ => rfl
  | [], b, y :: c, d, h, _, hc => by
    simp only [List.nil_append, List.cons_append, List.cons.injEq] at h
    exact absurd (by rw [h.1]; exact List.mem_cons_self) hc
  | x :: a, b, [], d, h, ha, _ => by
    simp only [List.nil_append, List.cons_append, List.cons.injEq] at h
    exact absurd (by rw [← h.1]; exact List.mem_cons_self) ha
  | x :: a, b, y :: c, d, h, ha, hc => by
    simp only [List.cons_append, List.cons.injEq] at h
    rw [h.1, split_uniq h.2 (fun hm => ha (List.mem_cons_of_mem _ hm)) (fun hm => hc (List.mem_cons_of_mem _ hm))]
theorem bef_iff {a b : List Nat} {i j : Nat} (hn : (a ++ i :: b).Nodup) : bef (a ++ i :: b) j i ↔ j ∈ a := by
  have hd := List.nodup_append.1 hn
  have hia : i ∉ a := fun hm => hd.2.2 i hm i List.mem_cons_self rfl
  constructor
  · rintro ⟨c, d, h, hj⟩
    have hn' := hn
    rw [h] at hn'
    have hic : i ∉ c := fun hm => (List.nodup_append.1 hn').2.2 i hm i List.mem_cons_self rfl
    rw [split_uniq h hia hic]; exact hj
  · intro hj; exact ⟨a, b, rfl, hj⟩

theorem yielded_of {c : Cx} {t : List V} {a : Act} {j : Nat} {b : Option Bool} (ht : Reps c t a.tmps.toList) (hb : gval ops t j = some b) : yielded ops a.tmps j = b := by
  unfold gval at hb
  unfold yielded
  cases hd : dstOf ops j with
  | none => rw [hd] at hb; cases hb
  | some d =>
    have hd' : (ops[j]?).bind (·.dst) = some d := hd
    rw [hd] at hb
    rw [hd']
    simp only [Option.bind_some]
    simp only at hb
    split at hb
    · rename_i b' hb'
      cases hb
      have := tmp_bool ht hb'
      rw [Array.getElem?_toList] at this
      rw [this]
    · rename_i hb'
      cases hb
      have := tmp_skip ht hb'
      rw [Array.getElem?_toList] at this
      rw [this]; rfl
    · cases hb

theorem wpOps_cons {Q : Exit → Act → World → Prop} {i : Nat} {rest : List Nat} {a : Act} {w : World} {o : Oper} (ho : ops[i]? = some o) :
    wpOps P ops Q (i :: rest) a w = if Region.wanted o (yielded ops a.tmps) then o.wp P a w (wpOps P ops Q rest) Q ∨ (o.asks P a w ∧ LetsOut Q) else wpOps P ops Q rest (a.put o.dst undef) w := by
  simp only [wpOps, ho]

theorem reorder {nt : Nat} {Q : Exit → Act → World → Prop} {l : List Ent} {t : List V} {h : H} (hT : Trc P ops l t h) (hnd : (l.map (·.i)).Nodup) {τ : List Nat} (hτ : τ.Nodup) (hmem : ∀ i, i ∈ τ ↔ i ∈ l.map (·.i))
    (hF : ∀ e ∈ l, ∀ f ∈ l, e.i ≠ f.i → ((bef (l.map (·.i)) f.i e.i ∧ ¬ bef τ f.i e.i) ∨ (¬ bef (l.map (·.i)) f.i e.i ∧ bef τ f.i e.i)) → Free P ops f e)
    (hQ : ∀ c a h', Sim z nt c (foldT ops l t) h' a → Eqv h' (foldH l h) → Q .normal a c.w) :
    ∀ (rest dn : List Nat), τ = dn ++ rest → ∀ c a h', Sim z nt c (foldT ops (l.filter (fun e => dn.contains e.i)) t) h' a → Eqv h' (foldH (l.filter (fun e => dn.contains e.i)) h) → wpOps P ops Q rest a c.w
  | [], dn, hd, c, a, h', S, hE => by
    have hall : l.filter (fun e => dn.contains e.i) = l := by
      apply List.filter_eq_self.2
      intro e he
      have : e.i ∈ τ := (hmem e.i).2 (List.mem_map.2 ⟨e, he, rfl⟩)
      rw [hd, List.append_nil] at this
      simpa using this
    rw [hall] at S hE
    exact hQ c a h' S hE
  | i :: rest, dn, hd, c, a, h', S, hE => by
    have hi : i ∈ l.map (·.i) := (hmem i).1 (by rw [hd]; simp)
    obtain ⟨e, he, rfl⟩ := List.mem_map.1 hi
    obtain ⟨l1, l2, rfl⟩ := List.append_of_mem he
    have hnτ : (dn ++ e.i :: rest).Nodup := by rw [← hd]; exact hτ
    have hnl : (l1.map (·.i) ++ e.i :: l2.map (·.i)).Nodup := by
      have := hnd; rwa [List.map_append, List.map_cons] at this
    have hbτ : ∀ j, bef τ j e.i ↔ j ∈ dn := fun j => by rw [hd]; exact bef_iff hnτ
    have hbl : ∀ j, bef ((l1 ++ e :: l2).map (·.i)) j e.i ↔ j ∈ l1.map (·.i) := fun j => by
      rw [List.map_append, List.map_cons]; exact bef_iff hnl
    have hedn : e.i ∉ dn := fun hm => (List.nodup_append.1 hnτ).2.2 e.i hm e.i List.mem_cons_self rfl
    have he1 : e.i ∉ l1.map (·.i) := fun hm => (List.nodup_append.1 hnl).2.2 e.i hm e.i List.mem_cons_self rfl
    have he2 : e.i ∉ l2.map (·.i) := by
      have := (List.nodup_append.1 hnl).2.1
      exact (List.nodup_cons.1 this).1
    -- those that wait, those that came ahead
    have fr1 : ∀ f ∈ l1, dn.contains f.i = false → Free P ops f e := by
      intro f hf hc
      have hfi : f.i ∈ l1.map (·.i) := List.mem_map.2 ⟨f, hf, rfl⟩
      have hnc : f.i ∉ dn := by simpa using hc
      refine hF e (by simp) f (by simp [hf]) (fun e' => he1 (by rw [e']; exact hfi)) (.inl ⟨(hbl _).2 hfi, fun hb => hnc ((hbτ _).1 hb)⟩)
    have fr2 : ∀ f ∈ l2.filter (fun e => dn.contains e.i), Free P ops f e := by
      intro f hf
      obtain ⟨hf2, hc⟩ := List.mem_filter.1 hf
      have hfi : f.i ∈ l2.map (·.i) := List.mem_map.2 ⟨f, hf2, rfl⟩
      have hdn : f.i ∈ dn := by simpa using hc
      have hn1 : f.i ∉ l1.map (·.i) := by
        intro hm
        exact (List.nodup_append.1 hnl).2.2 f.i hm f.i (List.mem_cons_of_mem _ hfi) rfl
      refine hF e (by simp) f (by simp [hf2]) (fun e' => he2 (by rw [e']; exact hfi)) (.inr ⟨fun hb => hn1 ((hbl _).1 hb), (hbτ _).2 hdn⟩)
    have hfil : (l1 ++ e :: l2).filter (fun e => dn.contains e.i) = l1.filter (fun e => dn.contains e.i) ++ l2.filter (fun e => dn.contains e.i) := by
      rw [List.filter_append, List.filter_cons_of_neg (by simpa using hedn)]
    have hfil' : (l1 ++ e :: l2).filter (fun x => (dn ++ [e.i]).contains x.i) = l1.filter (fun e => dn.contains e.i) ++ e :: l2.filter (fun e => dn.contains e.i) := by
      have hne : ∀ (l : List Ent), e.i ∉ l.map (·.i) → l.filter (fun x => (dn ++ [e.i]).contains x.i) = l.filter (fun e => dn.contains e.i) := by
        intro l hl
        apply List.filter_congr
        intro x hx
        have : x.i ≠ e.i := fun e' => hl (by rw [← e']; exact List.mem_map.2 ⟨x, hx, rfl⟩)
        simp [this]
      rw [List.filter_append, List.filter_cons_of_pos (by simp), hne l1 he1, hne l2 he2]
    rw [hfil] at S hE
    obtain ⟨o, ho, hs⟩ := Trc.split l1 hT
    have hop : opAt ops e.i = o := by unfold opAt; rw [Array.getD_eq_getD_getElem?, ho]; rfl
    have hdst : dstOf ops e.i = o.dst := by unfold dstOf; rw [ho]; rfl
    -- the operands are what they were
    have tmp : ∀ d, d ∈ tmpsOf ops o → (foldT ops (l1.filter (fun e => dn.contains e.i) ++ l2.filter (fun e => dn.contains e.i)) t).getD d .undef = (foldT ops l1 t).getD d .undef := by
      intro d hdm
      rw [foldT_app, foldT_ne _ _ (fun f hf hd' => ((fr2 f hf).dst d hd').2 (by rw [hop]; exact hdm))]
      exact foldT_filter l1 t t rfl rfl (fun f hf hc hd' => ((fr1 f hf hc).dst d hd').2 (by rw [hop]; exact hdm))
    have evs : ∀ x ∈ opds o.op, ev (foldT ops (l1.filter (fun e => dn.contains e.i) ++ l2.filter (fun e => dn.contains e.i)) t) x = ev (foldT ops l1 t) x := by
      intro x hx
      cases x with
      | tmp d => exact tmp d (by unfold tmpsOf; exact List.mem_append.2 (.inl (List.mem_filterMap.2 ⟨.tmp d, hx, rfl⟩)))
      | _ => rfl
    have gv : ∀ {j want b}, o.guard = some (j, want) → gval ops (foldT ops l1 t) j = some b → gval ops (foldT ops (l1.filter (fun e => dn.contains e.i) ++ l2.filter (fun e => dn.contains e.i)) t) j = some b := by
      intro j want b hg hb
      unfold gval at hb ⊢
      cases hd' : dstOf ops j with
      | none => rw [hd'] at hb; cases hb
      | some d =>
        rw [hd'] at hb
        simp only at hb ⊢
        rw [tmp d (by
          unfold tmpsOf
          refine List.mem_append.2 (.inr ?_)
          rw [hg]
          have : (ops[j]?).bind (·.dst) = some d := hd'
          simp [this])]
        exact hb
    -- what comes behind
    have nextT : nxT ops e (foldT ops (l1.filter (fun e => dn.contains e.i) ++ l2.filter (fun e => dn.contains e.i)) t) = foldT ops (l1.filter (fun e => dn.contains e.i) ++ e :: l2.filter (fun e => dn.contains e.i)) t := by
      rw [foldT_app, foldT_app]
      show _ = foldT ops _ (nxT ops e _)
      rw [foldT_comm _ _ (fun b hb d hd1 hd2 => ((fr2 b hb).dst d hd2).1 hd1)]
    have nextH : Eqv (nxH e h') (foldH (l1.filter (fun e => dn.contains e.i) ++ e :: l2.filter (fun e => dn.contains e.i)) h) := by
      refine (nxH_eqv hE).trans ?_
      rw [foldH_app, foldH_app]
      exact (foldH_comm _ _ (fun b hb k hk hk' => ((fr2 b hb).keys k hk').2 hk)).symm'
    have go := reorder hT hnd hτ hmem hF hQ rest (dn ++ [e.i]) (by rw [hd]; simp)
    rw [hfil'] at go
    rw [wpOps_cons ho]
    cases hed : e.d with
    | none =>
      rw [hed] at hs
      obtain ⟨j, want, b, hg, hb, hbw⟩ := hs
      have hy := yielded_of S.tm (gv hg hb)
      have hw : Region.wanted o (yielded ops a.tmps) = false := by
        unfold Region.wanted; rw [hg]; simp only [hy]; exact hbw
      rw [hw, if_neg (by simp)]
      have hv : e.val = .tup [] := by unfold Ent.val; rw [hed]
      refine go c (a.put o.dst undef) h' ?_ ?_
      · rw [← nextT]
        unfold nxT
        rw [hdst, hv]
        exact S.put S.inv (Ext.refl c) o.dst (v := .tup []) (u := undef) skip_rep
      · have : nxH e h' = h' := by unfold nxH Ent.u Ent.nw; rw [hed]; simp
        rw [this] at nextH; exact nextH
    | some d =>
      rw [hed] at hs
      obtain ⟨hg, hx, hh⟩ := hs
      have hw : Region.wanted o (yielded ops a.tmps) = true := by
        unfold Region.wanted
        rcases hg with hg | ⟨j, want, hg, hb⟩
        · rw [hg]
        · rw [hg]; simp only [yielded_of S.tm (gv hg hb)]; simp
      rw [hw, if_pos rfl]
      have hu : e.u = d.u := by unfold Ent.u; rw [hed]
      have hnw : e.nw = d.nw := by unfold Ent.nw; rw [hed]
      have hr : e.reads = d.rs := by unfold Ent.reads; rw [hed]
      have hv : e.val = d.v := by unfold Ent.val; rw [hed]
      have hop' := hx.2 _ h' evs (fun k hk => by
          show getB h'.b k = getB _ k
          rw [hE.b k, foldH_app, foldH_ne _ _ (fun f hf hk' => ((fr2 f hf).keys k hk').1 (by rw [hr]; exact hk))]
          exact foldH_filter l1 h h rfl (fun f hf hc hk' => ((fr1 f hf hc).keys k hk').1 (by rw [hr]; exact hk)))
        (fun ha => by
          rw [hE.n, foldH_app, foldH_n _ _ (fun f hf => (fr2 f hf).nw (by rw [hop]; exact ha))]
          exact foldH_n_filter l1 h h rfl (fun f hf hc => (fr1 f hf hc).nw (by rw [hop]; exact ha)))
      refine .inl (wp_next (eop_ok S.inv S.tm hop') ?_)
      rintro a' w' ⟨v', h'', c', u', ⟨rfl, rfl⟩, I', x, rfl, hv', rfl⟩
      refine go c' (a.put o.dst u') (h'.app d.u d.nw) ?_ ?_
      · rw [← nextT]
        unfold nxT
        rw [hdst, hv]
        exact S.put I' x o.dst hv'
      · have : nxH e h' = h'.app d.u d.nw := by unfold nxH; rw [hu, hnw]
        rw [← this]; exact nextH
end
end Go.AM
end

section
/- AM, part 32: the orders that a drawn region may take. -/
namespace Go.AM
section
variable {P : Program} {z : Ctx0} {ops : Array Oper}

def Lin (m : Region.Mode) (ops : Array Oper) (σ : List Nat) : Prop := ∀ a i b, σ = a ++ i :: b → ∀ e ∈ (opAt ops i).after.toList, Region.binds m e = true → e.on ∈ a
structure Good (m : Region.Mode) (ops : Array Oper) (σ : List Nat) : Prop where
  nd : σ.Nodup
  mem : ∀ i, i ∈ σ ↔ i < ops.size
  lin : Lin m ops σ

theorem validGo_spec {m : Region.Mode} : ∀ (σ seen : List Nat), validGo m ops seen σ = true → σ.Nodup ∧ (∀ i ∈ σ, i ∉ seen ∧ i < ops.size) ∧ ∀ a i b, σ = a ++ i :: b → ∀ e ∈ (opAt ops i).after.toList, Region.binds m e = true → e.on ∈ a ∨ e.on ∈ seen
  | [], seen, _ => ⟨List.nodup_nil, (fun _ h => by cases h), (fun a i b h => by cases a <;> cases h)⟩
  | x :: r, seen, h => by
    simp only [validGo, Bool.and_eq_true, Bool.not_eq_true', decide_eq_true_eq] at h
    obtain ⟨⟨⟨h1, h2⟩, h3⟩, h4⟩ := h
    obtain ⟨g1, g2, g3⟩ := validGo_spec r (x :: seen) h4
    have hx : x ∉ seen := by simpa using h1
    refine ⟨List.nodup_cons.2 ⟨fun hm => (g2 x hm).1 List.mem_cons_self, g1⟩, fun i hi => ?_, fun a i b he e hm hb => ?_⟩
    · rcases List.mem_cons.1 hi with rfl | hi
      · exact ⟨hx, h2⟩
      · exact ⟨fun hm => (g2 i hi).1 (List.mem_cons_of_mem _ hm), (g2 i hi).2⟩
    · cases a with
      | nil =>
        simp only [List.nil_append, List.cons.injEq] at he
        obtain ⟨rfl, rfl⟩ := he
        have := List.all_eq_true.1 h3 e hm
        rw [hb] at this
        right; simpa using this
      | cons y a =>
        simp only [List.cons_append, List.cons.injEq] at he
        obtain ⟨rfl, rfl⟩ := he
        rcases g3 a i b rfl e hm hb with q | q
        · exact .inl (List.mem_cons_of_mem _ q)
        · rcases List.mem_cons.1 q with q | q
          · left; rw [q]; exact List.mem_cons_self
          · exact .inr q
theorem valid_spec {m : Region.Mode} {σ : List Nat} (h : valid m ops σ = true) : Good m ops σ := by
  unfold valid at h
  simp only [Bool.and_eq_true] at h
  obtain ⟨g1, g2, g3⟩ := validGo_spec σ [] h.1
  refine ⟨g1, fun i => ⟨fun hi => (g2 i hi).2, fun hi => ?_⟩, fun a i b he e hm hb => ?_⟩
  · have := List.all_eq_true.1 h.2 i (List.mem_range.2 hi)
    simpa using this
  · rcases g3 a i b he e hm hb with q | q
    · exact q
    · cases q
theorem binds_any {m : Region.Mode} {e : Edge} (h : Region.binds .any e = true) : Region.binds m e = true := by
  unfold Region.binds at h ⊢
  revert h
  cases e.ground <;> intro h <;> first | rfl | (exact absurd (show (false : Bool) = true from h) (by decide))
theorem Good.any {m : Region.Mode} {σ : List Nat} (g : Good m ops σ) : Good .any ops σ := ⟨g.nd, g.mem, fun a i b he e hm hb => g.lin a i b he e hm (binds_any hb)⟩

theorem nodup_le : ∀ {l m : List Nat}, l.Nodup → (∀ x ∈ l, x ∈ m) → l.length ≤ m.length
  | [], _, _, _ => Nat.zero_le _
  | x :: l, m, hn, hs => by
    have hx := hs x List.mem_cons_self
    obtain ⟨h1, h2⟩ := List.nodup_cons.1 hn
    have := nodup_le (m := m.erase x) h2 (fun y hy => (List.mem_erase_of_ne (fun e => h1 (by rw [← e]; exact hy))).2 (hs y (List.mem_cons_of_mem _ hy)))
    rw [List.length_erase_of_mem hx] at this
    have : 0 < m.length := List.length_pos_of_mem hx
    simp only [List.length_cons]; omega
theorem first_not (acc : List Nat) : ∀ (σ : List Nat), (∃ x ∈ σ, x ∉ acc) → ∃ a i b, σ = a ++ i :: b ∧ i ∉ acc ∧ ∀ x ∈ a, x ∈ acc
  | [], h => by obtain ⟨x, h, _⟩ := h; cases h
  | y :: σ, h => by
    by_cases hy : y ∈ acc
    · obtain ⟨a, i, b, h1, h2, h3⟩ := first_not acc σ (by
        obtain ⟨x, hx, hn⟩ := h
        rcases List.mem_cons.1 hx with rfl | hx
        · exact absurd hy hn
        · exact ⟨x, hx, hn⟩)
      refine ⟨y :: a, i, b, by rw [h1]; rfl, h2, fun x hx => ?_⟩
      rcases List.mem_cons.1 hx with rfl | hx
      · exact hy
      · exact h3 x hx
    · exact ⟨[], y, σ, rfl, hy, fun _ h => by cases h⟩
theorem opAt_lt {i : Nat} (h : i < ops.size) : ops[i]? = some (opAt ops i) := by
  unfold opAt; rw [Array.getD_eq_getD_getElem?, Array.getElem?_eq_getElem h]; rfl

theorem lin_go {m : Region.Mode} {σ : List Nat} (gs : Good m ops σ) : ∀ (fuel t : Nat) (listed : Array Bool) (acc : List Nat), fuel + acc.length = ops.size → listed.size = ops.size → (∀ i, i < ops.size → (listed[i]? = some true ↔ i ∈ acc)) → acc.Nodup → (∀ i ∈ acc, i < ops.size) →
    Lin m ops acc.reverse → Good m ops (Region.linearise.go m ops fuel t listed acc)
  | 0, t, listed, acc, hf, hs, hl, hn, hlt, hlin => by
    unfold Region.linearise.go
    refine ⟨(List.reverse_perm acc).nodup_iff.2 hn, fun i => ⟨fun hi => hlt i (List.mem_reverse.1 hi), fun hi => ?_⟩, hlin⟩
    apply Decidable.byContradiction
    intro hc
    have hc' : i ∉ acc := fun h => hc (List.mem_reverse.2 h)
    have h1 := nodup_le (l := i :: acc) (m := List.range ops.size) (List.nodup_cons.2 ⟨hc', hn⟩) (fun x hx => by
      rcases List.mem_cons.1 hx with rfl | hx
      · exact List.mem_range.2 hi
      · exact List.mem_range.2 (hlt x hx))
    simp only [List.length_cons, List.length_range] at h1
    omega
  | fuel + 1, t, listed, acc, hf, hs, hl, hn, hlt, hlin => by
    unfold Region.linearise.go
    simp only
    have gd : ∀ i, i < ops.size → (listed.getD i false = true ↔ i ∈ acc) := fun i hi => by
      rw [← hl i hi, Array.getD_eq_getD_getElem?]
      have : i < listed.size := by omega
      rw [Array.getElem?_eq_getElem this]
      simp
    have gd' : ∀ i, i < ops.size → (listed.getD i true = false ↔ i ∉ acc) := fun i hi => by
      rw [← hl i hi, Array.getD_eq_getD_getElem?]
      have : i < listed.size := by omega
      rw [Array.getElem?_eq_getElem this]
      simp
    have gdb : ∀ i, listed.getD i false = true → i ∈ acc := fun i hi => by
      by_cases h : i < ops.size
      · exact (gd i h).1 hi
      · rw [Array.getD_eq_getD_getElem?, Array.getElem?_eq_none (by omega)] at hi; cases hi
    have ready : ∀ i, i ∈ (List.range ops.size).filter (fun i => !listed.getD i true && ((ops[i]?).map (·.after.all fun e => !Region.binds m e || listed.getD e.on false)).getD false) → i < ops.size ∧ i ∉ acc ∧ ∀ e ∈ (opAt ops i).after.toList, Region.binds m e = true → e.on ∈ acc := by
      intro i hi
      obtain ⟨h1, h2⟩ := List.mem_filter.1 hi
      have hi' := List.mem_range.1 h1
      simp only [Bool.and_eq_true, Bool.not_eq_true'] at h2
      refine ⟨hi', (gd' i hi').1 h2.1, fun e he hb => ?_⟩
      have h3 := h2.2
      rw [opAt_lt hi'] at h3
      simp only [Option.map_some, Option.getD_some] at h3
      rw [← Array.all_toList] at h3
      have := List.all_eq_true.1 h3 e he
      rw [hb] at this
      exact gdb e.on (by simpa using this)
    have some_ready : ∃ i, i ∈ (List.range ops.size).filter (fun i => !listed.getD i true && ((ops[i]?).map (·.after.all fun e => !Region.binds m e || listed.getD e.on false)).getD false) := by
      obtain ⟨a, i, b, h1, h2, h3⟩ := first_not acc σ (by
        apply Decidable.byContradiction
        intro hc
        have hsub : ∀ x ∈ List.range ops.size, x ∈ acc := by
          intro x hx
          apply Decidable.byContradiction
          intro hx'
          exact hc ⟨x, (gs.mem x).2 (List.mem_range.1 hx), hx'⟩
        have := nodup_le List.nodup_range hsub
        simp only [List.length_range] at this
        omega)
      have hi : i < ops.size := (gs.mem i).1 (by rw [h1]; simp)
      refine ⟨i, List.mem_filter.2 ⟨List.mem_range.2 hi, ?_⟩⟩
      rw [opAt_lt hi]
      simp only [Bool.and_eq_true, Bool.not_eq_true', Option.map_some, Option.getD_some]
      refine ⟨(gd' i hi).2 h2, ?_⟩
      rw [← Array.all_toList]
      refine List.all_eq_true.2 fun e he => ?_
      cases hb : Region.binds m e with
      | false => rfl
      | true =>
        have hon := gs.lin a i b h1 e he hb
        have hlt' : e.on < ops.size := (gs.mem e.on).1 (by rw [h1]; simp [hon])
        simp [(gd e.on hlt').2 (h3 _ hon)]
    generalize hrs : (List.range ops.size).filter (fun i => !listed.getD i true && ((ops[i]?).map (·.after.all fun e => !Region.binds m e || listed.getD e.on false)).getD false) = rs at ready some_ready
    have hpos : 0 < rs.length := by obtain ⟨i, hi⟩ := some_ready; exact List.length_pos_of_mem hi
    split
    · rename_i i hi
      have him : i ∈ rs := List.mem_of_getElem? hi
      obtain ⟨r1, r2, r3⟩ := ready i him
      refine lin_go gs fuel _ _ (i :: acc) (by simp only [List.length_cons]; omega) (by simp [hs]) (fun j hj => ?_) (List.nodup_cons.2 ⟨r2, hn⟩) (fun j hj => ?_) ?_
      · rw [Array.getElem?_setIfInBounds]
        by_cases hij : i = j
        · subst hij; rw [if_pos rfl, if_pos (by omega)]; simp
        · rw [if_neg hij, hl j hj, List.mem_cons]
          exact ⟨fun h => .inr h, fun h => h.resolve_left (fun e => hij e.symm)⟩
      · rcases List.mem_cons.1 hj with rfl | hj
        · exact r1
        · exact hlt j hj
      · rw [List.reverse_cons]
        intro a j b he e hm hb
        rcases List.eq_nil_or_concat b with rfl | ⟨b', x, rfl⟩
        · have h2 := List.append_inj' he (by simp)
          simp only [List.cons.injEq, and_true] at h2
          obtain ⟨h2, h3⟩ := h2
          subst h3
          rw [← h2]
          exact List.mem_reverse.2 (r3 e hm hb)
        · have he' : acc.reverse ++ [i] = (a ++ j :: b') ++ [x] := by rw [he]; simp
          have h2 := List.append_inj' he' (by simp)
          exact hlin a j b' h2.1 e hm hb
    · rename_i hnone
      have := List.getElem?_eq_none_iff.1 hnone
      have := Nat.mod_lt t hpos
      omega

theorem linearise_good {m : Region.Mode} {σ : List Nat} (gs : Good m ops σ) (t : Nat) : Good m ops (Region.linearise m ops t) := by
  unfold Region.linearise
  refine lin_go gs ops.size t _ [] (by simp) (by simp) (fun i hi => by simp [hi]) List.nodup_nil (fun _ h => by cases h) ?_
  intro a i b he
  cases a <;> cases he
end
end Go.AM
end

section
/- AM, part 33: a drawn region. -/
namespace Go.AM
section
variable {P : Program} {z : Ctx0} {ops : Array Oper}

/-! ### what the masks say -/
inductive Prec (ops : Array Oper) : Nat → Nat → Prop
  | edge {i j : Nat} (e : Edge) (hm : e ∈ (opAt ops j).after.toList) (hb : Region.binds .any e = true) (hi : e.on = i) : Prec ops i j
  | step {i k j : Nat} (e : Edge) (hm : e ∈ (opAt ops j).after.toList) (hb : Region.binds .any e = true) (hk : e.on = k) (h : Prec ops i k) : Prec ops i j
theorem maskOf_bit {acc : List Nat} {i : Nat} : ∀ {es : List Edge}, (maskOf acc es).testBit i = true → ∃ e ∈ es, Region.binds .any e = true ∧ (e.on = i ∨ (acc.getD e.on 0).testBit i = true)
  | [], h => by simp [maskOf] at h
  | e :: r, h => by
    simp only [maskOf] at h
    split at h
    · rename_i hb
      rw [Nat.testBit_or, Nat.testBit_or] at h
      simp only [Bool.or_eq_true] at h
      rcases h with (h | h) | h
      · rw [Nat.testBit_two_pow] at h
        exact ⟨e, List.mem_cons_self, hb, .inl (by simpa using h)⟩
      · exact ⟨e, List.mem_cons_self, hb, .inr h⟩
      · obtain ⟨e', h1, h2⟩ := maskOf_bit h
        exact ⟨e', List.mem_cons_of_mem _ h1, h2⟩
    · obtain ⟨e', h1, h2⟩ := maskOf_bit h
      exact ⟨e', List.mem_cons_of_mem _ h1, h2⟩
theorem masksGo_spec : ∀ (r : List Oper) (acc : List Nat), (∀ j o, r[j]? = some o → opAt ops (acc.length + j) = o) → (∀ j i, (acc.getD j 0).testBit i = true → Prec ops i j) → ∀ j i, ((masksGo acc r).getD j 0).testBit i = true → Prec ops i j
  | [], acc, _, h, j, i, hb => h j i hb
  | o :: r, acc, ho, h, j, i, hb => by
    refine masksGo_spec r (acc ++ [maskOf acc o.after.toList]) (fun j o' hj => ?_) (fun j i hb => ?_) j i hb
    · have := ho (j + 1) o' (by simpa using hj)
      rw [← this]; congr 1; simp; omega
    · rw [List.getD_eq_getElem?_getD] at hb
      rcases Nat.lt_trichotomy j acc.length with hj | hj | hj
      · rw [List.getElem?_append_left hj, ← List.getD_eq_getElem?_getD] at hb
        exact h j i hb
      · subst hj
        rw [List.getElem?_append_right (Nat.le_refl _)] at hb
        simp only [Nat.sub_self, List.getElem?_cons_zero, Option.getD_some] at hb
        obtain ⟨e, h1, h2, h3⟩ := maskOf_bit hb
        have ho' : opAt ops acc.length = o := by have := ho 0 o rfl; simpa using this
        rcases h3 with h3 | h3
        · exact .edge e (by rw [ho']; exact h1) h2 h3
        · exact .step e (by rw [ho']; exact h1) h2 rfl (h e.on i h3)
      · rw [List.getElem?_eq_none (by simp; omega)] at hb
        simp at hb
theorem ahead_prec {i j : Nat} (h : ahead (masks ops) i j = true) : Prec ops i j := by
  refine masksGo_spec ops.toList [] (fun j o hj => ?_) (fun j i hb => by simp at hb) j i h
  simp only [List.length_nil, Nat.zero_add]
  rw [Array.getElem?_toList] at hj
  unfold opAt; rw [Array.getD_eq_getD_getElem?, hj]; rfl

theorem mem_split {l : List Nat} {i : Nat} (h : i ∈ l) : ∃ a b, l = a ++ i :: b := List.append_of_mem h
theorem bef_trans {σ : List Nat} (hn : σ.Nodup) {i k j : Nat} (h1 : bef σ k j) (h2 : bef σ i k) : bef σ i j := by
  obtain ⟨a, b, rfl, hk⟩ := h1
  obtain ⟨a1, a2, rfl⟩ := mem_split hk
  have e1 : (a1 ++ k :: a2) ++ j :: b = a1 ++ k :: (a2 ++ j :: b) := by simp
  rw [e1] at hn h2
  have hi := (bef_iff hn).1 h2
  exact ⟨a1 ++ k :: a2, b, rfl, List.mem_append.2 (.inl hi)⟩
theorem bef_mem {σ : List Nat} {i j : Nat} (h : bef σ i j) : i ∈ σ := by
  obtain ⟨a, b, rfl, hi⟩ := h; exact List.mem_append.2 (.inl hi)
theorem Good.prec {σ : List Nat} (g : Good .any ops σ) {i j : Nat} (h : Prec ops i j) : j ∈ σ → bef σ i j := by
  induction h with
  | edge e hm hb hi =>
    intro hj
    obtain ⟨a, b, hs⟩ := mem_split hj
    exact ⟨a, b, hs, by rw [← hi]; exact g.lin a _ b hs e hm hb⟩
  | step e hm hb hk _ ih =>
    intro hj
    obtain ⟨a, b, hs⟩ := mem_split hj
    have hka := g.lin a _ b hs e hm hb
    rw [hk] at hka
    have h1 : bef σ _ _ := ⟨a, b, hs, hka⟩
    exact bef_trans g.nd h1 (ih (bef_mem h1))
theorem bef_asymm {σ : List Nat} (hn : σ.Nodup) {i j : Nat} (h : bef σ i j) : ¬ bef σ j i := by
  obtain ⟨a, b, rfl, hi⟩ := h
  obtain ⟨a1, a2, rfl⟩ := mem_split hi
  intro h2
  have e1 : (a1 ++ i :: a2) ++ j :: b = a1 ++ i :: (a2 ++ j :: b) := by simp
  rw [e1] at hn h2
  have hj := (bef_iff hn).1 h2
  exact (List.nodup_append.1 hn).2.2 j hj j (by simp) rfl
theorem bef_filter {σ : List Nat} (hn : σ.Nodup) {f : Nat → Bool} {i j : Nat} (hi : f i = true) (hj : f j = true) (hm : j ∈ σ) : bef (σ.filter f) i j ↔ bef σ i j := by
  obtain ⟨a, b, rfl⟩ := mem_split hm
  have e1 : (a ++ j :: b).filter f = a.filter f ++ j :: b.filter f := by rw [List.filter_append, List.filter_cons_of_pos hj]
  have hn' : (a.filter f ++ j :: b.filter f).Nodup := by rw [← e1]; exact hn.filter _
  rw [e1, bef_iff hn', bef_iff hn, List.mem_filter]
  exact ⟨fun h => h.1, fun h => ⟨h, hi⟩⟩
end
end Go.AM
end

section
/- AM, part 34: a drawn region is sound. -/
namespace Go.AM
section
variable {P : Program} {z : Ctx0} {ops : Array Oper}

theorem exts_mem (ms : List Nat) : ∀ (k : Nat) (A α : List Nat), A.length = k → A.Nodup → α.Nodup → (∀ i, i ∈ α ↔ i ∈ A) → (∀ j i, ahead ms j i = true → j ∈ α → i ∈ α → bef α j i) → α ∈ exts ms k A
  | 0, A, α, hl, _, _, hm, _ => by
    have hA : A = [] := List.eq_nil_of_length_eq_zero hl
    subst hA
    have : α = [] := List.eq_nil_iff_forall_not_mem.2 fun x hx => by have := (hm x).1 hx; cases this
    subst this
    simp [exts]
  | k + 1, A, α, hl, hA, hα, hm, ho => by
    cases A with
    | nil => simp at hl
    | cons y A' =>
      cases α with
      | nil => have := (hm y).2 List.mem_cons_self; cases this
      | cons x α' =>
        have hxA : x ∈ y :: A' := (hm x).1 List.mem_cons_self
        obtain ⟨hx1, hx2⟩ := List.nodup_cons.1 hα
        simp only [exts]
        refine List.mem_flatMap.2 ⟨x, List.mem_filter.2 ⟨hxA, ?_⟩, List.mem_map.2 ⟨α', ?_, rfl⟩⟩
        · refine List.all_eq_true.2 fun b hb => ?_
          cases hc : ahead ms b x with
          | false => rfl
          | true =>
            exfalso
            have hbα := (hm b).2 hb
            have := ho b x hc hbα List.mem_cons_self
            have h2 : bef ([] ++ x :: α') b x := this
            have := (bef_iff (a := []) (by simpa using hα)).1 h2
            cases this
        · refine exts_mem ms k _ α' (by rw [List.length_erase_of_mem hxA]; simp only [List.length_cons] at hl ⊢; omega) (hA.erase x) hx2 (fun i => ?_) (fun j i hc hj hi => ?_)
          · constructor
            · intro hi
              have hne : i ≠ x := fun e => hx1 (by rw [← e]; exact hi)
              exact (List.mem_erase_of_ne hne).2 ((hm i).1 (List.mem_cons_of_mem _ hi))
            · intro hi
              have hne : i ≠ x := by
                intro e; subst e
                exact (List.Nodup.not_mem_erase hA) hi
              have := (hm i).2 ((List.mem_erase_of_ne hne).1 hi)
              exact (List.mem_cons.1 this).resolve_left hne
          · have hix : i ≠ x := fun e => hx1 (by rw [← e]; exact hi)
            have hjx : j ≠ x := fun e => hx1 (by rw [← e]; exact hj)
            obtain ⟨a, b, h1, h2⟩ := ho j i hc (List.mem_cons_of_mem _ hj) (List.mem_cons_of_mem _ hi)
            cases a with
            | nil => cases h2
            | cons w a' =>
              simp only [List.cons_append, List.cons.injEq] at h1
              obtain ⟨rfl, rfl⟩ := h1
              exact ⟨a', b, rfl, (List.mem_cons.1 h2).resolve_left hjx⟩

theorem allD_mem {p : List Nat → Prop} : ∀ {l : List (List Nat)}, AllD l p → ∀ s ∈ l, p s
  | [], _, s, hs => by cases hs
  | [x], h, s, hs => by rw [List.mem_singleton.1 hs]; exact h
  | x :: y :: r, h, s, hs => by
    rcases List.mem_cons.1 hs with rfl | hs
    · exact h.1
    · exact allD_mem h.2 s hs

theorem sched_good {mixed : Bool} (h1 : Good .any ops (List.range ops.size)) (h2 : Good .text ops (List.range ops.size)) {σ : List Nat} (h3 : Good .gc ops σ) (t : Nat) : Good .any ops (Region.schedule mixed ops t) := by
  unfold Region.schedule
  split
  · exact linearise_good h1 t
  · split
    · exact (linearise_good h2 _).any
    · exact (linearise_good h3 _).any

/-- What is known of each entry. -/
theorem Trc.ent : ∀ {l : List Ent} {t : List V} {h : H}, Trc P ops l t h → ∀ e ∈ l, ops[e.i]?.isSome = true ∧ (heapy (opAt ops e.i).op = false → e.keys = [] ∧ e.reads = []) ∧ (e.nw ≠ 0 → allocy P (opAt ops e.i).op = true)
  | [], _, _, _, e, he => by cases he
  | x :: l, t, h, hT, e, he => by
    rcases List.mem_cons.1 he with rfl | he
    · obtain ⟨o, ho, hs⟩ := hT.1
      have hop : opAt ops e.i = o := by unfold opAt; rw [Array.getD_eq_getD_getElem?, ho]; rfl
      refine ⟨by rw [ho]; rfl, fun hh => ?_, fun hn => ?_⟩
      · rw [hop] at hh
        cases hd : e.d with
        | none => unfold Ent.keys Ent.reads; rw [hd]; exact ⟨rfl, rfl⟩
        | some d =>
          rw [hd] at hs
          obtain ⟨h1, _, h3⟩ := hs.2.2 hh
          unfold Ent.keys Ent.reads; rw [hd]; simp [h1, h3]
      · rw [hop]
        cases hd : e.d with
        | none => unfold Ent.nw at hn; rw [hd] at hn; exact absurd rfl hn
        | some d =>
          rw [hd] at hs
          unfold Ent.nw at hn; rw [hd] at hn
          exact hs.2.1.1 hn
    · exact Trc.ent hT.2 e he
theorem lookE_es : ∀ (l : List Ent) (es : List TE), (l.map (·.i)).Nodup → ∀ e ∈ l, (∀ q ∈ es, q.1 ≠ e.i) → lookE (esOf l es) e.i = (e.keys, e.reads)
  | [], _, _, e, he, _ => by cases he
  | x :: l, es, hn, e, he, hq => by
    have hn' := List.nodup_cons.1 (by simpa using hn : (x.i :: l.map (·.i)).Nodup)
    have out : ∀ (l : List Ent) (es : List TE) (i : Nat), i ∉ l.map (·.i) → lookE (esOf l es) i = lookE es i := by
      intro l
      induction l with
      | nil => intro es i _; rfl
      | cons y l ih =>
        intro es i hi
        simp only [List.map_cons, List.mem_cons, not_or] at hi
        obtain ⟨yi, yd⟩ := y
        cases yd with
        | none => exact ih es i hi.2
        | some d =>
          rw [esOf, ih _ i hi.2]
          simp only [lookE]
          rw [if_neg (fun e => hi.1 e.symm)]
    rcases List.mem_cons.1 he with rfl | he'
    · obtain ⟨ei, ed⟩ := e
      cases ed with
      | none =>
        rw [esOf, out l es ei hn'.1]
        have : ∀ es : List TE, (∀ q ∈ es, q.1 ≠ ei) → lookE es ei = ([], []) := by
          intro es
          induction es with
          | nil => intro _; rfl
          | cons q r ih =>
            obtain ⟨j, ks, rs⟩ := q
            intro h
            simp only [lookE]
            rw [if_neg (h (j, ks, rs) List.mem_cons_self), ih (fun q hq => h q (List.mem_cons_of_mem _ hq))]
        exact this es hq
      | some d =>
        rw [esOf, out l _ ei hn'.1]
        simp [lookE, Ent.keys, Ent.reads]
    · have hne : x.i ≠ e.i := fun e' => hn'.1 (by rw [e']; exact List.mem_map.2 ⟨e, he', rfl⟩)
      obtain ⟨xi, xd⟩ := x
      cases xd with
      | none => exact lookE_es l es hn'.2 e he' hq
      | some d =>
        refine lookE_es l _ hn'.2 e he' (fun q hq' => ?_)
        rcases List.mem_cons.1 hq' with rfl | hq'
        · exact hne
        · exact hq q hq'
theorem indep_mem : ∀ {l : List (Nat × Nat)} {es : List TE}, Indep l es → ∀ q ∈ l, disj (lookE es q.1).1 (lookE es q.2).1 = true ∧ disj (lookE es q.1).1 (lookE es q.2).2 = true ∧ disj (lookE es q.2).1 (lookE es q.1).2 = true
  | [], _, _, q, hq => by cases hq
  | (i, j) :: r, es, h, q, hq => by
    rcases List.mem_cons.1 hq with rfl | hq
    · exact h.1
    · exact indep_mem h.2 q hq
theorem disj_mem {a b : List Nat} (h : disj a b = true) {k : Nat} (ha : k ∈ a) : k ∉ b := by
  have := List.all_eq_true.1 h k ha
  simpa using this
theorem pairs_mem {n i j : Nat} (hij : i < j) (hj : j < n) : (i, j) ∈ pairs n :=
  List.mem_flatMap.2 ⟨j, List.mem_range.2 hj, List.mem_map.2 ⟨i, List.mem_range.2 hij, rfl⟩⟩

theorem inv_eqv {c : Cx} {h h' : H} (I : Inv z c h) (x : Eqv h h') : Inv z c h' :=
  ⟨I.frame, ⟨fun i y hy => I.hs.blk i y (by rw [x.b]; exact hy), fun i hi => I.hs.dom i (by rw [x.b]; exact hi), I.hs.exc, I.hs.inj, I.hs.lt⟩, I.n.trans x.n, I.oks, I.okn, I.old, I.mn⟩

theorem draw_ok {nt id : Nat} {Q : Exit → St → Prop} {σ : St} {c : Cx} {a : Act} (hck : drawChk P ops = true) (hE : AllD (repsD P ops) fun s => EOpsD P ops s σ.t σ.h [] fun σ' es => Indep (unord ops) es ∧ Q .normal σ') (S : Sim z nt c σ.t σ.h a) :
    (Code.region id ops true).wp P (Lift z nt Q) a c.w := by
  unfold drawChk at hck
  simp only [Bool.and_eq_true] at hck
  obtain ⟨⟨⟨⟨c1, c2⟩, c3⟩, c4⟩, c5⟩ := hck
  have g1 := valid_spec c1
  have g2 := valid_spec c2
  have g3 : ∃ σ, Good .gc ops σ := by
    rw [Bool.or_eq_true] at c3
    rcases c3 with c3 | c3
    · exact ⟨_, valid_spec c3⟩
    · exact ⟨_, valid_spec c3⟩
  obtain ⟨σg, g3⟩ := g3
  refine wp_region_draw fun tp => ?_
  generalize hτ : Region.schedule (P.follows .mixedOrders) ops tp = τ
  have gτ : Good .any ops τ := by rw [← hτ]; exact sched_good g1 g2 g3 tp
  -- the order that stands for this one
  let f : Nat → Bool := fun i => allocy P (opAt ops i).op
  have hα : τ.filter f ∈ exts (masks ops) (allocs P ops).length (allocs P ops) := by
    refine exts_mem _ _ _ _ rfl (List.nodup_range.filter _) (gτ.nd.filter _) (fun i => ?_) (fun j i hc hj hi => ?_)
    · unfold allocs
      rw [List.mem_filter, List.mem_filter, gτ.mem, List.mem_range]
    · obtain ⟨hj1, hj2⟩ := List.mem_filter.1 hj
      obtain ⟨hi1, hi2⟩ := List.mem_filter.1 hi
      exact (bef_filter gτ.nd hj2 hi2 hi1).2 (gτ.prec (ahead_prec hc) hi1)
  have hok := List.all_eq_true.1 c5 _ hα
  rw [Bool.and_eq_true] at hok
  have gσ := valid_spec hok.1
  have hσα : (ordFor ops (allocs P ops) (τ.filter f)).filter f = τ.filter f := by simpa using hok.2
  have hEσ := allD_mem hE (ordFor ops (allocs P ops) (τ.filter f)) (List.mem_map.2 ⟨_, hα, rfl⟩)
  generalize hσ : ordFor ops (allocs P ops) (τ.filter f) = s at gσ hσα hEσ
  obtain ⟨l, hl, hT, hInd, hQ⟩ := eopsD_trc s hEσ
  have hnd : (l.map (·.i)).Nodup := by rw [hl]; exact gσ.nd
  -- the world behind the draw
  obtain ⟨I', x⟩ := S.inv.draw (w' := { c.w with drawn := c.w.drawn + 1 }) rfl rfl rfl rfl
  have S' : Sim z nt { c with w := { c.w with drawn := c.w.drawn + 1 } } σ.t σ.h a := ⟨I', Reps.ext x _ _ S.tm, S.df, S.sz⟩
  have lt_of : ∀ e ∈ l, e.i < ops.size := fun e he => (gσ.mem e.i).1 (by rw [← hl]; exact List.mem_map.2 ⟨e, he, rfl⟩)
  have dst_eq : ∀ e ∈ l, dstOf ops e.i = (opAt ops e.i).dst := fun e he => by unfold dstOf; rw [opAt_lt (lt_of e he)]; rfl
  -- pairs that no edge orders
  have free : ∀ e ∈ l, ∀ g ∈ l, e.i ≠ g.i → ((bef (l.map (·.i)) g.i e.i ∧ ¬ bef τ g.i e.i) ∨ (¬ bef (l.map (·.i)) g.i e.i ∧ bef τ g.i e.i)) → Free P ops g e := by
    intro e he g hg hne hor
    rw [hl] at hor
    have hes := (gσ.mem e.i).2 (lt_of e he)
    have hgs := (gσ.mem g.i).2 (lt_of g hg)
    have het := (gτ.mem e.i).2 (lt_of e he)
    have hgt := (gτ.mem g.i).2 (lt_of g hg)
    have na : ahead (masks ops) g.i e.i = false := by
      cases hc : ahead (masks ops) g.i e.i with
      | false => rfl
      | true =>
        have p1 := gσ.prec (ahead_prec hc) hes
        have p2 := gτ.prec (ahead_prec hc) het
        rcases hor with ⟨_, h2⟩ | ⟨h1, _⟩
        · exact absurd p2 h2
        · exact absurd p1 h1
    have nb : ahead (masks ops) e.i g.i = false := by
      cases hc : ahead (masks ops) e.i g.i with
      | false => rfl
      | true =>
        have p1 := bef_asymm gσ.nd (gσ.prec (ahead_prec hc) hgs)
        have p2 := bef_asymm gτ.nd (gτ.prec (ahead_prec hc) hgt)
        rcases hor with ⟨h1, _⟩ | ⟨_, h2⟩
        · exact absurd h1 p1
        · exact absurd h2 p2
    obtain ⟨_, eh, ea⟩ := Trc.ent hT e he
    obtain ⟨_, gh, ga⟩ := Trc.ent hT g hg
    have lk1 := lookE_es l [] hnd e he (fun _ h => by cases h)
    have lk2 := lookE_es l [] hnd g hg (fun _ h => by cases h)
    refine ⟨fun d hd => ?_, fun k hk => ?_, fun hal => ?_⟩
    · rw [dst_eq g hg] at hd
      rw [dst_eq e he]
      rcases Nat.lt_or_gt_of_ne hne with hlt | hlt
      · have := List.all_eq_true.1 c4 _ (pairs_mem hlt (lt_of g hg))
        simp only [nb, hd, Bool.false_or, Bool.and_eq_true] at this
        obtain ⟨t1, t2⟩ := this
        refine ⟨fun hd' => ?_, by simpa using t2⟩
        rw [hd'] at t1; simp at t1
      · have := List.all_eq_true.1 c4 _ (pairs_mem hlt (lt_of e he))
        simp only [na, hd, Bool.false_or, Bool.and_eq_true] at this
        obtain ⟨t1, _⟩ := this
        refine ⟨fun hd' => ?_, by simpa using t1.2⟩
        rw [hd'] at t1; simp at t1
    · cases heh : heapy (opAt ops e.i).op with
      | false => obtain ⟨k1, k2⟩ := eh heh; rw [k1, k2]; simp
      | true =>
        cases hgh : heapy (opAt ops g.i).op with
        | false => obtain ⟨k1, _⟩ := gh hgh; rw [k1] at hk; cases hk
        | true =>
          rcases Nat.lt_or_gt_of_ne hne with hlt | hlt
          · have := indep_mem hInd (e.i, g.i) (List.mem_filter.2 ⟨pairs_mem hlt (lt_of g hg), by simp [nb, heh, hgh]⟩)
            simp only [lk1, lk2] at this
            obtain ⟨d1, d2, d3⟩ := this
            exact ⟨disj_mem d3 hk, fun hk' => disj_mem d1 hk' hk⟩
          · have := indep_mem hInd (g.i, e.i) (List.mem_filter.2 ⟨pairs_mem hlt (lt_of e he), by simp [na, heh, hgh]⟩)
            simp only [lk1, lk2] at this
            obtain ⟨d1, d2, d3⟩ := this
            exact ⟨disj_mem d2 hk, disj_mem d1 hk⟩
    · apply Decidable.byContradiction
      intro hn
      have hga := ga hn
      have q1 := bef_filter gσ.nd (f := f) (i := g.i) (j := e.i) hga hal hes
      have q2 := bef_filter gτ.nd (f := f) (i := g.i) (j := e.i) hga hal het
      rw [hσα] at q1
      rcases hor with ⟨h1, h2⟩ | ⟨h1, h2⟩
      · exact h2 (q2.1 (q1.2 h1))
      · exact h1 (q1.1 (q2.2 h2))
  have fin := reorder (P := P) (z := z) (nt := nt) (Q := Lift z nt Q) hT hnd gτ.nd (fun i => by rw [hl, gτ.mem, gσ.mem]) free (fun c' a' h' S2 x2 => ⟨⟨foldT ops l σ.t, foldH l σ.h⟩, c', rfl, ⟨inv_eqv S2.inv x2, S2.tm, S2.df, S2.sz⟩, hQ⟩)
    τ [] rfl { c with w := { c.w with drawn := c.w.drawn + 1 } } a σ.h
  have hnil : l.filter (fun e => ([] : List Nat).contains e.i) = [] := by
    apply List.filter_eq_nil_iff.2; intro e _; simp
  rw [hnil] at fin
  exact fin S' (Eqv.refl _)
end
end Go.AM
end

section
/- AM, part 25: regions, code, functions. -/
namespace Go.AM
section
variable {P : Program} {z : Ctx0}

theorem eops_ok {nt : Nat} {ops : Array Oper} {Q : Exit → Act → World → Prop} {K : St → Prop} (hQ : ∀ σ c a, K σ → Sim z nt c σ.t σ.h a → Q .normal a c.w) : ∀ (l : List Oper) (i : Nat), (∀ j o, l[j]? = some o → ops[i + j]? = some o) →
    ∀ {t : List V} {h : H} {c : Cx} {a : Act}, Sim z nt c t h a → EOps P ops l i t h K → wpOps P ops Q (List.range' i l.length) a c.w
  | [], i, _, t, h, c, a, S, hE => hQ ⟨t, h⟩ c a hE S
  | o :: r, i, hl, t, h, c, a, S, hE => by
    have ho : ops[i]? = some o := by simpa using hl 0 o rfl
    have hr : ∀ j o, r[j]? = some o → ops[i + 1 + j]? = some o := fun j o' hj => by
      have := hl (j + 1) o' (by simpa using hj)
      rw [← this]; congr 1; omega
    rw [List.length_cons, List.range'_succ]
    simp only [wpOps, ho]
    have step : EOp P o t h (fun v h' => match isG ops i with
        | true => Sp v (EOps P ops r (i + 1) (putT t o.dst (.bool true)) h' K) (EOps P ops r (i + 1) (putT t o.dst (.bool false)) h' K)
        | false => EOps P ops r (i + 1) (putT t o.dst v) h' K) → o.wp P a c.w (wpOps P ops Q (List.range' (i + 1) r.length)) Q := by
      intro hK
      refine wp_next (eop_ok S.inv S.tm hK) ?_
      rintro a' w' ⟨v, h', c', u, hk, I', x, rfl, hv, rfl⟩
      have go : ∀ v', Rep c' v' u → EOps P ops r (i + 1) (putT t o.dst v') h' K → wpOps P ops Q (List.range' (i + 1) r.length) (a.put o.dst u) c'.w :=
        fun v' hv' hE' => eops_ok hQ r (i + 1) hr (S.put I' x o.dst hv') hE'
      cases hg : isG ops i with
      | false => rw [hg] at hk; exact go v hv hk
      | true =>
        rw [hg] at hk
        simp only at hk
        unfold Sp at hk
        split at hk
        · rename_i b
          split at hk
          · exact go _ hv hk
          · exact go _ hv hk
        · exact hk.elim
    unfold EOps at hE
    cases hgd : o.guard with
    | none =>
      rw [hgd] at hE
      have hw : Region.wanted o (yielded ops a.tmps) = true := by unfold Region.wanted; rw [hgd]
      rw [if_pos hw]
      exact .inl (step hE)
    | some jw =>
      obtain ⟨j, want⟩ := jw
      rw [hgd] at hE
      simp only at hE
      split at hE
      · exact hE.elim
      · rename_i d hd
        split at hE
        · rename_i b hb
          have hy : yielded ops a.tmps j = some b := by
            unfold yielded
            rw [hd]
            simp only [Option.bind_some]
            have := tmp_bool S.tm hb
            rw [Array.getElem?_toList] at this
            rw [this]
          have hw : Region.wanted o (yielded ops a.tmps) = (b == want) := by
            unfold Region.wanted; rw [hgd]; simp only [hy]; cases b <;> cases want <;> rfl
          rw [hw]
          cases hbw : (b == want) with
          | true =>
            rw [hbw] at hE
            exact .inl (step hE)
          | false =>
            rw [hbw] at hE
            simp only [Bool.false_eq_true, if_false]
            exact eops_ok hQ r (i + 1) hr (S.put S.inv (Ext.refl c) o.dst (v := .tup []) (u := undef) skip_rep) hE
        · rename_i l hl'
          split at hE
          · have hy : yielded ops a.tmps j = none := by
              unfold yielded
              rw [hd]
              simp only [Option.bind_some]
              have := tmp_skip S.tm hl'
              rw [Array.getElem?_toList] at this
              rw [this]; rfl
            have hw : Region.wanted o (yielded ops a.tmps) = false := by
              unfold Region.wanted; rw [hgd]; simp only [hy]; rfl
            rw [hw]
            simp only [Bool.false_eq_true, if_false]
            exact eops_ok hQ r (i + 1) hr (S.put S.inv (Ext.refl c) o.dst (v := .tup []) (u := undef) skip_rep) hE
          · exact hE.elim
        · exact hE.elim

/-! ### loops -/
theorem wp_loop_ix {Q : Exit → Act → World → Prop} {a : Act} {w : World} {c : Code} (I : Nat → Act → World → Prop) {k : Nat} (h₀ : I k a w)
    (round : ∀ k a w, I k a w → c.wp P (Exit.then (fun a' w' => ∃ k', k' < k ∧ I k' a' w') Q) a w) : (Code.loop c).wp P Q a w := by
  intro b kk cs
  have key : ∀ n a w, I n a w →
      ∃ e a' w', Q e a' w' ∧ Arrives P (lone (b.at a (.code c :: .inLoop c :: kk)) cs w) b kk cs e a' w' := by
    intro n
    induction n using Nat.strongRecOn with
    | _ n ih =>
      intro a w hI
      obtain ⟨e, a₁, w₁, hq, harr⟩ := round n a w hI b (.inLoop c :: kk) cs
      cases e with
      | normal =>
        obtain ⟨k', hlt, hI₁⟩ := hq
        obtain ⟨e₂, a₂, w₂, hq₂, harr₂⟩ := ih k' hlt a₁ w₁ hI₁
        exact ⟨e₂, a₂, w₂, hq₂, .of_steps (Steps.trans harr (.one step_inLoop)) harr₂⟩
      | exit id => exact ⟨_, a₁, w₁, hq, .pass (x := .inLoop c) rfl (fun _ _ => .inl (by simp)) harr⟩
      | goto l => exact ⟨_, a₁, w₁, hq, .pass (x := .inLoop c) rfl (fun _ _ => .inl (by simp)) harr⟩
      | ret => exact ⟨_, a₁, w₁, hq, .pass (x := .inLoop c) rfl (fun _ _ => .inl (by simp)) harr⟩
      | panic ch => exact ⟨_, a₁, w₁, hq, .pass (x := .inLoop c) rfl (fun _ _ => .inl (by simp)) harr⟩
      | outgrown => exact ⟨_, a₁, w₁, hq, .pass (x := .inLoop c) rfl (fun _ _ => .inl (by simp)) harr⟩
  obtain ⟨e, a', w', hq, harr⟩ := key _ a w h₀
  exact ⟨e, a', w', hq, .of_steps (.one step_loop) harr⟩

def packU (keep : List Nat) (us : List Value) : List Value := keep.map fun i => us.getD i undef
theorem pack_ok {c : Cx} {t : List V} {us : List Value} (ht : Reps c t us) : ∀ keep, Reps c (pack keep t) (packU keep us)
  | [] => rfl
  | i :: r => ⟨_, _, rfl, ht.getU i, pack_ok ht r⟩
theorem set_same (us : List Value) (i : Nat) : us.set i (us.getD i undef) = us := by
  apply List.ext_getElem (by simp)
  intro j h1 h2
  rw [List.getElem_set]
  split
  · rename_i e; subst e; simp [List.getD_eq_getElem?_getD, h2]
  · rfl
theorem unpackF_ok {c : Cx} {us : List Value} : ∀ (keep : List Nat) (t : List V) (k : Nat) (xs : List V) (ws : List Value), Reps c t us → Reps c xs ws → (∀ j, j < keep.length → ws.getD (k + j) undef = us.getD (keep.getD j 0) undef) → Reps c (unpackF keep t k xs) us
  | [], t, k, xs, ws, ht, _, _ => ht
  | i :: r, t, k, xs, ws, ht, hx, hk => by
    refine unpackF_ok r (t.set i (xs.getD k .undef)) (k + 1) xs ws ?_ hx (fun j hj => ?_)
    · have h0 := hk 0 (by simp)
      have hv := hx.getU k
      rw [Nat.add_zero] at h0
      rw [h0] at hv
      have := Reps.setU ht i hv
      simp only [List.getD_cons_zero] at this
      rwa [set_same] at this
    · have := hk (j + 1) (by simpa using hj)
      rw [show k + 1 + j = k + (j + 1) by omega, this]
      rfl
theorem undefs {c : Cx} : ∀ us : List Value, Reps c (List.replicate us.length .undef) us
  | [] => rfl
  | u :: r => ⟨u, r, rfl, trivial, undefs r⟩
theorem unpack_ok {c : Cx} {us : List Value} {keep : List Nat} {xs : List V} {nt : Nat} (hn : us.length = nt) (hx : Reps c xs (packU keep us)) : Reps c (unpack nt keep xs) us := by
  unfold unpack
  refine unpackF_ok keep _ 0 xs _ (by rw [← hn]; exact undefs us) hx (fun j hj => ?_)
  simp [packU, List.getD_eq_getElem?_getD, hj]

theorem e_ok {nt : Nat} {kp : Nat → List Nat} : ∀ (code : Code) (Q : Exit → St → Prop) (σ : St) (c : Cx) (a : Act), E P z.m nt kp code Q σ → Sim z nt c σ.t σ.h a → code.wp P (Lift z nt Q) a c.w
  | .skip, Q, σ, c, a, hE, S => wp_skip ⟨σ, c, rfl, S, hE⟩
  | .region id ops false, Q, σ, c, a, hE, S => by
    refine wp_region ?_
    have := eops_ok (P := P) (z := z) (nt := nt) (ops := ops) (Q := Lift z nt Q) (K := Q .normal) (fun σ c a hK S => ⟨σ, c, rfl, S, hK⟩) ops.toList 0 (fun j o hj => by rw [Nat.zero_add, ← Array.getElem?_toList]; exact hj) S hE
    rw [Array.length_toList] at this
    rw [List.range_eq_range']
    exact this
  | .region id ops true, Q, σ, c, a, hE, S => by
    unfold E at hE
    split at hE
    · rename_i hck; exact draw_ok hck hE S
    · exact hE.elim
  | .seq x y, Q, σ, c, a, hE, S => by
    refine wp_seq (wp_mono (e_ok x _ σ c a hE S) ?_)
    rintro e a' w' ⟨σ', c', rfl, S', hq⟩
    cases e with
    | normal => exact e_ok y Q σ' c' a' hq S'
    | _ => exact ⟨σ', c', rfl, S', hq⟩
  | .cond x p q, Q, σ, c, a, hE, S => by
    have hx := ev_ok S.tm x
    unfold E Sp at hE
    split at hE
    · rename_i b hb
      rw [hb] at hx
      split at hE
      · exact wp_cond (t := true) hx (e_ok p Q σ c a hE S)
      · exact wp_cond (t := false) hx (e_ok q Q σ c a hE S)
    · exact hE.elim
  | .block id x, Q, σ, c, a, hE, S => by
    refine wp_block (wp_mono (e_ok x _ σ c a hE S) ?_)
    rintro e a' w' ⟨σ', c', rfl, S', hq⟩
    cases e with
    | exit i =>
      unfold Exit.inBlock
      unfold blockQ at hq
      simp only at hq ⊢
      split
      · rename_i e; rw [if_pos e] at hq; exact ⟨σ', c', rfl, S', hq⟩
      · rename_i e; rw [if_neg e] at hq; exact ⟨σ', c', rfl, S', hq⟩
    | _ => exact ⟨σ', c', rfl, S', hq⟩
  | .loop x, Q, σ, c, a, hE, S => by
    obtain ⟨I, ⟨ys, h', nl, ρ, ps, k, W, hI⟩, round⟩ := hE
    have wk : ∀ {c : Cx} {t : List V} {h h' : H} {a : Act} {zs : List V} {nl : List (Nat × EK)} {ρ ps : List Nat}, Sim z nt c t h a → Weak z.m (pack (kp (firstRegion x)) t) h zs h' nl ρ ps → ∃ cc, cc.w = c.w ∧ Sim z nt cc (unpack nt (kp (firstRegion x)) zs) h' a := by
      intro c t h h' a zs nl ρ ps S W
      obtain ⟨cc, h1, h2, h3⟩ := weaken S.inv W (pack_ok S.tm _)
      exact ⟨cc, h1, h2, unpack_ok (by rw [Array.length_toList]; exact S.sz) h3, S.df, S.sz⟩
    obtain ⟨cc, hw, S0⟩ := wk S W
    refine wp_loop_ix (I := fun k a w => ∃ c xs h, c.w = w ∧ Sim z nt c (unpack nt (kp (firstRegion x)) xs) h a ∧ I xs h k) (k := k) ⟨cc, ys, h', hw, S0, hI⟩ ?_
    rintro k a w ⟨c, xs, h, rfl, S, hI⟩
    refine wp_mono (e_ok x _ ⟨unpack nt (kp (firstRegion x)) xs, h⟩ c a (round xs h k hI) S) ?_
    rintro e a' w' ⟨σ', c', rfl, S', hq⟩
    cases e with
    | normal =>
      obtain ⟨zs, h2, nl2, ρ2, ps2, k', W2, hk, hI2⟩ := hq
      obtain ⟨cc2, hw2, S2⟩ := wk S' W2
      exact ⟨k', hk, cc2, zs, h2, hw2, S2, hI2⟩
    | _ => exact ⟨σ', c', rfl, S', hq⟩
  | .exit id, Q, σ, c, a, hE, S => wp_exit ⟨σ, c, rfl, S, hE⟩
  | .ret, Q, σ, c, a, hE, S => wp_ret ⟨σ, c, rfl, S, hE⟩
  | .goto _, Q, σ, c, a, hE, S => hE.elim
  | .label _, Q, σ, c, a, hE, S => hE.elim
end
end Go.AM
end

section
/- AM, part 26: a function's contract. -/
namespace Go.AM
section
variable {P : Program}

def resF (tmps : Array Value) : ResultVar → Sem Value
  | .tmp t => pure (tmps.getD t undef)
  | .cell a t => do loadVar t (← asAddr (tmps.getD a undef))
theorem load_addr {t : TypeId} {u v : Value} {w : World} (h : (Instr.loadAt t u).run P w = .ok v w) : (do loadVar t (← asAddr u) : Sem Value).run P w = .ok v w := by
  cases u
  case pointer a =>
    cases a with
    | none => simp [Instr.loadAt, Instr.sureAddr, stuck] at h
    | some a => simpa [Instr.loadAt, Instr.sureAddr, asAddr] using h
  all_goals simp [Instr.loadAt, Instr.sureAddr, stuck] at h

theorem resOf_ok {z : Ctx0} {c : Cx} {t : List V} {h : H} {tmps : Array Value} (I : Inv z c h) (ht : Reps c t tmps.toList) : ∀ (rs : List ResultVar) (K : List V → H → Prop), resOf P t h rs K →
    ∃ l vs, (rs.mapM (resF tmps)).run P c.w = .ok vs c.w ∧ Reps c l vs ∧ K l h
  | [], K, hK => ⟨[], [], by simp, rfl, hK⟩
  | .tmp i :: r, K, hK => by
    obtain ⟨l, vs, h1, h2, h3⟩ := resOf_ok I ht r _ hK
    have hv := ev_ok (a := ⟨tmps, []⟩) ht (.tmp i)
    exact ⟨t.getD i .undef :: l, tmps.getD i undef :: vs, by simp [List.mapM_cons, resF, h1], ⟨_, _, rfl, hv, h2⟩, h3⟩
  | .cell a ty :: r, K, hK => by
    unfold resOf at hK
    split at hK
    · exact hK.elim
    · rename_i hty
      simp only [Bool.not_eq_true', Bool.not_eq_false] at hty
      obtain ⟨h1, h2⟩ := tyOk_spec hty
      have hv := ev_ok (a := ⟨tmps, []⟩) ht (.tmp a)
      have hl := pLoad_resS (P := P) I h1 h2 hv
      have e1 : ev t (.tmp a) = t.getD a .undef := rfl
      rw [e1] at hl
      cases hr : pLoad (aggP P ty) (szP P ty) (t.getD a .undef) h.get with
      | fail => rw [hr] at hK; exact hK.elim
      | ok p v u nw =>
        rw [hr] at hK hl
        obtain ⟨hp, hK⟩ := hK
        obtain ⟨rfl, rfl, uu, g1, g2⟩ := hl hp
        rw [app0] at hK
        obtain ⟨l, vs, k1, k2, k3⟩ := resOf_ok I ht r _ hK
        refine ⟨v :: l, uu :: vs, ?_, ⟨_, _, rfl, g2, k2⟩, k3⟩
        have := load_addr g1
        have e2 : (resF tmps (.cell a ty)).run P c.w = .ok uu c.w := this
        rw [List.mapM_cons]
        simp only [Sem.run_bind, e2, Result.andThen_ok, k1, Sem.run_pure]

theorem tup_rep {c : Cx} {l : List V} {vs : List Value} (h : Reps c l vs) : Rep c (tupV l) (if h : (⟨vs⟩ : Array Value).size = 1 then (⟨vs⟩ : Array Value)[0] else .tuple ⟨vs⟩) := by
  have hl := Reps.len _ _ h
  cases l with
  | nil => cases h; exact ⟨[], rfl, rfl⟩
  | cons v r =>
    cases r with
    | nil =>
      obtain ⟨u, us, rfl, h2, h3⟩ := h
      cases h3
      exact h2
    | cons v' r =>
      rw [dif_neg (by simp at hl ⊢; omega)]
      exact ⟨vs, rfl, h⟩

/-- The end of a function, as its contract has it. -/
def FinT (T : Tr) (v : V) (h : H) : Prop := ∃ nl ρ ps, Weak T.m [v] h [T.res] ⟨T.b1, T.n1⟩ nl ρ ps

theorem tr_of_EF {T : Tr} {fn : Func} {kp : Nat → List Nat} (hf : P.funcs[T.f]? = some fn) (hc : callable P T.f = true) (hlen : T.vals.length ≤ fn.ntmps) (hk : ∀ q ∈ T.b1, q.1 < T.n1)
    (hE : EF P fn kp T.vals ⟨T.b0, T.m⟩ (FinT T)) : TrOk P T := by
  refine ⟨hc, hk, fun w ok φ us hs hx => ?_⟩
  unfold EF at hE
  split at hE
  · exact hE.elim
  · rename_i code hb
    let z : Ctx0 := ⟨w, foot T.m φ, ok, T.m, φ⟩
    have I : Inv z ⟨w, ok, φ, T.m⟩ ⟨T.b0, T.m⟩ := ⟨⟨rfl, rfl, rfl, Nat.le_refl _, fun _ _ _ => rfl, fun _ _ => rfl⟩, hs, rfl, fun _ h => h, fun _ h => .inl h, fun _ _ => .inl rfl, Nat.le_refl _⟩
    have hul := Reps.len _ _ hx
    have S : Sim z fn.ntmps ⟨w, ok, φ, T.m⟩ (T.vals ++ List.replicate (fn.ntmps - T.vals.length) .undef) ⟨T.b0, T.m⟩ { tmps := (⟨us⟩ : Array Value) ++ Array.replicate (fn.ntmps - (⟨us⟩ : Array Value).size) undef, defers := [] } := by
      refine ⟨I, ?_, rfl, by simp; omega⟩
      have h1 : ((⟨us⟩ : Array Value) ++ Array.replicate (fn.ntmps - (⟨us⟩ : Array Value).size) undef).toList = us ++ List.replicate (fn.ntmps - T.vals.length) undef := by
        simp [hul]
      show Reps _ _ (Array.toList _)
      rw [h1]
      have h2 := undefs (c := ⟨w, ok, φ, T.m⟩) (List.replicate (fn.ntmps - T.vals.length) undef)
      rw [List.length_replicate] at h2
      exact Reps.app hx h2
    refine calls_of_wp hf hb (wp_mono (e_ok (P := P) (z := z) code _ ⟨_, ⟨T.b0, T.m⟩⟩ _ _ hE S) ?_)
    rintro e a w' ⟨σ, c, rfl, S', hq⟩
    have fin : resOf P σ.t σ.h fn.results.toList (fun l h => FinT T (tupV l) h) → a.defers = [] ∧ ∃ v, (results fn a.tmps).run P c.w = .ok v c.w ∧ ∃ u c', Ending.returned v = .returned u ∧ c'.w = c.w ∧ Post T w ok φ u c' := by
      intro hq
      obtain ⟨l, vs, h1, h2, h3⟩ := resOf_ok S'.inv S'.tm _ _ hq
      refine ⟨S'.df, (if h : (⟨vs⟩ : Array Value).size = 1 then (⟨vs⟩ : Array Value)[0] else .tuple ⟨vs⟩), ?_, ?_⟩
      · have e : (fn.results.mapM (resF a.tmps)).run P c.w = .ok ⟨vs⟩ c.w := by
          rw [Array.mapM_eq_mapM_toList]
          simp [h1]
        have e2 : results fn a.tmps = (do let vs ← fn.results.mapM (resF a.tmps); pure (if h : vs.size = 1 then vs[0] else .tuple vs)) := by
          unfold results
          congr 1
        rw [e2]
        simp only [Sem.run_bind, e, Result.andThen_ok, Sem.run_pure]
      · obtain ⟨nl, ρ, ps, W⟩ := h3
        obtain ⟨cc, hw, I', hr⟩ := weaken (z := z) S'.inv W ⟨_, _, rfl, tup_rep h2, rfl⟩
        obtain ⟨u, us', e, hu, _⟩ := hr
        cases e
        exact ⟨_, cc, rfl, hw, ⟨I'.frame, I'.oks, I'.okn, I'.old, ⟨I'.n, W.2.old.1⟩, I'.hs, hu⟩⟩
    cases e with
    | normal => exact fin hq
    | ret => exact fin hq
    | _ => exact hq.elim
end
end Go.AM
end
