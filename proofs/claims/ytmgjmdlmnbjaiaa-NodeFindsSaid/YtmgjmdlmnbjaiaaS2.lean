/- Part of the proof: what functions of the program do, step by step. No condition of its own. -/
import Derived.Test.YtmgjmdlmnbjaiaaMd
import Derived.Test.YtmgjmdlmnbjaiaaSI
import Derived.KernelRfl
set_option linter.unusedVariables false
namespace Go.Proofs.Ytmgjmdlmnbjaiaa.A
open Go Go.AM
/-! ### hypogeum/hypogeumref06.Begin (f29) -/
def ref06_Begin_S (K : V → H → Prop) (m : Nat) (a0 : V) (h : H) : Prop :=
 X (pBuildSlice .byte 1 1 [a0] h.get h.n) h fun v1 h2 =>
 X (pConv .toStr v1 h2.get h2.n) h2 fun v3 h4 =>
 X (pBin .add (.str [72, 89]) v3) h4 fun v5 h6 =>
 K v5 h6
def ref06_Begin_kp : Nat → List Nat := kpOf []
theorem ref06_Begin_E (K : V → H → Prop) (a0 : V) (h : H) : EF Try.prog Try.f29 ref06_Begin_kp [a0] h K = ref06_Begin_S K h.n a0 h := by kernel_rfl
set_option maxRecDepth 100000 in
theorem ref06_Begin_tr {m n1 : Nat} {b0 b1 : List (Nat × Blk)} {res : V} {a0 : V} (hk : ∀ q ∈ b1, q.1 < n1) (h : ref06_Begin_S (FinT ⟨id_ref06_Begin, [a0], b0, m, res, b1, n1⟩) m a0 ⟨b0, m⟩) : TrOk Try.prog ⟨id_ref06_Begin, [a0], b0, m, res, b1, n1⟩ :=
 tr_of_EF (fn := Try.f29) (kp := ref06_Begin_kp) Try.func29 (by kernel_rfl) (Nat.le_of_ble_eq_true (by kernel_rfl)) hk (Eq.mpr (ref06_Begin_E (FinT ⟨id_ref06_Begin, [a0], b0, m, res, b1, n1⟩) a0 ⟨b0, m⟩) h)

/-! ### hypogeum/hypogeumref06.Num (f30) -/
def ref06_Num_J0 (K : V → H → Prop) (m : Nat) (x0 : V) (x3 : V) (h : H) : Prop :=
 X (pConv (.int .u8) x0 h.get h.n) h fun v17 h18 =>
 X (pBuildSlice .byte 1 1 [v17] h18.get h18.n) h18 fun v19 h20 =>
 X (pConv .toStr v19 h20.get h20.n) h20 fun v21 h22 =>
 X (pBin .add x3 v21) h22 fun v23 h24 =>
 K v23 h24
def ref06_Num_B2 (K : V → H → Prop) (m : Nat) (N2 : List V → H → Prop) (x0 : V) (x3 : V) (h : H) : Prop :=
 X (pBin .geq x0 (.int .i64 128)) h fun v1 h2 =>
 Sp v1 (
 X (pBin .rem x0 (.int .i64 128)) h2 fun v3 h4 =>
 X (pBin .add v3 (.int .i64 128)) h4 fun v5 h6 =>
 X (pConv (.int .u8) v5 h6.get h6.n) h6 fun v7 h8 =>
 X (pBuildSlice .byte 1 1 [v7] h8.get h8.n) h8 fun v9 h10 =>
 X (pConv .toStr v9 h10.get h10.n) h10 fun v11 h12 =>
 X (pBin .add x3 v11) h12 fun v13 h14 =>
 X (pBin .quo x0 (.int .i64 128)) h14 fun v15 h16 =>
 N2 [v15, v13] h16)
 (ref06_Num_J0 K m x0 x3 h2)
def ref06_Num_S (K : V → H → Prop) (m : Nat) (a0 : V) (h : H) : Prop :=
 Lp m (fun N2 xs h => ref06_Num_B2 K m N2 (xs.getD 0 .undef) (xs.getD 1 .undef) h) [a0, (.str [])] h
def ref06_Num_kp : Nat → List Nat := kpOf [(2, [0, 3])]
theorem ref06_Num_E (K : V → H → Prop) (a0 : V) (h : H) : EF Try.prog Try.f30 ref06_Num_kp [a0] h K = ref06_Num_S K h.n a0 h := by kernel_rfl
set_option maxRecDepth 100000 in
theorem ref06_Num_tr {m n1 : Nat} {b0 b1 : List (Nat × Blk)} {res : V} {a0 : V} (hk : ∀ q ∈ b1, q.1 < n1) (h : ref06_Num_S (FinT ⟨id_ref06_Num, [a0], b0, m, res, b1, n1⟩) m a0 ⟨b0, m⟩) : TrOk Try.prog ⟨id_ref06_Num, [a0], b0, m, res, b1, n1⟩ :=
 tr_of_EF (fn := Try.f30) (kp := ref06_Num_kp) Try.func30 (by kernel_rfl) (Nat.le_of_ble_eq_true (by kernel_rfl)) hk (Eq.mpr (ref06_Num_E (FinT ⟨id_ref06_Num, [a0], b0, m, res, b1, n1⟩) a0 ⟨b0, m⟩) h)

/-! ### hypogeum/hypogeumref06.Text (f31) -/
def ref06_Text_S (K : V → H → Prop) (m : Nat) (a0 : V) (h : H) : Prop :=
 X (pLenStr a0) h fun v1 h2 =>
 ECall Try.prog id_ref06_Num [v1] h2 fun v3 h4 =>
 X (pBin .add v3 a0) h4 fun v5 h6 =>
 K v5 h6
def ref06_Text_kp : Nat → List Nat := kpOf []
theorem ref06_Text_E (K : V → H → Prop) (a0 : V) (h : H) : EF Try.prog Try.f31 ref06_Text_kp [a0] h K = ref06_Text_S K h.n a0 h := by kernel_rfl
set_option maxRecDepth 100000 in
theorem ref06_Text_tr {m n1 : Nat} {b0 b1 : List (Nat × Blk)} {res : V} {a0 : V} (hk : ∀ q ∈ b1, q.1 < n1) (h : ref06_Text_S (FinT ⟨id_ref06_Text, [a0], b0, m, res, b1, n1⟩) m a0 ⟨b0, m⟩) : TrOk Try.prog ⟨id_ref06_Text, [a0], b0, m, res, b1, n1⟩ :=
 tr_of_EF (fn := Try.f31) (kp := ref06_Text_kp) Try.func31 (by kernel_rfl) (Nat.le_of_ble_eq_true (by kernel_rfl)) hk (Eq.mpr (ref06_Text_E (FinT ⟨id_ref06_Text, [a0], b0, m, res, b1, n1⟩) a0 ⟨b0, m⟩) h)

/-! ### hypogeum/hypogeumref06.Open (f38) -/
def ref06_Open_J0 (K : V → H → Prop) (m : Nat) (x1 : V) (h : H) : Prop :=
 X (pSliceStr x1 (some (.int .i64 3)) none) h fun v25 h26 =>
 X (pBuild (some [.str [], .int .i64 0]) [(0, 1, v25)]) h26 fun v27 h28 =>
 X (pBox v27 h28.n) h28 fun v29 h30 =>
 K v29 h30
def ref06_Open_B3 (K : V → H → Prop) (m : Nat) (N3 : List V → H → Prop) (x1 : V) (x5 : V) (x6 : V) (h : H) : Prop :=
 X (pBin .lss x6 (.int .i64 3)) h fun v3 h4 =>
 Sp v3 (
 X (pLenStr x1) h4 fun v5 h6 =>
 X (pBin .geq x6 v5) h6 fun v7 h8 =>
 Sp v7 (
 X (pBuild (some [.str [], .int .i64 0]) [(1, 1, (.int .i64 3))]) h8 fun v9 h10 =>
 X (pBox v9 h10.n) h10 fun v11 h12 =>
 K v11 h12)
 (X (pIndexStr x1 x6) h8 fun v13 h14 =>
 X (pIndexStr x5 x6) h14 fun v15 h16 =>
 XD (pNot true (veqI v13 v15)) h16 (idsL [v13, v15]) fun v17 v17k v17r h18 =>
 Indep [] [(6, v17k, v17r), (5, [], []), (4, [], []), (3, [], []), (2, [], []), (1, [], []), (0, [], [])] ∧
 (Sp v17 (
 X (pBuild (some [.str [], .int .i64 0]) [(1, 1, (.int .i64 2))]) h18 fun v19 h20 =>
 X (pBox v19 h20.n) h20 fun v21 h22 =>
 K v21 h22)
 (X (pBin .add x6 (.int .i64 1)) h18 fun v23 h24 =>
 N3 [x1, x5, v23] h24))))
 (ref06_Open_J0 K m x1 h4)
def ref06_Open_S (K : V → H → Prop) (m : Nat) (a0 : V) (a1 : V) (h : H) : Prop :=
 ECall Try.prog id_ref06_Begin [a0] h fun v1 h2 =>
 Lp m (fun N3 xs h => ref06_Open_B3 K m N3 (xs.getD 0 .undef) (xs.getD 1 .undef) (xs.getD 2 .undef) h) [a1, v1, (.int .i64 0)] h2
def ref06_Open_kp : Nat → List Nat := kpOf [(3, [1, 5, 6])]
theorem ref06_Open_E (K : V → H → Prop) (a0 : V) (a1 : V) (h : H) : EF Try.prog Try.f38 ref06_Open_kp [a0, a1] h K = ref06_Open_S K h.n a0 a1 h := by kernel_rfl
set_option maxRecDepth 100000 in
theorem ref06_Open_tr {m n1 : Nat} {b0 b1 : List (Nat × Blk)} {res : V} {a0 : V} {a1 : V} (hk : ∀ q ∈ b1, q.1 < n1) (h : ref06_Open_S (FinT ⟨id_ref06_Open, [a0, a1], b0, m, res, b1, n1⟩) m a0 a1 ⟨b0, m⟩) : TrOk Try.prog ⟨id_ref06_Open, [a0, a1], b0, m, res, b1, n1⟩ :=
 tr_of_EF (fn := Try.f38) (kp := ref06_Open_kp) Try.func38 (by kernel_rfl) (Nat.le_of_ble_eq_true (by kernel_rfl)) hk (Eq.mpr (ref06_Open_E (FinT ⟨id_ref06_Open, [a0, a1], b0, m, res, b1, n1⟩) a0 a1 ⟨b0, m⟩) h)

/-! ### (*hypogeum/hypogeumref06.In).Num (f39) -/
def ref06_In_Num_R0 (K : V → H → Prop) (m : Nat) (N5 : List V → H → Prop) (x0 : V) (x1 : V) (x5 : V) (x6 : V) (x7 : V) (x8 : V) (x58 : V) (h : H) : Prop :=
 Sp x58 (
 X (pNil x0 h.get) h fun v53 h54 =>
 X (pFieldAddr 1 v53 h54.get) h54 fun v55 h56 =>
 X (pStore false 1 v55 (.int .i64 2) h56.get) h56 fun v57 h58 =>
 K (.int .i64 0) h58)
 (X (pBin .mul x8 x6) h fun v59 h60 =>
 X (pBin .add x5 v59) h60 fun v61 h62 =>
 X (pBin .gtr v61 x1) h62 fun v63 h64 =>
 Sp v63 (
 X (pNil x0 h64.get) h64 fun v65 h66 =>
 X (pFieldAddr 1 v65 h66.get) h66 fun v67 h68 =>
 X (pStore false 1 v67 (.int .i64 4) h68.get) h68 fun v69 h70 =>
 K (.int .i64 0) h70)
 (X (pNil x0 h64.get) h64 fun v71 h72 =>
 X (pFieldAddr 0 v71 h72.get) h72 fun v73 h74 =>
 X (pLoad false 1 v73 h74.get) h74 fun v75 h76 =>
 X (pBin .add x7 (.int .i64 1)) h76 fun v77 h78 =>
 X (pSliceStr v75 (some v77) none) h78 fun v79 h80 =>
 X (pNil x0 h80.get) h80 fun v81 h82 =>
 X (pFieldAddr 0 v81 h82.get) h82 fun v83 h84 =>
 X (pStore false 1 v83 v79 h84.get) h84 fun v85 h86 =>
 K v61 h86))
def ref06_In_Num_J1 (K : V → H → Prop) (m : Nat) (x0 : V) (h : H) : Prop :=
 X (pNil x0 h.get) h fun v95 h96 =>
 X (pFieldAddr 1 v95 h96.get) h96 fun v97 h98 =>
 X (pStore false 1 v97 (.int .i64 2) h98.get) h98 fun v99 h100 =>
 K (.int .i64 0) h100
def ref06_In_Num_B5 (K : V → H → Prop) (m : Nat) (N5 : List V → H → Prop) (x0 : V) (x1 : V) (x5 : V) (x6 : V) (x7 : V) (h : H) : Prop :=
 X (pBin .lss x7 (.int .i64 9)) h fun v9 h10 =>
 Sp v9 (
 X (pNil x0 h10.get) h10 fun v11 h12 =>
 X (pFieldAddr 0 v11 h12.get) h12 fun v13 h14 =>
 X (pLoad false 1 v13 h14.get) h14 fun v15 h16 =>
 X (pLenStr v15) h16 fun v17 h18 =>
 X (pBin .geq x7 v17) h18 fun v19 h20 =>
 Sp v19 (
 X (pNil x0 h20.get) h20 fun v21 h22 =>
 X (pFieldAddr 1 v21 h22.get) h22 fun v23 h24 =>
 X (pStore false 1 v23 (.int .i64 3) h24.get) h24 fun v25 h26 =>
 K (.int .i64 0) h26)
 (X (pNil x0 h20.get) h20 fun v27 h28 =>
 X (pFieldAddr 0 v27 h28.get) h28 fun v29 h30 =>
 X (pLoad false 1 v29 h30.get) h30 fun v31 h32 =>
 X (pIndexStr v31 x7) h32 fun v33 h34 =>
 X (pConv (.int .i64) v33 h34.get h34.n) h34 fun v35 h36 =>
 X (pBin .geq v35 (.int .i64 128)) h36 fun v37 h38 =>
 Sp v37 (
 X (pBin .sub v35 (.int .i64 128)) h38 fun v39 h40 =>
 X (pBin .mul v39 x6) h40 fun v41 h42 =>
 X (pBin .add x5 v41) h42 fun v43 h44 =>
 X (pBin .mul x6 (.int .i64 128)) h44 fun v45 h46 =>
 X (pBin .add x7 (.int .i64 1)) h46 fun v47 h48 =>
 N5 [x0, x1, v43, v45, v47] h48)
 (X (pBin .gtr x7 (.int .i64 0)) h38 fun v49 h50 =>
 Sp v49 (
 X (pNot false (veqI v35 (.int .i64 0))) h50 fun v51 h52 =>
 True ∧
 Sp v51 (
 True ∧
 ref06_In_Num_R0 K m N5 x0 x1 x5 x6 x7 v35 (.bool true) h52)
 (X (pNot false (veqI x7 (.int .i64 8))) h52 fun v87 h88 =>
 Sp v87 (
 X (pBin .geq v35 (.int .i64 64)) h88 fun v89 h90 =>
 True ∧
 True ∧
 ref06_In_Num_R0 K m N5 x0 x1 x5 x6 x7 v35 v89 h90)
 (True ∧
 True ∧
 ref06_In_Num_R0 K m N5 x0 x1 x5 x6 x7 v35 (.bool false) h88)))
 (True ∧
 X (pNot false (veqI x7 (.int .i64 8))) h50 fun v91 h92 =>
 Sp v91 (
 X (pBin .geq v35 (.int .i64 64)) h92 fun v93 h94 =>
 True ∧
 True ∧
 ref06_In_Num_R0 K m N5 x0 x1 x5 x6 x7 v35 v93 h94)
 (True ∧
 True ∧
 ref06_In_Num_R0 K m N5 x0 x1 x5 x6 x7 v35 (.bool false) h92)))))
 (ref06_In_Num_J1 K m x0 h10)
def ref06_In_Num_S (K : V → H → Prop) (m : Nat) (a0 : V) (a1 : V) (h : H) : Prop :=
 X (pNil a0 h.get) h fun v1 h2 =>
 X (pFieldAddr 1 v1 h2.get) h2 fun v3 h4 =>
 X (pLoad false 1 v3 h4.get) h4 fun v5 h6 =>
 X (pNot true (veqI v5 (.int .i64 0))) h6 fun v7 h8 =>
 Sp v7 (
 K (.int .i64 0) h8)
 (Lp m (fun N5 xs h => ref06_In_Num_B5 K m N5 (xs.getD 0 .undef) (xs.getD 1 .undef) (xs.getD 2 .undef) (xs.getD 3 .undef) (xs.getD 4 .undef) h) [a0, a1, (.int .i64 0), (.int .i64 1), (.int .i64 0)] h8)
def ref06_In_Num_kp : Nat → List Nat := kpOf [(5, [0, 1, 5, 6, 7])]
theorem ref06_In_Num_E (K : V → H → Prop) (a0 : V) (a1 : V) (h : H) : EF Try.prog Try.f39 ref06_In_Num_kp [a0, a1] h K = ref06_In_Num_S K h.n a0 a1 h := by kernel_rfl
set_option maxRecDepth 100000 in
theorem ref06_In_Num_tr {m n1 : Nat} {b0 b1 : List (Nat × Blk)} {res : V} {a0 : V} {a1 : V} (hk : ∀ q ∈ b1, q.1 < n1) (h : ref06_In_Num_S (FinT ⟨id_ref06_In_Num, [a0, a1], b0, m, res, b1, n1⟩) m a0 a1 ⟨b0, m⟩) : TrOk Try.prog ⟨id_ref06_In_Num, [a0, a1], b0, m, res, b1, n1⟩ :=
 tr_of_EF (fn := Try.f39) (kp := ref06_In_Num_kp) Try.func39 (by kernel_rfl) (Nat.le_of_ble_eq_true (by kernel_rfl)) hk (Eq.mpr (ref06_In_Num_E (FinT ⟨id_ref06_In_Num, [a0, a1], b0, m, res, b1, n1⟩) a0 a1 ⟨b0, m⟩) h)

/-! ### (*hypogeum/hypogeumref06.In).Text (f40) -/
def ref06_In_Text_S (K : V → H → Prop) (m : Nat) (a0 : V) (a1 : V) (h : H) : Prop :=
 X (pMin a1 (.int .i64 131072)) h fun v1 h2 =>
 ECall Try.prog id_ref06_In_Num [a0, v1] h2 fun v3 h4 =>
 ECall Try.prog id_ref06_In_Raw [a0, v3] h4 fun v5 h6 =>
 K v5 h6
def ref06_In_Text_kp : Nat → List Nat := kpOf []
theorem ref06_In_Text_E (K : V → H → Prop) (a0 : V) (a1 : V) (h : H) : EF Try.prog Try.f40 ref06_In_Text_kp [a0, a1] h K = ref06_In_Text_S K h.n a0 a1 h := by kernel_rfl
set_option maxRecDepth 100000 in
theorem ref06_In_Text_tr {m n1 : Nat} {b0 b1 : List (Nat × Blk)} {res : V} {a0 : V} {a1 : V} (hk : ∀ q ∈ b1, q.1 < n1) (h : ref06_In_Text_S (FinT ⟨id_ref06_In_Text, [a0, a1], b0, m, res, b1, n1⟩) m a0 a1 ⟨b0, m⟩) : TrOk Try.prog ⟨id_ref06_In_Text, [a0, a1], b0, m, res, b1, n1⟩ :=
 tr_of_EF (fn := Try.f40) (kp := ref06_In_Text_kp) Try.func40 (by kernel_rfl) (Nat.le_of_ble_eq_true (by kernel_rfl)) hk (Eq.mpr (ref06_In_Text_E (FinT ⟨id_ref06_In_Text, [a0, a1], b0, m, res, b1, n1⟩) a0 a1 ⟨b0, m⟩) h)

/-! ### hypogeum/hypogeumref07.id (f41) -/
def ref07_id_J0 (K : V → H → Prop) (m : Nat) (x2 : V) (x4 : V) (h : H) : Prop :=
 X (pLoad true 32 x4 h.get) h fun v19 h20 =>
 X (pStore true 32 x2 v19 h20.get) h20 fun v21 h22 =>
 X (pLoad true 32 x2 h22.get) h22 fun r23 h24 =>
 K r23 h24
def ref07_id_S (K : V → H → Prop) (m : Nat) (a0 : V) (h : H) : Prop :=
 X (pAlloc (some [.byt 32 (List.replicate 32 0)]) h.n) h fun v1 h2 =>
 ECall Try.prog id_ref06_In_Raw [a0, (.int .i64 32)] h2 fun v3 h4 =>
 X (pAlloc (some [.byt 32 (List.replicate 32 0)]) h4.n) h4 fun v5 h6 =>
 X (pNil a0 h6.get) h6 fun v7 h8 =>
 X (pFieldAddr 1 v7 h8.get) h8 fun v9 h10 =>
 X (pLoad false 1 v9 h10.get) h10 fun v11 h12 =>
 X (pNot false (veqI v11 (.int .i64 0))) h12 fun v13 h14 =>
 Sp v13 (
 X (pSliceArr 32 v5 none none h14.get) h14 fun v15 h16 =>
 X (pCopy v15 v3 h16.get) h16 fun v17 h18 =>
 ref07_id_J0 K m v1 v5 h18)
 (ref07_id_J0 K m v1 v5 h14)
def ref07_id_kp : Nat → List Nat := kpOf []
theorem ref07_id_E (K : V → H → Prop) (a0 : V) (h : H) : EF Try.prog Try.f41 ref07_id_kp [a0] h K = ref07_id_S K h.n a0 h := by kernel_rfl
set_option maxRecDepth 100000 in
theorem ref07_id_tr {m n1 : Nat} {b0 b1 : List (Nat × Blk)} {res : V} {a0 : V} (hk : ∀ q ∈ b1, q.1 < n1) (h : ref07_id_S (FinT ⟨id_ref07_id, [a0], b0, m, res, b1, n1⟩) m a0 ⟨b0, m⟩) : TrOk Try.prog ⟨id_ref07_id, [a0], b0, m, res, b1, n1⟩ :=
 tr_of_EF (fn := Try.f41) (kp := ref07_id_kp) Try.func41 (by kernel_rfl) (Nat.le_of_ble_eq_true (by kernel_rfl)) hk (Eq.mpr (ref07_id_E (FinT ⟨id_ref07_id, [a0], b0, m, res, b1, n1⟩) a0 ⟨b0, m⟩) h)

/-! ### (*hypogeum/hypogeumref06.In).End (f42) -/
def ref06_In_End_J1 (K : V → H → Prop) (m : Nat) (x0 : V) (h : H) : Prop :=
 X (pNil x0 h.get) h fun v23 h24 =>
 X (pFieldAddr 1 v23 h24.get) h24 fun v25 h26 =>
 X (pLoad false 1 v25 h26.get) h26 fun v27 h28 =>
 K v27 h28
def ref06_In_End_R0 (K : V → H → Prop) (m : Nat) (x0 : V) (x14 : V) (h : H) : Prop :=
 Sp x14 (
 X (pNil x0 h.get) h fun v17 h18 =>
 X (pFieldAddr 1 v17 h18.get) h18 fun v19 h20 =>
 X (pStore false 1 v19 (.int .i64 2) h20.get) h20 fun v21 h22 =>
 ref06_In_End_J1 K m x0 h22)
 (ref06_In_End_J1 K m x0 h)
def ref06_In_End_S (K : V → H → Prop) (m : Nat) (a0 : V) (h : H) : Prop :=
 X (pNil a0 h.get) h fun v1 h2 =>
 X (pFieldAddr 1 v1 h2.get) h2 fun v3 h4 =>
 X (pLoad false 1 v3 h4.get) h4 fun v5 h6 =>
 X (pNot false (veqI v5 (.int .i64 0))) h6 fun v7 h8 =>
 Sp v7 (
 X (pNil a0 h8.get) h8 fun v9 h10 =>
 X (pFieldAddr 0 v9 h10.get) h10 fun v11 h12 =>
 X (pLoad false 1 v11 h12.get) h12 fun v13 h14 =>
 X (pNot true (veqS v13 (.str []))) h14 fun v15 h16 =>
 True ∧
 ref06_In_End_R0 K m a0 v15 h16)
 (True ∧
 ref06_In_End_R0 K m a0 (.bool false) h8)
def ref06_In_End_kp : Nat → List Nat := kpOf []
theorem ref06_In_End_E (K : V → H → Prop) (a0 : V) (h : H) : EF Try.prog Try.f42 ref06_In_End_kp [a0] h K = ref06_In_End_S K h.n a0 h := by kernel_rfl
set_option maxRecDepth 100000 in
theorem ref06_In_End_tr {m n1 : Nat} {b0 b1 : List (Nat × Blk)} {res : V} {a0 : V} (hk : ∀ q ∈ b1, q.1 < n1) (h : ref06_In_End_S (FinT ⟨id_ref06_In_End, [a0], b0, m, res, b1, n1⟩) m a0 ⟨b0, m⟩) : TrOk Try.prog ⟨id_ref06_In_End, [a0], b0, m, res, b1, n1⟩ :=
 tr_of_EF (fn := Try.f42) (kp := ref06_In_End_kp) Try.func42 (by kernel_rfl) (Nat.le_of_ble_eq_true (by kernel_rfl)) hk (Eq.mpr (ref06_In_End_E (FinT ⟨id_ref06_In_End, [a0], b0, m, res, b1, n1⟩) a0 ⟨b0, m⟩) h)

/-! ### (*hypogeum/hypogeumref06.In).Raw (f53) -/
def ref06_In_Raw_S (K : V → H → Prop) (m : Nat) (a0 : V) (a1 : V) (h : H) : Prop :=
 X (pNil a0 h.get) h fun v1 h2 =>
 X (pFieldAddr 1 v1 h2.get) h2 fun v3 h4 =>
 X (pLoad false 1 v3 h4.get) h4 fun v5 h6 =>
 X (pNot true (veqI v5 (.int .i64 0))) h6 fun v7 h8 =>
 Sp v7 (
 K (.str []) h8)
 (X (pBin .lss a1 (.int .i64 0)) h8 fun v9 h10 =>
 Sp v9 (
 X (pNil a0 h10.get) h10 fun v11 h12 =>
 X (pFieldAddr 1 v11 h12.get) h12 fun v13 h14 =>
 X (pStore false 1 v13 (.int .i64 1) h14.get) h14 fun v15 h16 =>
 K (.str []) h16)
 (X (pNil a0 h10.get) h10 fun v17 h18 =>
 X (pFieldAddr 0 v17 h18.get) h18 fun v19 h20 =>
 X (pLoad false 1 v19 h20.get) h20 fun v21 h22 =>
 X (pLenStr v21) h22 fun v23 h24 =>
 X (pBin .gtr a1 v23) h24 fun v25 h26 =>
 Sp v25 (
 X (pNil a0 h26.get) h26 fun v27 h28 =>
 X (pFieldAddr 1 v27 h28.get) h28 fun v29 h30 =>
 X (pStore false 1 v29 (.int .i64 3) h30.get) h30 fun v31 h32 =>
 K (.str []) h32)
 (X (pNil a0 h26.get) h26 fun v33 h34 =>
 X (pFieldAddr 0 v33 h34.get) h34 fun v35 h36 =>
 X (pLoad false 1 v35 h36.get) h36 fun v37 h38 =>
 X (pSliceStr v37 none (some a1)) h38 fun v39 h40 =>
 X (pNil a0 h40.get) h40 fun v41 h42 =>
 X (pFieldAddr 0 v41 h42.get) h42 fun v43 h44 =>
 X (pLoad false 1 v43 h44.get) h44 fun v45 h46 =>
 X (pSliceStr v45 (some a1) none) h46 fun v47 h48 =>
 X (pNil a0 h48.get) h48 fun v49 h50 =>
 X (pFieldAddr 0 v49 h50.get) h50 fun v51 h52 =>
 X (pStore false 1 v51 v47 h52.get) h52 fun v53 h54 =>
 K v39 h54)))
def ref06_In_Raw_kp : Nat → List Nat := kpOf []
theorem ref06_In_Raw_E (K : V → H → Prop) (a0 : V) (a1 : V) (h : H) : EF Try.prog Try.f53 ref06_In_Raw_kp [a0, a1] h K = ref06_In_Raw_S K h.n a0 a1 h := by kernel_rfl
set_option maxRecDepth 100000 in
theorem ref06_In_Raw_tr {m n1 : Nat} {b0 b1 : List (Nat × Blk)} {res : V} {a0 : V} {a1 : V} (hk : ∀ q ∈ b1, q.1 < n1) (h : ref06_In_Raw_S (FinT ⟨id_ref06_In_Raw, [a0, a1], b0, m, res, b1, n1⟩) m a0 a1 ⟨b0, m⟩) : TrOk Try.prog ⟨id_ref06_In_Raw, [a0, a1], b0, m, res, b1, n1⟩ :=
 tr_of_EF (fn := Try.f53) (kp := ref06_In_Raw_kp) Try.func53 (by kernel_rfl) (Nat.le_of_ble_eq_true (by kernel_rfl)) hk (Eq.mpr (ref06_In_Raw_E (FinT ⟨id_ref06_In_Raw, [a0, a1], b0, m, res, b1, n1⟩) a0 a1 ⟨b0, m⟩) h)

/-! ### hypogeum/hypogeumref07.DocEncode (f17) -/
def ref07_DocEncode_U15 : List (Nat × Nat) := [(3, 8), (4, 8), (3, 9), (4, 9), (3, 10), (4, 10)]
def ref07_DocEncode_U17 : List (Nat × Nat) := [(1, 4), (2, 4), (3, 4), (1, 5), (2, 5), (3, 5), (1, 8), (2, 8), (3, 8), (4, 8), (5, 8), (6, 8), (1, 9), (2, 9), (3, 9), (4, 9), (5, 9), (6, 9), (1, 12), (2, 12), (3, 12), (4, 12), (5, 12), (6, 12), (8, 12), (9, 12), (10, 12), (1, 13), (2, 13), (3, 13), (4, 13), (5, 13), (6, 13), (8, 13), (9, 13), (10, 13)]
def ref07_DocEncode_U20 : List (Nat × Nat) := [(1, 4), (2, 4), (3, 4), (1, 5), (2, 5), (3, 5), (1, 6), (2, 6), (3, 6)]
def ref07_DocEncode_J6 (K : V → H → Prop) (m : Nat) (N12 : List V → H → Prop) (x0 : V) (x6 : V) (x7 : V) (h : H) : Prop :=
 X (pBin .add x7 (.int .i64 1)) h fun v133 h134 =>
 N12 [x0, x6, v133] h134
def ref07_DocEncode_B22 (K : V → H → Prop) (m : Nat) (N12 : List V → H → Prop) (N22 : List V → H → Prop) (x0 : V) (x6 : V) (x7 : V) (x8 : V) (x9 : V) (h : H) : Prop :=
 X (pFieldAddr 6 x8 h.get) h fun v113 h114 =>
 X (pLoad false 1 v113 h114.get) h114 fun v115 h116 =>
 X (pLenSl v115 h116.get) h116 fun v117 h118 =>
 X (pBin .lss x9 v117) h118 fun v119 h120 =>
 Sp v119 (
 X (pFieldAddr 6 x8 h120.get) h120 fun v121 h122 =>
 X (pLoad false 1 v121 h122.get) h122 fun v123 h124 =>
 X (pIndexSl 32 v123 x9 h124.get) h124 fun v125 h126 =>
 X (pSliceArr 32 v125 none none h126.get) h126 fun v127 h128 =>
 X (pAppend .byte 1 1 x6 v127 h128.get h128.n) h128 fun v129 h130 =>
 X (pBin .add x9 (.int .i64 1)) h130 fun v131 h132 =>
 N22 [x0, v129, x7, x8, v131] h132)
 (ref07_DocEncode_J6 K m N12 x0 x6 x7 h120)
def ref07_DocEncode_D2 (K : V → H → Prop) (m : Nat) (N12 : List V → H → Prop) (x0 : V) (x6 : V) (x7 : V) (x8 : V) (x56 : V) (h : H) : Prop :=
 Sp x56 (
 K (.tup [(.str []), (.int .i64 2)]) h)
 (XD (pFieldAddr 0 x8 h.get) h (idsL [x8]) fun v57 v57k v57r h58 =>
 XD (pLoad false 1 v57 h58.get) h58 (idsL [v57]) fun v59 v59k v59r h60 =>
 ECallD Try.prog id_ref06_Text [v59] h60 fun v61 v61k v61r h62 =>
 XD (pFieldAddr 1 x8 h62.get) h62 (idsL [x8]) fun v63 v63k v63r h64 =>
 XD (pLoad false 1 v63 h64.get) h64 (idsL [v63]) fun v65 v65k v65r h66 =>
 ECallD Try.prog id_ref06_Num [v65] h66 fun v67 v67k v67r h68 =>
 X (pBin .add v61 v67) h68 fun v69 h70 =>
 XD (pFieldAddr 2 x8 h70.get) h70 (idsL [x8]) fun v71 v71k v71r h72 =>
 XD (pLoad false 1 v71 h72.get) h72 (idsL [v71]) fun v73 v73k v73r h74 =>
 ECallD Try.prog id_ref06_Num [v73] h74 fun v75 v75k v75r h76 =>
 X (pBin .add v69 v75) h76 fun v77 h78 =>
 XD (pFieldAddr 3 x8 h78.get) h78 (idsL [x8]) fun v79 v79k v79r h80 =>
 XD (pLoad false 1 v79 h80.get) h80 (idsL [v79]) fun v81 v81k v81r h82 =>
 ECallD Try.prog id_ref06_Num [v81] h82 fun v83 v83k v83r h84 =>
 X (pBin .add v77 v83) h84 fun v85 h86 =>
 XD (pAppend .byte 1 1 x6 v85 h86.get h86.n) h86 (idsL [x6, v85]) fun v87 v87k v87r h88 =>
 Indep ref07_DocEncode_U17 [(17, [], []), (16, v87k, v87r), (15, [], []), (14, v83k, v83r), (13, v81k, v81r), (12, v79k, v79r), (11, [], []), (10, v75k, v75r), (9, v73k, v73r), (8, v71k, v71r), (7, [], []), (6, v67k, v67r), (5, v65k, v65r), (4, v63k, v63r), (3, v61k, v61r), (2, v59k, v59r), (1, v57k, v57r), (0, [], [])] ∧
 (X (pFieldAddr 1 x8 h88.get) h88 fun v89 h90 =>
 X (pLoad false 1 v89 h90.get) h90 fun v91 h92 =>
 X (pNot false (veqI v91 (.int .i64 0))) h92 fun v93 h94 =>
 Sp v93 (
 XD (pFieldAddr 4 x8 h94.get) h94 (idsL [x8]) fun v95 v95k v95r h96 =>
 XD (pLoad false 1 v95 h96.get) h96 (idsL [v95]) fun v97 v97k v97r h98 =>
 ECallD Try.prog id_ref06_Num [v97] h98 fun v99 v99k v99r h100 =>
 XD (pFieldAddr 6 x8 h100.get) h100 (idsL [x8]) fun v101 v101k v101r h102 =>
 XD (pLoad false 1 v101 h102.get) h102 (idsL [v101]) fun v103 v103k v103r h104 =>
 XD (pLenSl v103 h104.get) h104 (idsL [v103]) fun v105 v105k v105r h106 =>
 ECallD Try.prog id_ref06_Num [v105] h106 fun v107 v107k v107r h108 =>
 X (pBin .add v99 v107) h108 fun v109 h110 =>
 XD (pAppend .byte 1 1 v87 v109 h110.get h110.n) h110 (idsL [v87, v109]) fun v111 v111k v111r h112 =>
 Indep ref07_DocEncode_U20 [(10, [], []), (9, v111k, v111r), (8, [], []), (7, v107k, v107r), (6, v105k, v105r), (5, v103k, v103r), (4, v101k, v101r), (3, v99k, v99r), (2, v97k, v97r), (1, v95k, v95r), (0, [], [])] ∧
 (Lp m (fun N22 xs h => ref07_DocEncode_B22 K m N12 N22 (xs.getD 0 .undef) (xs.getD 1 .undef) (xs.getD 2 .undef) (xs.getD 3 .undef) (xs.getD 4 .undef) h) [x0, v111, x7, x8, (.int .i64 0)] h112))
 (X (pNot false (veqI v91 (.int .i64 1))) h94 fun v135 h136 =>
 Sp v135 (
 X (pFieldAddr 7 x8 h136.get) h136 fun v137 h138 =>
 X (pSliceArr 32 v137 none none h138.get) h138 fun v139 h140 =>
 X (pAppend .byte 1 1 v87 v139 h140.get h140.n) h140 fun v141 h142 =>
 ref07_DocEncode_J6 K m N12 x0 v141 x7 h142)
 (X (pNot false (veqI v91 (.int .i64 2))) h136 fun v143 h144 =>
 Sp v143 (
 X (pFieldAddr 5 x8 h144.get) h144 fun v145 h146 =>
 X (pLoad false 1 v145 h146.get) h146 fun v147 h148 =>
 ECall Try.prog id_ref06_Text [v147] h148 fun v149 h150 =>
 X (pAppend .byte 1 1 v87 v149 h150.get h150.n) h150 fun v151 h152 =>
 ref07_DocEncode_J6 K m N12 x0 v151 x7 h152)
 (ref07_DocEncode_J6 K m N12 x0 v87 x7 h144)))))
def ref07_DocEncode_J7 (K : V → H → Prop) (m : Nat) (x6 : V) (h : H) : Prop :=
 X (pConv .toStr x6 h.get h.n) h fun v153 h154 =>
 K (.tup [v153, (.int .i64 0)]) h154
def ref07_DocEncode_B12 (K : V → H → Prop) (m : Nat) (N12 : List V → H → Prop) (x0 : V) (x6 : V) (x7 : V) (h : H) : Prop :=
 X (pLenSl x0 h.get) h fun v29 h30 =>
 X (pBin .lss x7 v29) h30 fun v31 h32 =>
 Sp v31 (
 X (pIndexSl 39 x0 x7 h32.get) h32 fun v33 h34 =>
 X (pLoad true 39 v33 h34.get) h34 fun v35 h36 =>
 X (pAlloc (some [.str [], .int .i64 0, .int .i64 0, .int .i64 0, .int .i64 0, .str [], .nils, .byt 32 (List.replicate 32 0)]) h36.n) h36 fun v37 h38 =>
 X (pStore true 39 v37 v35 h38.get) h38 fun v39 h40 =>
 X (pBin .gtr x7 (.int .i64 0)) h40 fun v41 h42 =>
 Sp v41 (
 XD (pFieldAddr 0 v37 h42.get) h42 (idsL [v37]) fun v43 v43k v43r h44 =>
 XD (pLoad false 1 v43 h44.get) h44 (idsL [v43]) fun v45 v45k v45r h46 =>
 X (pBin .sub x7 (.int .i64 1)) h46 fun v47 h48 =>
 XD (pIndexSl 39 x0 v47 h48.get) h48 (idsL [x0, v47]) fun v49 v49k v49r h50 =>
 XD (pFieldAddr 0 v49 h50.get) h50 (idsL [v49]) fun v51 v51k v51r h52 =>
 XD (pLoad false 1 v51 h52.get) h52 (idsL [v51]) fun v53 v53k v53r h54 =>
 X (pBin .leq v45 v53) h54 fun v55 h56 =>
 True ∧
 Indep ref07_DocEncode_U15 [(12, [], []), (11, [], []), (10, v53k, v53r), (9, v51k, v51r), (8, v49k, v49r), (7, [], []), (6, [], []), (5, [], []), (4, v45k, v45r), (3, v43k, v43r), (2, [], []), (1, [], []), (0, [], [])] ∧
 (ref07_DocEncode_D2 K m N12 x0 x6 x7 v37 v55 h56))
 (True ∧
 Indep ref07_DocEncode_U15 [(12, [], []), (2, [], []), (1, [], []), (0, [], [])] ∧
 (ref07_DocEncode_D2 K m N12 x0 x6 x7 v37 (.bool false) h42)))
 (ref07_DocEncode_J7 K m x6 h32)
def ref07_DocEncode_J0 (K : V → H → Prop) (m : Nat) (x0 : V) (h : H) : Prop :=
 ECall Try.prog id_ref06_Begin [(.int .u8 110)] h fun v19 h20 =>
 X (pLenSl x0 h20.get) h20 fun v21 h22 =>
 ECall Try.prog id_ref06_Num [v21] h22 fun v23 h24 =>
 X (pBin .add v19 v23) h24 fun v25 h26 =>
 X (pAppend .byte 1 1 .nils v25 h26.get h26.n) h26 fun v27 h28 =>
 Lp m (fun N12 xs h => ref07_DocEncode_B12 K m N12 (xs.getD 0 .undef) (xs.getD 1 .undef) (xs.getD 2 .undef) h) [x0, v27, (.int .i64 0)] h28
def ref07_DocEncode_B4 (K : V → H → Prop) (m : Nat) (N4 : List V → H → Prop) (x0 : V) (x4 : V) (h : H) : Prop :=
 X (pLenSl x0 h.get) h fun v5 h6 =>
 X (pBin .lss x4 v5) h6 fun v7 h8 =>
 Sp v7 (
 X (pIndexSl 39 x0 x4 h8.get) h8 fun v9 h10 =>
 X (pLoad true 39 v9 h10.get) h10 fun v11 h12 =>
 ECall Try.prog id_ref07_Check [v11] h12 fun v13 h14 =>
 X (pNot true (veqI v13 (.int .i64 0))) h14 fun v15 h16 =>
 Sp v15 (
 K (.tup [(.str []), v13]) h16)
 (X (pBin .add x4 (.int .i64 1)) h16 fun v17 h18 =>
 N4 [x0, v17] h18))
 (ref07_DocEncode_J0 K m x0 h8)
def ref07_DocEncode_S (K : V → H → Prop) (m : Nat) (a0 : V) (h : H) : Prop :=
 X (pLenSl a0 h.get) h fun v1 h2 =>
 X (pBin .gtr v1 (.int .i64 2000)) h2 fun v3 h4 =>
 Sp v3 (
 K (.tup [(.str []), (.int .i64 4)]) h4)
 (Lp m (fun N4 xs h => ref07_DocEncode_B4 K m N4 (xs.getD 0 .undef) (xs.getD 1 .undef) h) [a0, (.int .i64 0)] h4)
def ref07_DocEncode_kp : Nat → List Nat := kpOf [(4, [0, 4]), (12, [0, 6, 7]), (22, [0, 6, 7, 8, 9])]
theorem ref07_DocEncode_E (K : V → H → Prop) (a0 : V) (h : H) : EF Try.prog Try.f17 ref07_DocEncode_kp [a0] h K = ref07_DocEncode_S K h.n a0 h := by kernel_rfl
set_option maxRecDepth 100000 in
theorem ref07_DocEncode_tr {m n1 : Nat} {b0 b1 : List (Nat × Blk)} {res : V} {a0 : V} (hk : ∀ q ∈ b1, q.1 < n1) (h : ref07_DocEncode_S (FinT ⟨id_ref07_DocEncode, [a0], b0, m, res, b1, n1⟩) m a0 ⟨b0, m⟩) : TrOk Try.prog ⟨id_ref07_DocEncode, [a0], b0, m, res, b1, n1⟩ :=
 tr_of_EF (fn := Try.f17) (kp := ref07_DocEncode_kp) Try.func17 (by kernel_rfl) (Nat.le_of_ble_eq_true (by kernel_rfl)) hk (Eq.mpr (ref07_DocEncode_E (FinT ⟨id_ref07_DocEncode, [a0], b0, m, res, b1, n1⟩) a0 ⟨b0, m⟩) h)

/-! ### hypogeum/hypogeumref07.DocDecode (f24) -/
def ref07_DocDecode_U19 : List (Nat × Nat) := [(0, 3), (1, 3), (0, 4), (1, 4)]
def ref07_DocDecode_J4 (K : V → H → Prop) (m : Nat) (N5 : List V → H → Prop) (x0 : V) (x4 : V) (x5 : V) (x6 : V) (x7 : V) (x8 : V) (h : H) : Prop :=
 X (pLoad true 39 x8 h.get) h fun v89 h90 =>
 X (pBuildSlice .els 39 1 [v89] h90.get h90.n) h90 fun v91 h92 =>
 X (pAppend .els 39 120 x6 v91 h92.get h92.n) h92 fun v93 h94 =>
 X (pBin .add x7 (.int .i64 1)) h94 fun v95 h96 =>
 N5 [x0, x4, x5, v93, v95] h96
def ref07_DocDecode_R1 (K : V → H → Prop) (m : Nat) (N5 : List V → H → Prop) (N17 : List V → H → Prop) (x0 : V) (x4 : V) (x5 : V) (x6 : V) (x7 : V) (x8 : V) (x9 : V) (x10 : V) (x62 : V) (h : H) : Prop :=
 Sp x62 (
 XD (pFieldAddr 6 x8 h.get) h (idsL [x8]) fun v73 v73k v73r h74 =>
 XD (pLoad false 1 v73 h74.get) h74 (idsL [v73]) fun v75 v75k v75r h76 =>
 ECallD Try.prog id_ref07_id [x4] h76 fun v77 v77k v77r h78 =>
 XD (pBuildSlice .els 32 1 [v77] h78.get h78.n) h78 (idsL [v77]) fun v79 v79k v79r h80 =>
 XD (pAppend .els 32 32 v75 v79 h80.get h80.n) h80 (idsL [v75, v79]) fun v81 v81k v81r h82 =>
 XD (pFieldAddr 6 x8 h82.get) h82 (idsL [x8]) fun v83 v83k v83r h84 =>
 XD (pStore false 1 v83 v81 h84.get) h84 (idsL [v83, v81]) fun v85 v85k v85r h86 =>
 Indep ref07_DocDecode_U19 [(7, v85k, v85r), (6, v83k, v83r), (5, v81k, v81r), (4, v79k, v79r), (3, v77k, v77r), (2, [], []), (1, v75k, v75r), (0, v73k, v73r)] ∧
 (X (pBin .add x10 (.int .i64 1)) h86 fun v87 h88 =>
 N17 [x0, x4, x5, x6, x7, x8, x9, v87] h88))
 (ref07_DocDecode_J4 K m N5 x0 x4 x5 x6 x7 x8 h)
def ref07_DocDecode_B17 (K : V → H → Prop) (m : Nat) (N5 : List V → H → Prop) (N17 : List V → H → Prop) (x0 : V) (x4 : V) (x5 : V) (x6 : V) (x7 : V) (x8 : V) (x9 : V) (x10 : V) (h : H) : Prop :=
 X (pBin .lss x10 x9) h fun v63 h64 =>
 Sp v63 (
 X (pNil x4 h64.get) h64 fun v65 h66 =>
 X (pFieldAddr 1 v65 h66.get) h66 fun v67 h68 =>
 X (pLoad false 1 v67 h68.get) h68 fun v69 h70 =>
 X (pNot false (veqI v69 (.int .i64 0))) h70 fun v71 h72 =>
 True ∧
 ref07_DocDecode_R1 K m N5 N17 x0 x4 x5 x6 x7 x8 x9 x10 v71 h72)
 (True ∧
 ref07_DocDecode_R1 K m N5 N17 x0 x4 x5 x6 x7 x8 x9 x10 (.bool false) h64)
def ref07_DocDecode_R6 (K : V → H → Prop) (m : Nat) (x6 : V) (x100 : V) (h : H) : Prop :=
 Sp x100 (
 K (.tup [.nils, (.int .i64 2)]) h)
 (K (.tup [x6, (.int .i64 0)]) h)
def ref07_DocDecode_J5 (K : V → H → Prop) (m : Nat) (x0 : V) (x4 : V) (x6 : V) (h : H) : Prop :=
 ECall Try.prog id_ref06_In_End [x4] h fun v113 h114 =>
 X (pNot true (veqI v113 (.int .i64 0))) h114 fun v115 h116 =>
 Sp v115 (
 K (.tup [.nils, (.int .i64 2)]) h116)
 (ECall Try.prog id_ref07_DocEncode [x6] h116 fun v117 h118 =>
 X (pExtract v117 0) h118 fun v119 h120 =>
 X (pExtract v117 1) h120 fun v121 h122 =>
 X (pNot true (veqI v121 (.int .i64 0))) h122 fun v123 h124 =>
 Sp v123 (
 True ∧
 ref07_DocDecode_R6 K m x6 (.bool true) h124)
 (X (pNot true (veqS v119 x0)) h124 fun v125 h126 =>
 True ∧
 ref07_DocDecode_R6 K m x6 v125 h126))
def ref07_DocDecode_R0 (K : V → H → Prop) (m : Nat) (N5 : List V → H → Prop) (x0 : V) (x4 : V) (x5 : V) (x6 : V) (x7 : V) (x26 : V) (h : H) : Prop :=
 Sp x26 (
 X (pBuild (some [.str [], .int .i64 0, .int .i64 0, .int .i64 0, .int .i64 0, .str [], .nils, .byt 32 (List.replicate 32 0)]) []) h fun v15 h16 =>
 X (pAlloc (some [.str [], .int .i64 0, .int .i64 0, .int .i64 0, .int .i64 0, .str [], .nils, .byt 32 (List.replicate 32 0)]) h16.n) h16 fun v17 h18 =>
 X (pStore true 39 v17 v15 h18.get) h18 fun v19 h20 =>
 ECall Try.prog id_ref06_In_Text [x4, (.int .i64 255)] h20 fun v21 h22 =>
 X (pFieldAddr 0 v17 h22.get) h22 fun v23 h24 =>
 X (pStore false 1 v23 v21 h24.get) h24 fun v25 h26 =>
 ECall Try.prog id_ref06_In_Num [x4, (.int .i64 2)] h26 fun v27 h28 =>
 X (pFieldAddr 1 v17 h28.get) h28 fun v29 h30 =>
 X (pStore false 1 v29 v27 h30.get) h30 fun v31 h32 =>
 ECall Try.prog id_ref06_In_Num [x4, (.int .i64 4095)] h32 fun v33 h34 =>
 X (pFieldAddr 2 v17 h34.get) h34 fun v35 h36 =>
 X (pStore false 1 v35 v33 h36.get) h36 fun v37 h38 =>
 ECall Try.prog id_ref06_In_Num [x4, (.int .i64 1099511627776)] h38 fun v39 h40 =>
 X (pFieldAddr 3 v17 h40.get) h40 fun v41 h42 =>
 X (pStore false 1 v41 v39 h42.get) h42 fun v43 h44 =>
 X (pFieldAddr 1 v17 h44.get) h44 fun v45 h46 =>
 X (pLoad false 1 v45 h46.get) h46 fun v47 h48 =>
 X (pNot false (veqI v47 (.int .i64 0))) h48 fun v49 h50 =>
 Sp v49 (
 ECall Try.prog id_ref06_In_Num [x4, (.int .i64 1048576)] h50 fun v51 h52 =>
 X (pFieldAddr 4 v17 h52.get) h52 fun v53 h54 =>
 X (pStore false 1 v53 v51 h54.get) h54 fun v55 h56 =>
 X (pFieldAddr 4 v17 h56.get) h56 fun v57 h58 =>
 X (pLoad false 1 v57 h58.get) h58 fun v59 h60 =>
 ECall Try.prog id_ref06_In_Num [x4, v59] h60 fun v61 h62 =>
 Lp m (fun N17 xs h => ref07_DocDecode_B17 K m N5 N17 (xs.getD 0 .undef) (xs.getD 1 .undef) (xs.getD 2 .undef) (xs.getD 3 .undef) (xs.getD 4 .undef) (xs.getD 5 .undef) (xs.getD 6 .undef) (xs.getD 7 .undef) h) [x0, x4, x5, x6, x7, v17, v61, (.int .i64 0)] h62)
 (X (pNot false (veqI v47 (.int .i64 1))) h50 fun v97 h98 =>
 Sp v97 (
 ECall Try.prog id_ref07_id [x4] h98 fun v99 h100 =>
 X (pFieldAddr 7 v17 h100.get) h100 fun v101 h102 =>
 X (pStore true 32 v101 v99 h102.get) h102 fun v103 h104 =>
 ref07_DocDecode_J4 K m N5 x0 x4 x5 x6 x7 v17 h104)
 (X (pNot false (veqI v47 (.int .i64 2))) h98 fun v105 h106 =>
 Sp v105 (
 ECall Try.prog id_ref06_In_Text [x4, (.int .i64 4095)] h106 fun v107 h108 =>
 X (pFieldAddr 5 v17 h108.get) h108 fun v109 h110 =>
 X (pStore false 1 v109 v107 h110.get) h110 fun v111 h112 =>
 ref07_DocDecode_J4 K m N5 x0 x4 x5 x6 x7 v17 h112)
 (ref07_DocDecode_J4 K m N5 x0 x4 x5 x6 x7 v17 h106))))
 (ref07_DocDecode_J5 K m x0 x4 x6 h)
def ref07_DocDecode_B5 (K : V → H → Prop) (m : Nat) (N5 : List V → H → Prop) (x0 : V) (x4 : V) (x5 : V) (x6 : V) (x7 : V) (h : H) : Prop :=
 X (pBin .lss x7 x5) h fun v5 h6 =>
 Sp v5 (
 X (pNil x4 h6.get) h6 fun v7 h8 =>
 X (pFieldAddr 1 v7 h8.get) h8 fun v9 h10 =>
 X (pLoad false 1 v9 h10.get) h10 fun v11 h12 =>
 X (pNot false (veqI v11 (.int .i64 0))) h12 fun v13 h14 =>
 True ∧
 ref07_DocDecode_R0 K m N5 x0 x4 x5 x6 x7 v13 h14)
 (True ∧
 ref07_DocDecode_R0 K m N5 x0 x4 x5 x6 x7 (.bool false) h6)
def ref07_DocDecode_S (K : V → H → Prop) (m : Nat) (a0 : V) (h : H) : Prop :=
 ECall Try.prog id_ref06_Open [(.int .u8 110), a0] h fun v1 h2 =>
 ECall Try.prog id_ref06_In_Num [v1, (.int .i64 2000)] h2 fun v3 h4 =>
 Lp m (fun N5 xs h => ref07_DocDecode_B5 K m N5 (xs.getD 0 .undef) (xs.getD 1 .undef) (xs.getD 2 .undef) (xs.getD 3 .undef) (xs.getD 4 .undef) h) [a0, v1, v3, .nils, (.int .i64 0)] h4
def ref07_DocDecode_kp : Nat → List Nat := kpOf [(5, [0, 4, 5, 6, 7]), (17, [0, 4, 5, 6, 7, 8, 9, 10])]
theorem ref07_DocDecode_E (K : V → H → Prop) (a0 : V) (h : H) : EF Try.prog Try.f24 ref07_DocDecode_kp [a0] h K = ref07_DocDecode_S K h.n a0 h := by kernel_rfl
set_option maxRecDepth 100000 in
theorem ref07_DocDecode_tr {m n1 : Nat} {b0 b1 : List (Nat × Blk)} {res : V} {a0 : V} (hk : ∀ q ∈ b1, q.1 < n1) (h : ref07_DocDecode_S (FinT ⟨id_ref07_DocDecode, [a0], b0, m, res, b1, n1⟩) m a0 ⟨b0, m⟩) : TrOk Try.prog ⟨id_ref07_DocDecode, [a0], b0, m, res, b1, n1⟩ :=
 tr_of_EF (fn := Try.f24) (kp := ref07_DocDecode_kp) Try.func24 (by kernel_rfl) (Nat.le_of_ble_eq_true (by kernel_rfl)) hk (Eq.mpr (ref07_DocDecode_E (FinT ⟨id_ref07_DocDecode, [a0], b0, m, res, b1, n1⟩) a0 ⟨b0, m⟩) h)

end Go.Proofs.Ytmgjmdlmnbjaiaa.A
