/- Part of the proof: what functions of the program do, step by step. No condition of its own. -/
import Derived.Test.YtmgjmdlmnbjaiaaMd
import Derived.Test.YtmgjmdlmnbjaiaaSI
import Derived.KernelRfl
set_option linter.unusedVariables false
namespace Go.Proofs.Ytmgjmdlmnbjaiaa.A
open Go Go.AM
/-! ### hypogeum/hypogeumlaw07.NodeChecks (f3) -/
def law07_NodeChecks_D0 (K : V → H → Prop) (m : Nat) (x4 : V) (h : H) : Prop :=
 K x4 h
def law07_NodeChecks_S (K : V → H → Prop) (m : Nat) (a0 : V) (a1 : V) (h : H) : Prop :=
 X (pBox a0 h.n) h fun v1 h2 =>
 X (pLoad true 39 v1 h2.get) h2 fun v3 h4 =>
 X (pBuildSlice .els 39 1 [v3] h4.get h4.n) h4 fun v5 h6 =>
 ECall Try.prog id_law07_to [v5] h6 fun v7 h8 =>
 ECallD Try.prog id_law07_nodes [] h8 fun v9 v9k v9r h10 =>
 Sp v9 (
 XD (pIndexSl 39 v7 (.int .i64 0) h10.get) h10 (idsL [v7, (.int .i64 0)]) fun v11 v11k v11r h12 =>
 XD (pLoad true 39 v11 h12.get) h12 (idsL [v11]) fun v13 v13k v13r h14 =>
 ECallD Try.prog id_node_Check [v13] h14 fun v15 v15k v15r h16 =>
 XD (pLoad true 39 v1 h16.get) h16 (idsL [v1]) fun v17 v17k v17r h18 =>
 ECallD Try.prog id_ref07_Check [v17] h18 fun v19 v19k v19r h20 =>
 XD (pNot false (veqI v15 v19)) h20 (idsL [v15, v19]) fun v21 v21k v21r h22 =>
 True ∧
 Sp v21 (
 ECallD Try.prog id_node_IsName [a1] h22 fun v23 v23k v23r h24 =>
 ECallD Try.prog id_ref07_IsName [a1] h24 fun v25 v25k v25r h26 =>
 XD (pNot false (veqB v23 v25)) h26 (idsL [v23, v25]) fun v27 v27k v27r h28 =>
 True ∧
 Indep [(3, 6), (4, 6), (5, 6)] [(17, [], []), (16, [], []), (15, v27k, v27r), (14, v25k, v25r), (13, [], []), (12, v23k, v23r), (11, [], []), (10, [], []), (9, [], []), (8, v21k, v21r), (7, v19k, v19r), (6, v17k, v17r), (5, v15k, v15r), (4, v13k, v13r), (3, v11k, v11r), (2, [], []), (1, [], []), (0, v9k, v9r)] ∧
 (law07_NodeChecks_D0 K m v27 h28))
 (True ∧
 Indep [(3, 6), (4, 6), (5, 6)] [(17, [], []), (16, [], []), (10, [], []), (9, [], []), (8, v21k, v21r), (7, v19k, v19r), (6, v17k, v17r), (5, v15k, v15r), (4, v13k, v13r), (3, v11k, v11r), (2, [], []), (1, [], []), (0, v9k, v9r)] ∧
 (law07_NodeChecks_D0 K m (.bool false) h22)))
 (True ∧
 True ∧
 Indep [(3, 6), (4, 6), (5, 6)] [(17, [], []), (16, [], []), (10, [], []), (9, [], []), (1, [], []), (0, v9k, v9r)] ∧
 (law07_NodeChecks_D0 K m (.bool false) h10))
def law07_NodeChecks_kp : Nat → List Nat := kpOf []
theorem law07_NodeChecks_E (K : V → H → Prop) (a0 : V) (a1 : V) (h : H) : EF Try.prog Try.f3 law07_NodeChecks_kp [a0, a1] h K = law07_NodeChecks_S K h.n a0 a1 h := by kernel_rfl
set_option maxRecDepth 100000 in
theorem law07_NodeChecks_tr {m n1 : Nat} {b0 b1 : List (Nat × Blk)} {res : V} {a0 : V} {a1 : V} (hk : ∀ q ∈ b1, q.1 < n1) (h : law07_NodeChecks_S (FinT ⟨id_law07_NodeChecks, [a0, a1], b0, m, res, b1, n1⟩) m a0 a1 ⟨b0, m⟩) : TrOk Try.prog ⟨id_law07_NodeChecks, [a0, a1], b0, m, res, b1, n1⟩ :=
 tr_of_EF (fn := Try.f3) (kp := law07_NodeChecks_kp) Try.func3 (by kernel_rfl) (Nat.le_of_ble_eq_true (by kernel_rfl)) hk (Eq.mpr (law07_NodeChecks_E (FinT ⟨id_law07_NodeChecks, [a0, a1], b0, m, res, b1, n1⟩) a0 a1 ⟨b0, m⟩) h)

/-! ### hypogeum/hypogeumlaw07.NodeEncodes (f4) -/
def law07_NodeEncodes_R0 (K : V → H → Prop) (m : Nat) (x2 : V) (h : H) : Prop :=
 K x2 h
def law07_NodeEncodes_S (K : V → H → Prop) (m : Nat) (a0 : V) (h : H) : Prop :=
 ECall Try.prog id_law07_few [a0] h fun v1 h2 =>
 ECall Try.prog id_law07_to [v1] h2 fun v3 h4 =>
 ECall Try.prog id_ref07_DocEncode [v1] h4 fun v5 h6 =>
 X (pExtract v5 0) h6 fun v7 h8 =>
 X (pExtract v5 1) h8 fun v9 h10 =>
 ECall Try.prog id_node_Encode [v3] h10 fun v11 h12 =>
 X (pExtract v11 0) h12 fun v13 h14 =>
 X (pExtract v11 1) h14 fun v15 h16 =>
 ECall Try.prog id_law07_nodes [] h16 fun v17 h18 =>
 Sp v17 (
 X (pConv .toStr v13 h18.get h18.n) h18 fun v19 h20 =>
 X (pNot false (veqS v7 v19)) h20 fun v21 h22 =>
 True ∧
 Sp v21 (
 X (pNot false (veqI v9 v15)) h22 fun v23 h24 =>
 True ∧
 Sp v23 (
 ECall Try.prog id_law07_from [v3] h24 fun v25 h26 =>
 ECall Try.prog id_ref07_Same [v25, v1] h26 fun v27 h28 =>
 True ∧
 law07_NodeEncodes_R0 K m v27 h28)
 (True ∧
 law07_NodeEncodes_R0 K m (.bool false) h24))
 (True ∧
 True ∧
 law07_NodeEncodes_R0 K m (.bool false) h22))
 (True ∧
 True ∧
 True ∧
 law07_NodeEncodes_R0 K m (.bool false) h18)
def law07_NodeEncodes_kp : Nat → List Nat := kpOf []
theorem law07_NodeEncodes_E (K : V → H → Prop) (a0 : V) (h : H) : EF Try.prog Try.f4 law07_NodeEncodes_kp [a0] h K = law07_NodeEncodes_S K h.n a0 h := by kernel_rfl
set_option maxRecDepth 100000 in
theorem law07_NodeEncodes_tr {m n1 : Nat} {b0 b1 : List (Nat × Blk)} {res : V} {a0 : V} (hk : ∀ q ∈ b1, q.1 < n1) (h : law07_NodeEncodes_S (FinT ⟨id_law07_NodeEncodes, [a0], b0, m, res, b1, n1⟩) m a0 ⟨b0, m⟩) : TrOk Try.prog ⟨id_law07_NodeEncodes, [a0], b0, m, res, b1, n1⟩ :=
 tr_of_EF (fn := Try.f4) (kp := law07_NodeEncodes_kp) Try.func4 (by kernel_rfl) (Nat.le_of_ble_eq_true (by kernel_rfl)) hk (Eq.mpr (law07_NodeEncodes_E (FinT ⟨id_law07_NodeEncodes, [a0], b0, m, res, b1, n1⟩) a0 ⟨b0, m⟩) h)

/-! ### hypogeum/hypogeumlaw07.NodeOrders (f5) -/
def law07_NodeOrders_U6 : List (Nat × Nat) := [(2, 7), (3, 7), (2, 8), (3, 8)]
def law07_NodeOrders_U7 : List (Nat × Nat) := [(3, 7), (4, 7), (3, 8), (4, 8)]
def law07_NodeOrders_U8 : List (Nat × Nat) := [(2, 6), (3, 6), (2, 7), (3, 7)]
def law07_NodeOrders_R3 (K : V → H → Prop) (m : Nat) (N4 : List V → H → Prop) (x3 : V) (x4 : V) (x90 : V) (h : H) : Prop :=
 Sp x90 (
 K (.bool false) h)
 (X (pBin .add x4 (.int .i64 1)) h fun v79 h80 =>
 N4 [x3, v79] h80)
def law07_NodeOrders_R5 (K : V → H → Prop) (m : Nat) (x2 : V) (h : H) : Prop :=
 K x2 h
def law07_NodeOrders_J4 (K : V → H → Prop) (m : Nat) (x3 : V) (h : H) : Prop :=
 ECall Try.prog id_node_Encode [x3] h fun v87 h88 =>
 X (pExtract v87 0) h88 fun v89 h90 =>
 X (pExtract v87 1) h90 fun v91 h92 =>
 ECall Try.prog id_law07_nodes [] h92 fun v93 h94 =>
 Sp v93 (
 X (pNot false (veqI v91 (.int .i64 0))) h94 fun v95 h96 =>
 True ∧
 law07_NodeOrders_R5 K m v95 h96)
 (True ∧
 law07_NodeOrders_R5 K m (.bool false) h94)
def law07_NodeOrders_B4 (K : V → H → Prop) (m : Nat) (N4 : List V → H → Prop) (x3 : V) (x4 : V) (h : H) : Prop :=
 X (pBin .add x4 (.int .i64 1)) h fun v7 h8 =>
 X (pLenSl x3 h8.get) h8 fun v9 h10 =>
 X (pBin .lss v7 v9) h10 fun v11 h12 =>
 Sp v11 (
 XD (pIndexSl 39 x3 x4 h12.get) h12 (idsL [x3, x4]) fun v13 v13k v13r h14 =>
 XD (pLoad true 39 v13 h14.get) h14 (idsL [v13]) fun v15 v15k v15r h16 =>
 X (pBin .add x4 (.int .i64 1)) h16 fun v17 h18 =>
 XD (pIndexSl 39 x3 v17 h18.get) h18 (idsL [x3, v17]) fun v19 v19k v19r h20 =>
 XD (pLoad true 39 v19 h20.get) h20 (idsL [v19]) fun v21 v21k v21r h22 =>
 XD (pBuildSlice .els 39 2 [v15, v21] h22.get h22.n) h22 (idsL [v15, v21]) fun v23 v23k v23r h24 =>
 ECallD Try.prog id_node_Encode [v23] h24 fun v25 v25k v25r h26 =>
 X (pExtract v25 0) h26 fun v27 h28 =>
 X (pExtract v25 1) h28 fun v29 h30 =>
 Indep law07_NodeOrders_U6 [(15, [], []), (14, [], []), (13, [], []), (12, [], []), (11, [], []), (10, v25k, v25r), (9, v23k, v23r), (8, v21k, v21r), (7, v19k, v19r), (6, [], []), (5, [], []), (4, [], []), (3, v15k, v15r), (2, v13k, v13r), (1, [], []), (0, [], [])] ∧
 (X (pBin .add x4 (.int .i64 1)) h30 fun v31 h32 =>
 XD (pIndexSl 39 x3 v31 h32.get) h32 (idsL [x3, v31]) fun v33 v33k v33r h34 =>
 XD (pLoad true 39 v33 h34.get) h34 (idsL [v33]) fun v35 v35k v35r h36 =>
 XD (pIndexSl 39 x3 x4 h36.get) h36 (idsL [x3, x4]) fun v37 v37k v37r h38 =>
 XD (pLoad true 39 v37 h38.get) h38 (idsL [v37]) fun v39 v39k v39r h40 =>
 XD (pBuildSlice .els 39 2 [v35, v39] h40.get h40.n) h40 (idsL [v35, v39]) fun v41 v41k v41r h42 =>
 ECallD Try.prog id_node_Encode [v41] h42 fun v43 v43k v43r h44 =>
 X (pExtract v43 0) h44 fun v45 h46 =>
 X (pExtract v43 1) h46 fun v47 h48 =>
 Indep law07_NodeOrders_U7 [(15, [], []), (14, [], []), (13, [], []), (12, [], []), (11, [], []), (10, v43k, v43r), (9, v41k, v41r), (8, v39k, v39r), (7, v37k, v37r), (6, [], []), (5, [], []), (4, v35k, v35r), (3, v33k, v33r), (2, [], []), (1, [], []), (0, [], [])] ∧
 (XD (pIndexSl 39 x3 x4 h48.get) h48 (idsL [x3, x4]) fun v49 v49k v49r h50 =>
 XD (pLoad true 39 v49 h50.get) h50 (idsL [v49]) fun v51 v51k v51r h52 =>
 XD (pIndexSl 39 x3 x4 h52.get) h52 (idsL [x3, x4]) fun v53 v53k v53r h54 =>
 XD (pLoad true 39 v53 h54.get) h54 (idsL [v53]) fun v55 v55k v55r h56 =>
 XD (pBuildSlice .els 39 2 [v51, v55] h56.get h56.n) h56 (idsL [v51, v55]) fun v57 v57k v57r h58 =>
 ECallD Try.prog id_node_Encode [v57] h58 fun v59 v59k v59r h60 =>
 X (pExtract v59 0) h60 fun v61 h62 =>
 X (pExtract v59 1) h62 fun v63 h64 =>
 Indep law07_NodeOrders_U8 [(14, [], []), (13, [], []), (12, [], []), (11, [], []), (10, [], []), (9, v59k, v59r), (8, v57k, v57r), (7, v55k, v55r), (6, v53k, v53r), (5, [], []), (4, [], []), (3, v51k, v51r), (2, v49k, v49r), (1, [], []), (0, [], [])] ∧
 (X (pIndexSl 39 x3 x4 h64.get) h64 fun v65 h66 =>
 X (pLoad true 39 v65 h66.get) h66 fun v67 h68 =>
 X (pBuildSlice .els 39 1 [v67] h68.get h68.n) h68 fun v69 h70 =>
 ECall Try.prog id_node_Encode [v69] h70 fun v71 h72 =>
 X (pExtract v71 0) h72 fun v73 h74 =>
 X (pExtract v71 1) h74 fun v75 h76 =>
 X (pNot true (veqI v29 (.int .i64 0))) h76 fun v77 h78 =>
 Sp v77 (
 True ∧
 True ∧
 True ∧
 law07_NodeOrders_R3 K m N4 x3 x4 (.bool true) h78)
 (X (pNot true (veqI v47 (.int .i64 2))) h78 fun v81 h82 =>
 True ∧
 Sp v81 (
 True ∧
 True ∧
 law07_NodeOrders_R3 K m N4 x3 x4 (.bool true) h82)
 (X (pNot true (veqI v63 (.int .i64 2))) h82 fun v83 h84 =>
 True ∧
 Sp v83 (
 True ∧
 law07_NodeOrders_R3 K m N4 x3 x4 (.bool true) h84)
 (X (pNot true (veqI v75 (.int .i64 0))) h84 fun v85 h86 =>
 True ∧
 law07_NodeOrders_R3 K m N4 x3 x4 v85 h86)))))))
 (law07_NodeOrders_J4 K m x3 h12)
def law07_NodeOrders_S (K : V → H → Prop) (m : Nat) (a0 : V) (h : H) : Prop :=
 ECall Try.prog id_law07_few [a0] h fun v1 h2 =>
 ECall Try.prog id_law07_sorted [v1] h2 fun v3 h4 =>
 ECall Try.prog id_law07_to [v3] h4 fun v5 h6 =>
 Lp m (fun N4 xs h => law07_NodeOrders_B4 K m N4 (xs.getD 0 .undef) (xs.getD 1 .undef) h) [v5, (.int .i64 0)] h6
def law07_NodeOrders_kp : Nat → List Nat := kpOf [(4, [3, 4])]
theorem law07_NodeOrders_E (K : V → H → Prop) (a0 : V) (h : H) : EF Try.prog Try.f5 law07_NodeOrders_kp [a0] h K = law07_NodeOrders_S K h.n a0 h := by kernel_rfl
set_option maxRecDepth 100000 in
theorem law07_NodeOrders_tr {m n1 : Nat} {b0 b1 : List (Nat × Blk)} {res : V} {a0 : V} (hk : ∀ q ∈ b1, q.1 < n1) (h : law07_NodeOrders_S (FinT ⟨id_law07_NodeOrders, [a0], b0, m, res, b1, n1⟩) m a0 ⟨b0, m⟩) : TrOk Try.prog ⟨id_law07_NodeOrders, [a0], b0, m, res, b1, n1⟩ :=
 tr_of_EF (fn := Try.f5) (kp := law07_NodeOrders_kp) Try.func5 (by kernel_rfl) (Nat.le_of_ble_eq_true (by kernel_rfl)) hk (Eq.mpr (law07_NodeOrders_E (FinT ⟨id_law07_NodeOrders, [a0], b0, m, res, b1, n1⟩) a0 ⟨b0, m⟩) h)

/-! ### hypogeum/hypogeumlaw07.NodeFinds (f6) -/
def law07_NodeFinds_U18 : List (Nat × Nat) := [(7, 11), (8, 11), (7, 12), (8, 12), (7, 13), (8, 13), (7, 15), (8, 15), (7, 16), (8, 16)]
def law07_NodeFinds_D4 (K : V → H → Prop) (m : Nat) (N11 : List V → H → Prop) (N16 : List V → H → Prop) (x0 : V) (x8 : V) (x9 : V) (x10 : V) (x11 : V) (x12 : V) (x13 : V) (x110 : V) (h : H) : Prop :=
 Sp x110 (
 K (.bool false) h)
 (X (pBin .add x10 (.int .i64 1)) h fun v67 h68 =>
 X (pBin .add x13 (.int .i64 1)) h68 fun v69 h70 =>
 N16 [x0, x8, x9, v67, x11, x12, v69] h70)
def law07_NodeFinds_J6 (K : V → H → Prop) (m : Nat) (N11 : List V → H → Prop) (x0 : V) (x8 : V) (x9 : V) (x10 : V) (x11 : V) (x12 : V) (h : H) : Prop :=
 X (pBin .add x12 (.int .i64 1)) h fun v87 h88 =>
 N11 [x0, x8, x9, x10, x11, v87] h88
def law07_NodeFinds_B16 (K : V → H → Prop) (m : Nat) (N11 : List V → H → Prop) (N16 : List V → H → Prop) (x0 : V) (x8 : V) (x9 : V) (x10 : V) (x11 : V) (x12 : V) (x13 : V) (h : H) : Prop :=
 X (pIndexSl 39 x0 x12 h.get) h fun v53 h54 =>
 X (pFieldAddr 6 v53 h54.get) h54 fun v55 h56 =>
 X (pLoad false 1 v55 h56.get) h56 fun v57 h58 =>
 X (pLenSl v57 h58.get) h58 fun v59 h60 =>
 X (pBin .lss x13 v59) h60 fun v61 h62 =>
 Sp v61 (
 XD (pLenSl x8 h62.get) h62 (idsL [x8]) fun v63 v63k v63r h64 =>
 X (pBin .geq x10 v63) h64 fun v65 h66 =>
 Sp v65 (
 True ∧
 Indep law07_NodeFinds_U18 [(18, [], []), (4, [], []), (3, [], []), (2, v63k, v63r), (1, [], []), (0, [], [])] ∧
 (law07_NodeFinds_D4 K m N11 N16 x0 x8 x9 x10 x11 x12 x13 (.bool true) h66))
 (XD (pIndexSl 32 x8 x10 h66.get) h66 (idsL [x8, x10]) fun v71 v71k v71r h72 =>
 XD (pLoad true 32 v71 h72.get) h72 (idsL [v71]) fun v73 v73k v73r h74 =>
 XD (pIndexSl 39 x0 x12 h74.get) h74 (idsL [x0, x12]) fun v75 v75k v75r h76 =>
 XD (pFieldAddr 6 v75 h76.get) h76 (idsL [v75]) fun v77 v77k v77r h78 =>
 XD (pLoad false 1 v77 h78.get) h78 (idsL [v77]) fun v79 v79k v79r h80 =>
 XD (pIndexSl 32 v79 x13 h80.get) h80 (idsL [v79, x13]) fun v81 v81k v81r h82 =>
 XD (pLoad true 32 v81 h82.get) h82 (idsL [v81]) fun v83 v83k v83r h84 =>
 XD (pNot true (veqA 32 v73 v83)) h84 (idsL [v73, v83]) fun v85 v85k v85r h86 =>
 True ∧
 Indep law07_NodeFinds_U18 [(18, [], []), (17, v85k, v85r), (16, v83k, v83r), (15, v81k, v81r), (14, [], []), (13, v79k, v79r), (12, v77k, v77r), (11, v75k, v75r), (10, [], []), (9, [], []), (8, v73k, v73r), (7, v71k, v71r), (6, [], []), (5, [], []), (4, [], []), (3, [], []), (2, v63k, v63r), (1, [], []), (0, [], [])] ∧
 (law07_NodeFinds_D4 K m N11 N16 x0 x8 x9 x10 x11 x12 x13 v85 h86)))
 (law07_NodeFinds_J6 K m N11 x0 x8 x9 x10 x11 x12 h62)
def law07_NodeFinds_U22 : List (Nat × Nat) := [(7, 11), (8, 11), (7, 12), (8, 12), (7, 13), (8, 13)]
def law07_NodeFinds_D8 (K : V → H → Prop) (m : Nat) (N11 : List V → H → Prop) (x0 : V) (x8 : V) (x9 : V) (x10 : V) (x11 : V) (x12 : V) (x130 : V) (h : H) : Prop :=
 Sp x130 (
 K (.bool false) h)
 (X (pBin .add x11 (.int .i64 1)) h fun v95 h96 =>
 law07_NodeFinds_J6 K m N11 x0 x8 x9 x10 v95 x12 h96)
def law07_NodeFinds_R10 (K : V → H → Prop) (m : Nat) (x4 : V) (h : H) : Prop :=
 K x4 h
def law07_NodeFinds_J9 (K : V → H → Prop) (m : Nat) (x8 : V) (x9 : V) (x10 : V) (x11 : V) (h : H) : Prop :=
 X (pLenSl x8 h.get) h fun v109 h110 =>
 X (pNot false (veqI x10 v109)) h110 fun v111 h112 =>
 Sp v111 (
 X (pLenSl x9 h112.get) h112 fun v113 h114 =>
 X (pNot false (veqI x11 v113)) h114 fun v115 h116 =>
 True ∧
 law07_NodeFinds_R10 K m v115 h116)
 (True ∧
 law07_NodeFinds_R10 K m (.bool false) h112)
def law07_NodeFinds_B11 (K : V → H → Prop) (m : Nat) (N11 : List V → H → Prop) (x0 : V) (x8 : V) (x9 : V) (x10 : V) (x11 : V) (x12 : V) (h : H) : Prop :=
 X (pLenSl x0 h.get) h fun v41 h42 =>
 X (pBin .lss x12 v41) h42 fun v43 h44 =>
 Sp v43 (
 X (pIndexSl 39 x0 x12 h44.get) h44 fun v45 h46 =>
 X (pFieldAddr 1 v45 h46.get) h46 fun v47 h48 =>
 X (pLoad false 1 v47 h48.get) h48 fun v49 h50 =>
 X (pNot false (veqI v49 (.int .i64 0))) h50 fun v51 h52 =>
 Sp v51 (
 Lp m (fun N16 xs h => law07_NodeFinds_B16 K m N11 N16 (xs.getD 0 .undef) (xs.getD 1 .undef) (xs.getD 2 .undef) (xs.getD 3 .undef) (xs.getD 4 .undef) (xs.getD 5 .undef) (xs.getD 6 .undef) h) [x0, x8, x9, x10, x11, x12, (.int .i64 0)] h52)
 (X (pNot false (veqI v49 (.int .i64 1))) h52 fun v89 h90 =>
 Sp v89 (
 XD (pLenSl x9 h90.get) h90 (idsL [x9]) fun v91 v91k v91r h92 =>
 X (pBin .geq x11 v91) h92 fun v93 h94 =>
 Sp v93 (
 True ∧
 Indep law07_NodeFinds_U22 [(15, [], []), (4, [], []), (3, [], []), (2, v91k, v91r), (1, [], []), (0, [], [])] ∧
 (law07_NodeFinds_D8 K m N11 x0 x8 x9 x10 x11 x12 (.bool true) h94))
 (XD (pIndexSl 32 x9 x11 h94.get) h94 (idsL [x9, x11]) fun v97 v97k v97r h98 =>
 XD (pLoad true 32 v97 h98.get) h98 (idsL [v97]) fun v99 v99k v99r h100 =>
 XD (pIndexSl 39 x0 x12 h100.get) h100 (idsL [x0, x12]) fun v101 v101k v101r h102 =>
 XD (pFieldAddr 7 v101 h102.get) h102 (idsL [v101]) fun v103 v103k v103r h104 =>
 XD (pLoad true 32 v103 h104.get) h104 (idsL [v103]) fun v105 v105k v105r h106 =>
 XD (pNot true (veqA 32 v99 v105)) h106 (idsL [v99, v105]) fun v107 v107k v107r h108 =>
 True ∧
 Indep law07_NodeFinds_U22 [(15, [], []), (14, v107k, v107r), (13, v105k, v105r), (12, v103k, v103r), (11, v101k, v101r), (10, [], []), (9, [], []), (8, v99k, v99r), (7, v97k, v97r), (6, [], []), (5, [], []), (4, [], []), (3, [], []), (2, v91k, v91r), (1, [], []), (0, [], [])] ∧
 (law07_NodeFinds_D8 K m N11 x0 x8 x9 x10 x11 x12 v107 h108)))
 (law07_NodeFinds_J6 K m N11 x0 x8 x9 x10 x11 x12 h90)))
 (law07_NodeFinds_J9 K m x8 x9 x10 x11 h44)
def law07_NodeFinds_D2 (K : V → H → Prop) (m : Nat) (x0 : V) (x62 : V) (h : H) : Prop :=
 Sp x62 (
 K (.bool false) h)
 (ECall Try.prog id_law07_to [x0] h fun v33 h34 =>
 ECall Try.prog id_node_Ids [v33] h34 fun v35 h36 =>
 X (pExtract v35 0) h36 fun v37 h38 =>
 X (pExtract v35 1) h38 fun v39 h40 =>
 Lp m (fun N11 xs h => law07_NodeFinds_B11 K m N11 (xs.getD 0 .undef) (xs.getD 1 .undef) (xs.getD 2 .undef) (xs.getD 3 .undef) (xs.getD 4 .undef) (xs.getD 5 .undef) h) [x0, v37, v39, (.int .i64 0), (.int .i64 0), (.int .i64 0)] h40)
def law07_NodeFinds_J1 (K : V → H → Prop) (m : Nat) (x0 : V) (x5 : V) (x6 : V) (x7 : V) (h : H) : Prop :=
 ECallD Try.prog id_law07_nodes [] h fun v29 v29k v29r h30 =>
 X (pUn .not v29) h30 fun v31 h32 =>
 Sp v31 (
 True ∧
 True ∧
 Indep [(13, 20), (14, 20), (15, 20)] [(24, [], []), (10, [], []), (9, [], []), (2, [], []), (1, [], []), (0, v29k, v29r)] ∧
 (law07_NodeFinds_D2 K m x0 (.bool true) h32))
 (XD (pLenSl x0 h32.get) h32 (idsL [x0]) fun v117 v117k v117r h118 =>
 X (pBin .lss x7 v117) h118 fun v119 h120 =>
 XD (pNot true (veqB x6 v119)) h120 (idsL [x6, v119]) fun v121 v121k v121r h122 =>
 True ∧
 Sp v121 (
 True ∧
 Indep [(13, 20), (14, 20), (15, 20)] [(24, [], []), (10, [], []), (9, [], []), (8, v121k, v121r), (7, [], []), (6, v117k, v117r), (5, [], []), (4, [], []), (3, [], []), (2, [], []), (1, [], []), (0, v29k, v29r)] ∧
 (law07_NodeFinds_D2 K m x0 (.bool true) h122))
 (Sp x6 (
 XD (pLoad true 39 x5 h122.get) h122 (idsL [x5]) fun v123 v123k v123r h124 =>
 XD (pBuildSlice .els 39 1 [v123] h124.get h124.n) h124 (idsL [v123]) fun v125 v125k v125r h126 =>
 ECallD Try.prog id_law07_from [v125] h126 fun v127 v127k v127r h128 =>
 X (pBin .add x7 (.int .i64 1)) h128 fun v129 h130 =>
 XD (pSliceSl 39 x0 (some x7) (some v129) h130.get) h130 (idsL [x0, x7, v129]) fun v131 v131k v131r h132 =>
 ECallD Try.prog id_ref07_Same [v127, v131] h132 fun v133 v133k v133r h134 =>
 X (pUn .not v133) h134 fun v135 h136 =>
 True ∧
 True ∧
 Indep [(13, 20), (14, 20), (15, 20)] [(24, [], []), (23, [], []), (22, [], []), (21, v133k, v133r), (20, v131k, v131r), (19, [], []), (18, [], []), (17, [], []), (16, [], []), (15, v127k, v127r), (14, v125k, v125r), (13, v123k, v123r), (12, [], []), (11, [], []), (10, [], []), (9, [], []), (8, v121k, v121r), (7, [], []), (6, v117k, v117r), (5, [], []), (4, [], []), (3, [], []), (2, [], []), (1, [], []), (0, v29k, v29r)] ∧
 (law07_NodeFinds_D2 K m x0 v135 h136))
 (True ∧
 True ∧
 Indep [(13, 20), (14, 20), (15, 20)] [(24, [], []), (23, [], []), (12, [], []), (11, [], []), (10, [], []), (9, [], []), (8, v121k, v121r), (7, [], []), (6, v117k, v117r), (5, [], []), (4, [], []), (3, [], []), (2, [], []), (1, [], []), (0, v29k, v29r)] ∧
 (law07_NodeFinds_D2 K m x0 (.bool false) h122))))
def law07_NodeFinds_R0 (K : V → H → Prop) (m : Nat) (N4 : List V → H → Prop) (x0 : V) (x1 : V) (x5 : V) (x6 : V) (x7 : V) (x35 : V) (h : H) : Prop :=
 Sp x35 (
 X (pBin .add x7 (.int .i64 1)) h fun v27 h28 =>
 N4 [x0, x1, x5, x6, v27] h28)
 (law07_NodeFinds_J1 K m x0 x5 x6 x7 h)
def law07_NodeFinds_B4 (K : V → H → Prop) (m : Nat) (N4 : List V → H → Prop) (x0 : V) (x1 : V) (x5 : V) (x6 : V) (x7 : V) (h : H) : Prop :=
 X (pLenSl x0 h.get) h fun v15 h16 =>
 X (pBin .lss x7 v15) h16 fun v17 h18 =>
 Sp v17 (
 X (pIndexSl 39 x0 x7 h18.get) h18 fun v19 h20 =>
 X (pFieldAddr 0 v19 h20.get) h20 fun v21 h22 =>
 X (pLoad false 1 v21 h22.get) h22 fun v23 h24 =>
 X (pNot true (veqS v23 x1)) h24 fun v25 h26 =>
 True ∧
 law07_NodeFinds_R0 K m N4 x0 x1 x5 x6 x7 v25 h26)
 (True ∧
 law07_NodeFinds_R0 K m N4 x0 x1 x5 x6 x7 (.bool false) h18)
def law07_NodeFinds_S (K : V → H → Prop) (m : Nat) (a0 : V) (a1 : V) (h : H) : Prop :=
 ECall Try.prog id_law07_few [a0] h fun v1 h2 =>
 ECall Try.prog id_law07_to [v1] h2 fun v3 h4 =>
 ECall Try.prog id_node_Find [a1, v3] h4 fun v5 h6 =>
 X (pExtract v5 0) h6 fun v7 h8 =>
 X (pExtract v5 1) h8 fun v9 h10 =>
 X (pAlloc (some [.str [], .int .i64 0, .int .i64 0, .int .i64 0, .int .i64 0, .str [], .nils, .byt 32 (List.replicate 32 0)]) h10.n) h10 fun v11 h12 =>
 X (pStore true 39 v11 v7 h12.get) h12 fun v13 h14 =>
 Lp m (fun N4 xs h => law07_NodeFinds_B4 K m N4 (xs.getD 0 .undef) (xs.getD 1 .undef) (xs.getD 2 .undef) (xs.getD 3 .undef) (xs.getD 4 .undef) h) [v1, a1, v11, v9, (.int .i64 0)] h14
def law07_NodeFinds_kp : Nat → List Nat := kpOf [(4, [0, 1, 5, 6, 7]), (11, [0, 8, 9, 10, 11, 12]), (16, [0, 8, 9, 10, 11, 12, 13])]
theorem law07_NodeFinds_E (K : V → H → Prop) (a0 : V) (a1 : V) (h : H) : EF Try.prog Try.f6 law07_NodeFinds_kp [a0, a1] h K = law07_NodeFinds_S K h.n a0 a1 h := by kernel_rfl
set_option maxRecDepth 100000 in
theorem law07_NodeFinds_tr {m n1 : Nat} {b0 b1 : List (Nat × Blk)} {res : V} {a0 : V} {a1 : V} (hk : ∀ q ∈ b1, q.1 < n1) (h : law07_NodeFinds_S (FinT ⟨id_law07_NodeFinds, [a0, a1], b0, m, res, b1, n1⟩) m a0 a1 ⟨b0, m⟩) : TrOk Try.prog ⟨id_law07_NodeFinds, [a0, a1], b0, m, res, b1, n1⟩ :=
 tr_of_EF (fn := Try.f6) (kp := law07_NodeFinds_kp) Try.func6 (by kernel_rfl) (Nat.le_of_ble_eq_true (by kernel_rfl)) hk (Eq.mpr (law07_NodeFinds_E (FinT ⟨id_law07_NodeFinds, [a0, a1], b0, m, res, b1, n1⟩) a0 a1 ⟨b0, m⟩) h)

/-! ### hypogeum/hypogeumlaw07.NodeDecodes (f7) -/
def law07_NodeDecodes_R1 (K : V → H → Prop) (m : Nat) (x2 : V) (h : H) : Prop :=
 K x2 h
def law07_NodeDecodes_R0 (K : V → H → Prop) (m : Nat) (x0 : V) (x5 : V) (x6 : V) (x36 : V) (h : H) : Prop :=
 Sp x36 (
 K (.bool false) h)
 (X (pNot true (veqI x6 (.int .i64 0))) h fun v25 h26 =>
 Sp v25 (
 K (.bool true) h26)
 (ECall Try.prog id_node_Encode [x5] h26 fun v27 h28 =>
 X (pExtract v27 0) h28 fun v29 h30 =>
 X (pExtract v27 1) h30 fun v31 h32 =>
 X (pNot false (veqI v31 (.int .i64 0))) h32 fun v33 h34 =>
 Sp v33 (
 X (pConv .toStr v29 h34.get h34.n) h34 fun v35 h36 =>
 X (pConv .toStr x0 h36.get h36.n) h36 fun v37 h38 =>
 X (pNot false (veqS v35 v37)) h38 fun v39 h40 =>
 True ∧
 law07_NodeDecodes_R1 K m v39 h40)
 (True ∧
 law07_NodeDecodes_R1 K m (.bool false) h34)))
def law07_NodeDecodes_S (K : V → H → Prop) (m : Nat) (a0 : V) (h : H) : Prop :=
 X (pLenSl a0 h.get) h fun v1 h2 =>
 X (pBin .gtr v1 (.int .i64 5000)) h2 fun v3 h4 =>
 Sp v3 (
 ECall Try.prog id_law07_nodes [] h4 fun v5 h6 =>
 K v5 h6)
 (X (pConv .toStr a0 h4.get h4.n) h4 fun v7 h8 =>
 ECall Try.prog id_ref07_DocDecode [v7] h8 fun v9 h10 =>
 X (pExtract v9 0) h10 fun v11 h12 =>
 X (pExtract v9 1) h12 fun v13 h14 =>
 ECall Try.prog id_node_Decode [a0] h14 fun v15 h16 =>
 X (pExtract v15 0) h16 fun v17 h18 =>
 X (pExtract v15 1) h18 fun v19 h20 =>
 ECall Try.prog id_law07_nodes [] h20 fun v21 h22 =>
 X (pUn .not v21) h22 fun v23 h24 =>
 Sp v23 (
 True ∧
 True ∧
 law07_NodeDecodes_R0 K m a0 v17 v19 (.bool true) h24)
 (ECall Try.prog id_law07_from [v17] h24 fun v41 h42 =>
 ECall Try.prog id_ref07_Same [v11, v41] h42 fun v43 h44 =>
 X (pUn .not v43) h44 fun v45 h46 =>
 True ∧
 Sp v45 (
 True ∧
 law07_NodeDecodes_R0 K m a0 v17 v19 (.bool true) h46)
 (X (pNot true (veqI v13 v19)) h46 fun v47 h48 =>
 True ∧
 law07_NodeDecodes_R0 K m a0 v17 v19 v47 h48)))
def law07_NodeDecodes_kp : Nat → List Nat := kpOf []
theorem law07_NodeDecodes_E (K : V → H → Prop) (a0 : V) (h : H) : EF Try.prog Try.f7 law07_NodeDecodes_kp [a0] h K = law07_NodeDecodes_S K h.n a0 h := by kernel_rfl
set_option maxRecDepth 100000 in
theorem law07_NodeDecodes_tr {m n1 : Nat} {b0 b1 : List (Nat × Blk)} {res : V} {a0 : V} (hk : ∀ q ∈ b1, q.1 < n1) (h : law07_NodeDecodes_S (FinT ⟨id_law07_NodeDecodes, [a0], b0, m, res, b1, n1⟩) m a0 ⟨b0, m⟩) : TrOk Try.prog ⟨id_law07_NodeDecodes, [a0], b0, m, res, b1, n1⟩ :=
 tr_of_EF (fn := Try.f7) (kp := law07_NodeDecodes_kp) Try.func7 (by kernel_rfl) (Nat.le_of_ble_eq_true (by kernel_rfl)) hk (Eq.mpr (law07_NodeDecodes_E (FinT ⟨id_law07_NodeDecodes, [a0], b0, m, res, b1, n1⟩) a0 ⟨b0, m⟩) h)

/-! ### hypogeum/hypogeumlaw07.NodeBack (f8) -/
def law07_NodeBack_R2 (K : V → H → Prop) (m : Nat) (x4 : V) (h : H) : Prop :=
 K x4 h
def law07_NodeBack_R1 (K : V → H → Prop) (m : Nat) (x1 : V) (x5 : V) (x41 : V) (h : H) : Prop :=
 Sp x41 (
 K (.bool false) h)
 (X (pConv (.int .u64) x1 h.get h.n) h fun v25 h26 =>
 X (pLenSl x5 h26.get) h26 fun v27 h28 =>
 X (pConv (.int .u64) v27 h28.get h28.n) h28 fun v29 h30 =>
 X (pBin .rem v25 v29) h30 fun v31 h32 =>
 X (pConv (.int .i64) v31 h32.get h32.n) h32 fun v33 h34 =>
 X (pSliceSl 1 x5 none (some v33) h34.get) h34 fun v35 h36 =>
 ECall Try.prog id_node_Decode [v35] h36 fun v37 h38 =>
 X (pExtract v37 0) h38 fun v39 h40 =>
 X (pExtract v37 1) h40 fun v41 h42 =>
 X (pBuildSlice .byte 1 0 [] h42.get h42.n) h42 fun v43 h44 =>
 X (pAppend .byte 1 1 v43 x5 h44.get h44.n) h44 fun v45 h46 =>
 X (pConv (.int .u8) x1 h46.get h46.n) h46 fun v47 h48 =>
 X (pBuildSlice .byte 1 1 [v47] h48.get h48.n) h48 fun v49 h50 =>
 X (pAppend .byte 1 1 v45 v49 h50.get h50.n) h50 fun v51 h52 =>
 ECall Try.prog id_node_Decode [v51] h52 fun v53 h54 =>
 X (pExtract v53 0) h54 fun v55 h56 =>
 X (pExtract v53 1) h56 fun v57 h58 =>
 X (pNot false (veqI v41 (.int .i64 2))) h58 fun v59 h60 =>
 Sp v59 (
 X (pNot false (veqI v57 (.int .i64 2))) h60 fun v61 h62 =>
 True ∧
 law07_NodeBack_R2 K m v61 h62)
 (True ∧
 law07_NodeBack_R2 K m (.bool false) h60))
def law07_NodeBack_R0 (K : V → H → Prop) (m : Nat) (x0 : V) (x1 : V) (x5 : V) (x27 : V) (h : H) : Prop :=
 Sp x27 (
 K (.bool false) h)
 (ECall Try.prog id_node_Decode [x5] h fun v17 h18 =>
 X (pExtract v17 0) h18 fun v19 h20 =>
 X (pExtract v17 1) h20 fun v21 h22 =>
 X (pNot true (veqI v21 (.int .i64 0))) h22 fun v23 h24 =>
 Sp v23 (
 True ∧
 law07_NodeBack_R1 K m x1 x5 (.bool true) h24)
 (ECall Try.prog id_law07_from [v19] h24 fun v63 h64 =>
 ECall Try.prog id_ref07_Same [v63, x0] h64 fun v65 h66 =>
 X (pUn .not v65) h66 fun v67 h68 =>
 True ∧
 law07_NodeBack_R1 K m x1 x5 v67 h68))
def law07_NodeBack_S (K : V → H → Prop) (m : Nat) (a0 : V) (a1 : V) (h : H) : Prop :=
 ECall Try.prog id_law07_few [a0] h fun v1 h2 =>
 ECall Try.prog id_law07_sorted [v1] h2 fun v3 h4 =>
 ECall Try.prog id_law07_to [v3] h4 fun v5 h6 =>
 ECall Try.prog id_node_Encode [v5] h6 fun v7 h8 =>
 X (pExtract v7 0) h8 fun v9 h10 =>
 X (pExtract v7 1) h10 fun v11 h12 =>
 ECall Try.prog id_law07_nodes [] h12 fun v13 h14 =>
 X (pUn .not v13) h14 fun v15 h16 =>
 Sp v15 (
 True ∧
 law07_NodeBack_R0 K m v3 a1 v9 (.bool true) h16)
 (X (pNot true (veqI v11 (.int .i64 0))) h16 fun v69 h70 =>
 True ∧
 law07_NodeBack_R0 K m v3 a1 v9 v69 h70)
def law07_NodeBack_kp : Nat → List Nat := kpOf []
theorem law07_NodeBack_E (K : V → H → Prop) (a0 : V) (a1 : V) (h : H) : EF Try.prog Try.f8 law07_NodeBack_kp [a0, a1] h K = law07_NodeBack_S K h.n a0 a1 h := by kernel_rfl
set_option maxRecDepth 100000 in
theorem law07_NodeBack_tr {m n1 : Nat} {b0 b1 : List (Nat × Blk)} {res : V} {a0 : V} {a1 : V} (hk : ∀ q ∈ b1, q.1 < n1) (h : law07_NodeBack_S (FinT ⟨id_law07_NodeBack, [a0, a1], b0, m, res, b1, n1⟩) m a0 a1 ⟨b0, m⟩) : TrOk Try.prog ⟨id_law07_NodeBack, [a0, a1], b0, m, res, b1, n1⟩ :=
 tr_of_EF (fn := Try.f8) (kp := law07_NodeBack_kp) Try.func8 (by kernel_rfl) (Nat.le_of_ble_eq_true (by kernel_rfl)) hk (Eq.mpr (law07_NodeBack_E (FinT ⟨id_law07_NodeBack, [a0, a1], b0, m, res, b1, n1⟩) a0 a1 ⟨b0, m⟩) h)

/-! ### hypogeum/hypogeumlaw07.NodeApart (f9) -/
def law07_NodeApart_J2 (K : V → H → Prop) (m : Nat) (N11 : List V → H → Prop) (x0 : V) (x5 : V) (x8 : V) (h : H) : Prop :=
 X (pIndexSl 39 x5 x8 h.get) h fun v75 h76 =>
 X (pFieldAddr 6 v75 h76.get) h76 fun v77 h78 =>
 X (pLoad false 1 v77 h78.get) h78 fun v79 h80 =>
 X (pBuild (some [.byt 32 (List.replicate 32 0)]) [(0, 1, (.int .u8 1))]) h80 fun v81 h82 =>
 X (pBuildSlice .els 32 1 [v81] h82.get h82.n) h82 fun v83 h84 =>
 X (pAppend .els 32 32 v79 v83 h84.get h84.n) h84 fun v85 h86 =>
 X (pIndexSl 39 x5 x8 h86.get) h86 fun v87 h88 =>
 X (pFieldAddr 6 v87 h88.get) h88 fun v89 h90 =>
 X (pStore false 1 v89 v85 h90.get) h90 fun v91 h92 =>
 X (pBin .add x8 (.int .i64 1)) h92 fun v93 h94 =>
 N11 [x0, x5, v93] h94
def law07_NodeApart_B16 (K : V → H → Prop) (m : Nat) (N11 : List V → H → Prop) (N16 : List V → H → Prop) (x0 : V) (x5 : V) (x8 : V) (x9 : V) (h : H) : Prop :=
 X (pIndexSl 39 x5 x8 h.get) h fun v51 h52 =>
 X (pFieldAddr 6 v51 h52.get) h52 fun v53 h54 =>
 X (pLoad false 1 v53 h54.get) h54 fun v55 h56 =>
 X (pLenSl v55 h56.get) h56 fun v57 h58 =>
 X (pBin .lss x9 v57) h58 fun v59 h60 =>
 Sp v59 (
 X (pIndexSl 39 x5 x8 h60.get) h60 fun v61 h62 =>
 X (pFieldAddr 6 v61 h62.get) h62 fun v63 h64 =>
 X (pLoad false 1 v63 h64.get) h64 fun v65 h66 =>
 X (pBuild (some [.byt 32 (List.replicate 32 0)]) [(0, 1, (.int .u8 255))]) h66 fun v67 h68 =>
 X (pIndexSl 32 v65 x9 h68.get) h68 fun v69 h70 =>
 X (pStore true 32 v69 v67 h70.get) h70 fun v71 h72 =>
 X (pBin .add x9 (.int .i64 1)) h72 fun v73 h74 =>
 N16 [x0, x5, x8, v73] h74)
 (law07_NodeApart_J2 K m N11 x0 x5 x8 h60)
def law07_NodeApart_J4 (K : V → H → Prop) (m : Nat) (h : H) : Prop :=
 K (.bool true) h
def law07_NodeApart_B11 (K : V → H → Prop) (m : Nat) (N11 : List V → H → Prop) (x0 : V) (x5 : V) (x8 : V) (h : H) : Prop :=
 X (pLenSl x5 h.get) h fun v33 h34 =>
 X (pBin .lss x8 v33) h34 fun v35 h36 =>
 Sp v35 (
 X (pBin .add x8 (.int .i64 1)) h36 fun v37 h38 =>
 XD (pSliceSl 39 x5 (some x8) (some v37) h38.get) h38 (idsL [x5, x8, v37]) fun v39 v39k v39r h40 =>
 ECallD Try.prog id_law07_from [v39] h40 fun v41 v41k v41r h42 =>
 X (pBin .add x8 (.int .i64 1)) h42 fun v43 h44 =>
 XD (pSliceSl 39 x0 (some x8) (some v43) h44.get) h44 (idsL [x0, x8, v43]) fun v45 v45k v45r h46 =>
 ECallD Try.prog id_ref07_Same [v41, v45] h46 fun v47 v47k v47r h48 =>
 X (pUn .not v47) h48 fun v49 h50 =>
 Indep [(4, 10), (5, 10)] [(12, [], []), (11, v47k, v47r), (10, v45k, v45r), (9, [], []), (8, [], []), (7, [], []), (6, [], []), (5, v41k, v41r), (4, v39k, v39r), (3, [], []), (2, [], []), (1, [], []), (0, [], [])] ∧
 (Sp v49 (
 K (.bool false) h50)
 (Lp m (fun N16 xs h => law07_NodeApart_B16 K m N11 N16 (xs.getD 0 .undef) (xs.getD 1 .undef) (xs.getD 2 .undef) (xs.getD 3 .undef) h) [x0, x5, x8, (.int .i64 0)] h50)))
 (law07_NodeApart_J4 K m h36)
def law07_NodeApart_J1 (K : V → H → Prop) (m : Nat) (x0 : V) (x5 : V) (h : H) : Prop :=
 Lp m (fun N11 xs h => law07_NodeApart_B11 K m N11 (xs.getD 0 .undef) (xs.getD 1 .undef) (xs.getD 2 .undef) h) [x0, x5, (.int .i64 0)] h
def law07_NodeApart_B7 (K : V → H → Prop) (m : Nat) (N7 : List V → H → Prop) (x0 : V) (x3 : V) (x5 : V) (x7 : V) (h : H) : Prop :=
 X (pLenSl x3 h.get) h fun v23 h24 =>
 X (pBin .lss x7 v23) h24 fun v25 h26 =>
 Sp v25 (
 X (pIndexSl 1 x3 x7 h26.get) h26 fun v27 h28 =>
 X (pStore false 1 v27 (.int .u8 119) h28.get) h28 fun v29 h30 =>
 X (pBin .add x7 (.int .i64 1)) h30 fun v31 h32 =>
 N7 [x0, x3, x5, v31] h32)
 (law07_NodeApart_J1 K m x0 x5 h26)
def law07_NodeApart_R0 (K : V → H → Prop) (m : Nat) (x0 : V) (x3 : V) (x5 : V) (x33 : V) (h : H) : Prop :=
 Sp x33 (
 K (.bool false) h)
 (Lp m (fun N7 xs h => law07_NodeApart_B7 K m N7 (xs.getD 0 .undef) (xs.getD 1 .undef) (xs.getD 2 .undef) (xs.getD 3 .undef) h) [x0, x3, x5, (.int .i64 0)] h)
def law07_NodeApart_S (K : V → H → Prop) (m : Nat) (a0 : V) (h : H) : Prop :=
 ECall Try.prog id_law07_few [a0] h fun v1 h2 =>
 ECall Try.prog id_law07_sorted [v1] h2 fun v3 h4 =>
 ECall Try.prog id_law07_to [v3] h4 fun v5 h6 =>
 ECall Try.prog id_node_Encode [v5] h6 fun v7 h8 =>
 X (pExtract v7 0) h8 fun v9 h10 =>
 X (pExtract v7 1) h10 fun v11 h12 =>
 ECall Try.prog id_node_Decode [v9] h12 fun v13 h14 =>
 X (pExtract v13 0) h14 fun v15 h16 =>
 X (pExtract v13 1) h16 fun v17 h18 =>
 ECall Try.prog id_law07_nodes [] h18 fun v19 h20 =>
 X (pUn .not v19) h20 fun v21 h22 =>
 Sp v21 (
 True ∧
 True ∧
 law07_NodeApart_R0 K m v3 v9 v15 (.bool true) h22)
 (X (pNot true (veqI v11 (.int .i64 0))) h22 fun v95 h96 =>
 True ∧
 Sp v95 (
 True ∧
 law07_NodeApart_R0 K m v3 v9 v15 (.bool true) h96)
 (X (pNot true (veqI v17 (.int .i64 0))) h96 fun v97 h98 =>
 True ∧
 law07_NodeApart_R0 K m v3 v9 v15 v97 h98))
def law07_NodeApart_kp : Nat → List Nat := kpOf [(7, [0, 3, 5, 7]), (11, [0, 5, 8]), (16, [0, 5, 8, 9])]
theorem law07_NodeApart_E (K : V → H → Prop) (a0 : V) (h : H) : EF Try.prog Try.f9 law07_NodeApart_kp [a0] h K = law07_NodeApart_S K h.n a0 h := by kernel_rfl
set_option maxRecDepth 100000 in
theorem law07_NodeApart_tr {m n1 : Nat} {b0 b1 : List (Nat × Blk)} {res : V} {a0 : V} (hk : ∀ q ∈ b1, q.1 < n1) (h : law07_NodeApart_S (FinT ⟨id_law07_NodeApart, [a0], b0, m, res, b1, n1⟩) m a0 ⟨b0, m⟩) : TrOk Try.prog ⟨id_law07_NodeApart, [a0], b0, m, res, b1, n1⟩ :=
 tr_of_EF (fn := Try.f9) (kp := law07_NodeApart_kp) Try.func9 (by kernel_rfl) (Nat.le_of_ble_eq_true (by kernel_rfl)) hk (Eq.mpr (law07_NodeApart_E (FinT ⟨id_law07_NodeApart, [a0], b0, m, res, b1, n1⟩) a0 ⟨b0, m⟩) h)

end Go.Proofs.Ytmgjmdlmnbjaiaa.A
