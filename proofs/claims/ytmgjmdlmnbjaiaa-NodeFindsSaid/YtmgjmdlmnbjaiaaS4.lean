/- Part of the proof: what functions of the program do, step by step. No condition of its own. -/
import Derived.Test.YtmgjmdlmnbjaiaaMd
import Derived.Test.YtmgjmdlmnbjaiaaSI
import Derived.KernelRfl
set_option linter.unusedVariables false
namespace Go.Proofs.Ytmgjmdlmnbjaiaa.A
open Go Go.AM
/-! ### hypogeum/hypogeumlaw07.to (f10) -/
def law07_to_U6 : List (Nat × Nat) := [(1, 3), (2, 3), (1, 4), (2, 4), (1, 5), (2, 5), (3, 5), (4, 5), (1, 6), (2, 6), (3, 6), (4, 6), (1, 7), (2, 7), (3, 7), (4, 7), (5, 7), (6, 7), (1, 8), (2, 8), (3, 8), (4, 8), (5, 8), (6, 8), (1, 9), (2, 9), (3, 9), (4, 9), (5, 9), (6, 9), (7, 9), (8, 9), (1, 10), (2, 10), (3, 10), (4, 10), (5, 10), (6, 10), (7, 10), (8, 10), (1, 11), (2, 11), (3, 11), (4, 11), (5, 11), (6, 11), (7, 11), (8, 11), (9, 11), (10, 11), (1, 12), (2, 12), (3, 12), (4, 12), (5, 12), (6, 12), (7, 12), (8, 12), (9, 12), (10, 12), (1, 13), (2, 13), (3, 13), (4, 13), (5, 13), (6, 13), (7, 13), (8, 13), (9, 13), (10, 13), (11, 13), (12, 13), (1, 14), (2, 14), (3, 14), (4, 14), (5, 14), (6, 14), (7, 14), (8, 14), (9, 14), (10, 14), (11, 14), (12, 14), (13, 14), (1, 15), (2, 15), (3, 15), (4, 15), (5, 15), (6, 15), (7, 15), (8, 15), (9, 15), (10, 15), (11, 15), (12, 15), (13, 15), (1, 16), (2, 16), (3, 16), (4, 16), (5, 16), (6, 16), (7, 16), (8, 16), (9, 16), (10, 16), (11, 16), (12, 16), (1, 17), (2, 17), (3, 17), (4, 17), (5, 17), (6, 17), (7, 17), (8, 17), (9, 17), (10, 17), (11, 17), (12, 17), (13, 17), (14, 17), (15, 17), (16, 17), (1, 18), (2, 18), (3, 18), (4, 18), (5, 18), (6, 18), (7, 18), (8, 18), (9, 18), (10, 18), (11, 18), (12, 18), (13, 18), (14, 18), (15, 18), (16, 18)]
def law07_to_J1 (K : V → H → Prop) (m : Nat) (x3 : V) (h : H) : Prop :=
 K x3 h
def law07_to_B3 (K : V → H → Prop) (m : Nat) (N3 : List V → H → Prop) (x0 : V) (x3 : V) (x4 : V) (h : H) : Prop :=
 X (pLenSl x0 h.get) h fun v1 h2 =>
 X (pBin .lss x4 v1) h2 fun v3 h4 =>
 Sp v3 (
 X (pIndexSl 39 x0 x4 h4.get) h4 fun v5 h6 =>
 X (pLoad true 39 v5 h6.get) h6 fun v7 h8 =>
 X (pAlloc (some [.str [], .int .i64 0, .int .i64 0, .int .i64 0, .int .i64 0, .str [], .nils, .byt 32 (List.replicate 32 0)]) h8.n) h8 fun v9 h10 =>
 X (pStore true 39 v9 v7 h10.get) h10 fun v11 h12 =>
 XD (pFieldAddr 0 v9 h12.get) h12 (idsL [v9]) fun v13 v13k v13r h14 =>
 XD (pLoad false 1 v13 h14.get) h14 (idsL [v13]) fun v15 v15k v15r h16 =>
 XD (pFieldAddr 1 v9 h16.get) h16 (idsL [v9]) fun v17 v17k v17r h18 =>
 XD (pLoad false 1 v17 h18.get) h18 (idsL [v17]) fun v19 v19k v19r h20 =>
 XD (pFieldAddr 2 v9 h20.get) h20 (idsL [v9]) fun v21 v21k v21r h22 =>
 XD (pLoad false 1 v21 h22.get) h22 (idsL [v21]) fun v23 v23k v23r h24 =>
 XD (pFieldAddr 3 v9 h24.get) h24 (idsL [v9]) fun v25 v25k v25r h26 =>
 XD (pLoad false 1 v25 h26.get) h26 (idsL [v25]) fun v27 v27k v27r h28 =>
 XD (pFieldAddr 4 v9 h28.get) h28 (idsL [v9]) fun v29 v29k v29r h30 =>
 XD (pLoad false 1 v29 h30.get) h30 (idsL [v29]) fun v31 v31k v31r h32 =>
 XD (pFieldAddr 5 v9 h32.get) h32 (idsL [v9]) fun v33 v33k v33r h34 =>
 XD (pLoad false 1 v33 h34.get) h34 (idsL [v33]) fun v35 v35k v35r h36 =>
 XD (pBuildSlice .els 32 0 [] h36.get h36.n) h36 (idsL []) fun v37 v37k v37r h38 =>
 XD (pFieldAddr 6 v9 h38.get) h38 (idsL [v9]) fun v39 v39k v39r h40 =>
 XD (pLoad false 1 v39 h40.get) h40 (idsL [v39]) fun v41 v41k v41r h42 =>
 XD (pAppend .els 32 32 v37 v41 h42.get h42.n) h42 (idsL [v37, v41]) fun v43 v43k v43r h44 =>
 XD (pFieldAddr 7 v9 h44.get) h44 (idsL [v9]) fun v45 v45k v45r h46 =>
 XD (pLoad true 32 v45 h46.get) h46 (idsL [v45]) fun v47 v47k v47r h48 =>
 X (pBuild (some [.str [], .int .i64 0, .int .i64 0, .int .i64 0, .int .i64 0, .str [], .nils, .byt 32 (List.replicate 32 0)]) [(0, 1, v15), (1, 1, v19), (2, 1, v23), (3, 1, v27), (4, 1, v31), (5, 1, v35), (6, 1, v43), (7, 32, v47)]) h48 fun v49 h50 =>
 XD (pBuildSlice .els 39 1 [v49] h50.get h50.n) h50 (idsL [v49]) fun v51 v51k v51r h52 =>
 XD (pAppend .els 39 120 x3 v51 h52.get h52.n) h52 (idsL [x3, v51]) fun v53 v53k v53r h54 =>
 Indep law07_to_U6 [(22, [], []), (21, v53k, v53r), (20, v51k, v51r), (19, [], []), (18, v47k, v47r), (17, v45k, v45r), (16, v43k, v43r), (15, v41k, v41r), (14, v39k, v39r), (13, v37k, v37r), (12, v35k, v35r), (11, v33k, v33r), (10, v31k, v31r), (9, v29k, v29r), (8, v27k, v27r), (7, v25k, v25r), (6, v23k, v23r), (5, v21k, v21r), (4, v19k, v19r), (3, v17k, v17r), (2, v15k, v15r), (1, v13k, v13r), (0, [], [])] ∧
 (X (pBin .add x4 (.int .i64 1)) h54 fun v55 h56 =>
 N3 [x0, v53, v55] h56))
 (law07_to_J1 K m x3 h4)
def law07_to_S (K : V → H → Prop) (m : Nat) (a0 : V) (h : H) : Prop :=
 Lp m (fun N3 xs h => law07_to_B3 K m N3 (xs.getD 0 .undef) (xs.getD 1 .undef) (xs.getD 2 .undef) h) [a0, .nils, (.int .i64 0)] h
def law07_to_kp : Nat → List Nat := kpOf [(3, [0, 3, 4])]
theorem law07_to_E (K : V → H → Prop) (a0 : V) (h : H) : EF Try.prog Try.f10 law07_to_kp [a0] h K = law07_to_S K h.n a0 h := by kernel_rfl
set_option maxRecDepth 100000 in
theorem law07_to_tr {m n1 : Nat} {b0 b1 : List (Nat × Blk)} {res : V} {a0 : V} (hk : ∀ q ∈ b1, q.1 < n1) (h : law07_to_S (FinT ⟨id_law07_to, [a0], b0, m, res, b1, n1⟩) m a0 ⟨b0, m⟩) : TrOk Try.prog ⟨id_law07_to, [a0], b0, m, res, b1, n1⟩ :=
 tr_of_EF (fn := Try.f10) (kp := law07_to_kp) Try.func10 (by kernel_rfl) (Nat.le_of_ble_eq_true (by kernel_rfl)) hk (Eq.mpr (law07_to_E (FinT ⟨id_law07_to, [a0], b0, m, res, b1, n1⟩) a0 ⟨b0, m⟩) h)

/-! ### hypogeum/hypogeumlaw07.nodes (f11) -/
def law07_nodes_R0 (K : V → H → Prop) (m : Nat) (x0 : V) (h : H) : Prop :=
 K x0 h
def law07_nodes_S (K : V → H → Prop) (m : Nat) (h : H) : Prop :=
 X (pBuild (some [.str [], .int .i64 0, .int .i64 0, .int .i64 0, .int .i64 0, .str [], .nils, .byt 32 (List.replicate 32 0)]) [(0, 1, (.str [108])), (1, 1, (.int .i64 2)), (2, 1, (.int .i64 1)), (3, 1, (.int .i64 2)), (5, 1, (.str [116]))]) h fun v1 h2 =>
 X (pBuildSlice .els 39 1 [v1] h2.get h2.n) h2 fun v3 h4 =>
 ECall Try.prog id_node_Encode [v3] h4 fun v5 h6 =>
 X (pExtract v5 0) h6 fun v7 h8 =>
 X (pExtract v5 1) h8 fun v9 h10 =>
 X (pNot false (veqI v9 (.int .i64 0))) h10 fun v11 h12 =>
 Sp v11 (
 X (pConv .toStr v7 h12.get h12.n) h12 fun v13 h14 =>
 X (pNot false (veqS v13 (.str [72, 89, 110, 1, 1, 108, 2, 1, 2, 1, 116]))) h14 fun v15 h16 =>
 True ∧
 law07_nodes_R0 K m v15 h16)
 (True ∧
 law07_nodes_R0 K m (.bool false) h12)
def law07_nodes_kp : Nat → List Nat := kpOf []
theorem law07_nodes_E (K : V → H → Prop) (h : H) : EF Try.prog Try.f11 law07_nodes_kp [] h K = law07_nodes_S K h.n h := by kernel_rfl
set_option maxRecDepth 100000 in
theorem law07_nodes_tr {m n1 : Nat} {b0 b1 : List (Nat × Blk)} {res : V} (hk : ∀ q ∈ b1, q.1 < n1) (h : law07_nodes_S (FinT ⟨id_law07_nodes, [], b0, m, res, b1, n1⟩) m ⟨b0, m⟩) : TrOk Try.prog ⟨id_law07_nodes, [], b0, m, res, b1, n1⟩ :=
 tr_of_EF (fn := Try.f11) (kp := law07_nodes_kp) Try.func11 (by kernel_rfl) (Nat.le_of_ble_eq_true (by kernel_rfl)) hk (Eq.mpr (law07_nodes_E (FinT ⟨id_law07_nodes, [], b0, m, res, b1, n1⟩) ⟨b0, m⟩) h)

/-! ### hypogeum/hypogeumlaw07.few (f16) -/
def law07_few_J2 (K : V → H → Prop) (m : Nat) (N3 : List V → H → Prop) (x0 : V) (x3 : V) (x4 : V) (h : H) : Prop :=
 X (pBin .add x4 (.int .i64 1)) h fun v35 h36 =>
 N3 [x0, x3, v35] h36
def law07_few_R1 (K : V → H → Prop) (m : Nat) (N3 : List V → H → Prop) (x0 : V) (x3 : V) (x4 : V) (x30 : V) (h : H) : Prop :=
 Sp x30 (
 X (pIndexSl 39 x0 x4 h.get) h fun v27 h28 =>
 X (pLoad true 39 v27 h28.get) h28 fun v29 h30 =>
 X (pBuildSlice .els 39 1 [v29] h30.get h30.n) h30 fun v31 h32 =>
 X (pAppend .els 39 120 x3 v31 h32.get h32.n) h32 fun v33 h34 =>
 law07_few_J2 K m N3 x0 v33 x4 h34)
 (law07_few_J2 K m N3 x0 x3 x4 h)
def law07_few_J3 (K : V → H → Prop) (m : Nat) (x3 : V) (h : H) : Prop :=
 K x3 h
def law07_few_R0 (K : V → H → Prop) (m : Nat) (N3 : List V → H → Prop) (x0 : V) (x3 : V) (x4 : V) (x12 : V) (h : H) : Prop :=
 Sp x12 (
 X (pIndexSl 39 x0 x4 h.get) h fun v7 h8 =>
 X (pFieldAddr 6 v7 h8.get) h8 fun v9 h10 =>
 X (pLoad false 1 v9 h10.get) h10 fun v11 h12 =>
 X (pLenSl v11 h12.get) h12 fun v13 h14 =>
 X (pBin .leq v13 (.int .i64 300)) h14 fun v15 h16 =>
 Sp v15 (
 X (pIndexSl 39 x0 x4 h16.get) h16 fun v17 h18 =>
 X (pFieldAddr 5 v17 h18.get) h18 fun v19 h20 =>
 X (pLoad false 1 v19 h20.get) h20 fun v21 h22 =>
 X (pLenStr v21) h22 fun v23 h24 =>
 X (pBin .lss v23 (.int .i64 10000)) h24 fun v25 h26 =>
 True ∧
 law07_few_R1 K m N3 x0 x3 x4 v25 h26)
 (True ∧
 law07_few_R1 K m N3 x0 x3 x4 (.bool false) h16))
 (law07_few_J3 K m x3 h)
def law07_few_B3 (K : V → H → Prop) (m : Nat) (N3 : List V → H → Prop) (x0 : V) (x3 : V) (x4 : V) (h : H) : Prop :=
 X (pLenSl x0 h.get) h fun v1 h2 =>
 X (pBin .lss x4 v1) h2 fun v3 h4 =>
 Sp v3 (
 X (pBin .lss x4 (.int .i64 60)) h4 fun v5 h6 =>
 True ∧
 law07_few_R0 K m N3 x0 x3 x4 v5 h6)
 (True ∧
 law07_few_R0 K m N3 x0 x3 x4 (.bool false) h4)
def law07_few_S (K : V → H → Prop) (m : Nat) (a0 : V) (h : H) : Prop :=
 Lp m (fun N3 xs h => law07_few_B3 K m N3 (xs.getD 0 .undef) (xs.getD 1 .undef) (xs.getD 2 .undef) h) [a0, .nils, (.int .i64 0)] h
def law07_few_kp : Nat → List Nat := kpOf [(3, [0, 3, 4])]
theorem law07_few_E (K : V → H → Prop) (a0 : V) (h : H) : EF Try.prog Try.f16 law07_few_kp [a0] h K = law07_few_S K h.n a0 h := by kernel_rfl
set_option maxRecDepth 100000 in
theorem law07_few_tr {m n1 : Nat} {b0 b1 : List (Nat × Blk)} {res : V} {a0 : V} (hk : ∀ q ∈ b1, q.1 < n1) (h : law07_few_S (FinT ⟨id_law07_few, [a0], b0, m, res, b1, n1⟩) m a0 ⟨b0, m⟩) : TrOk Try.prog ⟨id_law07_few, [a0], b0, m, res, b1, n1⟩ :=
 tr_of_EF (fn := Try.f16) (kp := law07_few_kp) Try.func16 (by kernel_rfl) (Nat.le_of_ble_eq_true (by kernel_rfl)) hk (Eq.mpr (law07_few_E (FinT ⟨id_law07_few, [a0], b0, m, res, b1, n1⟩) a0 ⟨b0, m⟩) h)

/-! ### hypogeum/node.Encode (f18) -/
def node_Encode_U14 : List (Nat × Nat) := [(3, 8), (4, 8), (3, 9), (4, 9), (3, 10), (4, 10)]
def node_Encode_D2 (K : V → H → Prop) (m : Nat) (N12 : List V → H → Prop) (x0 : V) (x7 : V) (x9 : V) (x30 : V) (x31 : V) (x32 : V) (x49 : V) (h : H) : Prop :=
 Sp x49 (
 K (.tup [.nils, (.int .i64 2)]) h)
 (X (pLoad true 39 x9 h.get) h fun v61 h62 =>
 ECall Try.prog id_node_Node_put [v61, x7] h62 fun v63 h64 =>
 X (pBin .add x32 (.int .i64 1)) h64 fun v65 h66 =>
 N12 [x0, x7, x30, x31, v65] h66)
def node_Encode_J3 (K : V → H → Prop) (m : Nat) (x7 : V) (h : H) : Prop :=
 ECall Try.prog id_glyph_Out_Bytes [x7] h fun v67 h68 =>
 X (pExtract v67 0) h68 fun v69 h70 =>
 X (pExtract v67 1) h70 fun v71 h72 =>
 K (.tup [v69, v71]) h72
def node_Encode_B12 (K : V → H → Prop) (m : Nat) (N12 : List V → H → Prop) (x0 : V) (x7 : V) (x30 : V) (x31 : V) (x32 : V) (h : H) : Prop :=
 X (pBin .lss x32 x31) h fun v35 h36 =>
 Sp v35 (
 X (pIndexSl 39 x30 x32 h36.get) h36 fun v37 h38 =>
 X (pLoad true 39 v37 h38.get) h38 fun v39 h40 =>
 X (pAlloc (some [.str [], .int .i64 0, .int .i64 0, .int .i64 0, .int .i64 0, .str [], .nils, .byt 32 (List.replicate 32 0)]) h40.n) h40 fun v41 h42 =>
 X (pStore true 39 v41 v39 h42.get) h42 fun v43 h44 =>
 X (pBin .gtr x32 (.int .i64 0)) h44 fun v45 h46 =>
 Sp v45 (
 XD (pFieldAddr 0 v41 h46.get) h46 (idsL [v41]) fun v47 v47k v47r h48 =>
 XD (pLoad false 1 v47 h48.get) h48 (idsL [v47]) fun v49 v49k v49r h50 =>
 X (pBin .sub x32 (.int .i64 1)) h50 fun v51 h52 =>
 XD (pIndexSl 39 x0 v51 h52.get) h52 (idsL [x0, v51]) fun v53 v53k v53r h54 =>
 XD (pFieldAddr 0 v53 h54.get) h54 (idsL [v53]) fun v55 v55k v55r h56 =>
 XD (pLoad false 1 v55 h56.get) h56 (idsL [v55]) fun v57 v57k v57r h58 =>
 X (pBin .leq v49 v57) h58 fun v59 h60 =>
 True ∧
 Indep node_Encode_U14 [(12, [], []), (11, [], []), (10, v57k, v57r), (9, v55k, v55r), (8, v53k, v53r), (7, [], []), (6, [], []), (5, [], []), (4, v49k, v49r), (3, v47k, v47r), (2, [], []), (1, [], []), (0, [], [])] ∧
 (node_Encode_D2 K m N12 x0 x7 v41 x30 x31 x32 v59 h60))
 (True ∧
 Indep node_Encode_U14 [(12, [], []), (2, [], []), (1, [], []), (0, [], [])] ∧
 (node_Encode_D2 K m N12 x0 x7 v41 x30 x31 x32 (.bool false) h46)))
 (node_Encode_J3 K m x7 h36)
def node_Encode_J0 (K : V → H → Prop) (m : Nat) (x0 : V) (h : H) : Prop :=
 ECall Try.prog id_glyph_Begin [(.int .u8 110)] h fun v25 h26 =>
 X (pLenSl x0 h26.get) h26 fun v27 h28 =>
 X (pBuildSlice (.int .i64) 1 1 [v27] h28.get h28.n) h28 fun v29 h30 =>
 ECall Try.prog id_glyph_Out_Num [v25, v29] h30 fun v31 h32 =>
 X (pLenSl x0 h32.get) h32 fun v33 h34 =>
 Lp m (fun N12 xs h => node_Encode_B12 K m N12 (xs.getD 0 .undef) (xs.getD 1 .undef) (xs.getD 2 .undef) (xs.getD 3 .undef) (xs.getD 4 .undef) h) [x0, v31, x0, v33, (.int .i64 0)] h34
def node_Encode_B4 (K : V → H → Prop) (m : Nat) (N4 : List V → H → Prop) (x0 : V) (x13 : V) (x14 : V) (x15 : V) (h : H) : Prop :=
 X (pBin .lss x15 x14) h fun v7 h8 =>
 Sp v7 (
 X (pIndexSl 39 x13 x15 h8.get) h8 fun v9 h10 =>
 X (pLoad true 39 v9 h10.get) h10 fun v11 h12 =>
 X (pAlloc (some [.str [], .int .i64 0, .int .i64 0, .int .i64 0, .int .i64 0, .str [], .nils, .byt 32 (List.replicate 32 0)]) h12.n) h12 fun v13 h14 =>
 X (pStore true 39 v13 v11 h14.get) h14 fun v15 h16 =>
 X (pLoad true 39 v13 h16.get) h16 fun v17 h18 =>
 ECall Try.prog id_node_Check [v17] h18 fun v19 h20 =>
 X (pNot true (veqI v19 (.int .i64 0))) h20 fun v21 h22 =>
 Sp v21 (
 K (.tup [.nils, v19]) h22)
 (X (pBin .add x15 (.int .i64 1)) h22 fun v23 h24 =>
 N4 [x0, x13, x14, v23] h24))
 (node_Encode_J0 K m x0 h8)
def node_Encode_S (K : V → H → Prop) (m : Nat) (a0 : V) (h : H) : Prop :=
 X (pLenSl a0 h.get) h fun v1 h2 =>
 X (pBin .gtr v1 (.int .i64 2000)) h2 fun v3 h4 =>
 Sp v3 (
 K (.tup [.nils, (.int .i64 4)]) h4)
 (X (pLenSl a0 h4.get) h4 fun v5 h6 =>
 Lp m (fun N4 xs h => node_Encode_B4 K m N4 (xs.getD 0 .undef) (xs.getD 1 .undef) (xs.getD 2 .undef) (xs.getD 3 .undef) h) [a0, a0, v5, (.int .i64 0)] h6)
def node_Encode_kp : Nat → List Nat := kpOf [(4, [0, 13, 14, 15]), (12, [0, 7, 30, 31, 32])]
theorem node_Encode_E (K : V → H → Prop) (a0 : V) (h : H) : EF Try.prog Try.f18 node_Encode_kp [a0] h K = node_Encode_S K h.n a0 h := by kernel_rfl
set_option maxRecDepth 100000 in
theorem node_Encode_tr {m n1 : Nat} {b0 b1 : List (Nat × Blk)} {res : V} {a0 : V} (hk : ∀ q ∈ b1, q.1 < n1) (h : node_Encode_S (FinT ⟨id_node_Encode, [a0], b0, m, res, b1, n1⟩) m a0 ⟨b0, m⟩) : TrOk Try.prog ⟨id_node_Encode, [a0], b0, m, res, b1, n1⟩ :=
 tr_of_EF (fn := Try.f18) (kp := node_Encode_kp) Try.func18 (by kernel_rfl) (Nat.le_of_ble_eq_true (by kernel_rfl)) hk (Eq.mpr (node_Encode_E (FinT ⟨id_node_Encode, [a0], b0, m, res, b1, n1⟩) a0 ⟨b0, m⟩) h)

/-! ### hypogeum/hypogeumref07.Same (f19) -/
def ref07_Same_U6 : List (Nat × Nat) := [(2, 6), (3, 6), (2, 7), (3, 7), (2, 8), (3, 8), (6, 8), (7, 8), (2, 9), (3, 9), (6, 9), (7, 9), (8, 9), (6, 10), (7, 10)]
def ref07_Same_U12 : List (Nat × Nat) := [(0, 5), (1, 5), (3, 5), (4, 5), (0, 6), (1, 6), (3, 6), (4, 6), (0, 8), (1, 8), (3, 8), (4, 8), (0, 9), (1, 9), (3, 9), (4, 9)]
def ref07_Same_J4 (K : V → H → Prop) (m : Nat) (N4 : List V → H → Prop) (x0 : V) (x1 : V) (x5 : V) (h : H) : Prop :=
 X (pBin .add x5 (.int .i64 1)) h fun v65 h66 =>
 N4 [x0, x1, v65] h66
def ref07_Same_B10 (K : V → H → Prop) (m : Nat) (N4 : List V → H → Prop) (N10 : List V → H → Prop) (x0 : V) (x1 : V) (x5 : V) (x6 : V) (x7 : V) (x8 : V) (h : H) : Prop :=
 X (pFieldAddr 6 x6 h.get) h fun v37 h38 =>
 X (pLoad false 1 v37 h38.get) h38 fun v39 h40 =>
 X (pLenSl v39 h40.get) h40 fun v41 h42 =>
 X (pBin .lss x8 v41) h42 fun v43 h44 =>
 Sp v43 (
 XD (pFieldAddr 6 x6 h44.get) h44 (idsL [x6]) fun v45 v45k v45r h46 =>
 XD (pLoad false 1 v45 h46.get) h46 (idsL [v45]) fun v47 v47k v47r h48 =>
 XD (pIndexSl 32 v47 x8 h48.get) h48 (idsL [v47, x8]) fun v49 v49k v49r h50 =>
 XD (pLoad true 32 v49 h50.get) h50 (idsL [v49]) fun v51 v51k v51r h52 =>
 XD (pFieldAddr 6 x7 h52.get) h52 (idsL [x7]) fun v53 v53k v53r h54 =>
 XD (pLoad false 1 v53 h54.get) h54 (idsL [v53]) fun v55 v55k v55r h56 =>
 XD (pIndexSl 32 v55 x8 h56.get) h56 (idsL [v55, x8]) fun v57 v57k v57r h58 =>
 XD (pLoad true 32 v57 h58.get) h58 (idsL [v57]) fun v59 v59k v59r h60 =>
 XD (pNot true (veqA 32 v51 v59)) h60 (idsL [v51, v59]) fun v61 v61k v61r h62 =>
 Indep ref07_Same_U12 [(10, v61k, v61r), (9, v59k, v59r), (8, v57k, v57r), (7, [], []), (6, v55k, v55r), (5, v53k, v53r), (4, v51k, v51r), (3, v49k, v49r), (2, [], []), (1, v47k, v47r), (0, v45k, v45r)] ∧
 (Sp v61 (
 K (.bool false) h62)
 (X (pBin .add x8 (.int .i64 1)) h62 fun v63 h64 =>
 N10 [x0, x1, x5, x6, x7, v63] h64)))
 (ref07_Same_J4 K m N4 x0 x1 x5 h44)
def ref07_Same_R2 (K : V → H → Prop) (m : Nat) (N4 : List V → H → Prop) (x0 : V) (x1 : V) (x5 : V) (x6 : V) (x7 : V) (x83 : V) (h : H) : Prop :=
 Sp x83 (
 K (.bool false) h)
 (Lp m (fun N10 xs h => ref07_Same_B10 K m N4 N10 (xs.getD 0 .undef) (xs.getD 1 .undef) (xs.getD 2 .undef) (xs.getD 3 .undef) (xs.getD 4 .undef) (xs.getD 5 .undef) h) [x0, x1, x5, x6, x7, (.int .i64 0)] h)
def ref07_Same_D1 (K : V → H → Prop) (m : Nat) (N4 : List V → H → Prop) (x0 : V) (x1 : V) (x5 : V) (x6 : V) (x7 : V) (h : H) : Prop :=
 X (pFieldAddr 0 x6 h.get) h fun v27 h28 =>
 X (pLoad false 1 v27 h28.get) h28 fun v29 h30 =>
 X (pFieldAddr 0 x7 h30.get) h30 fun v31 h32 =>
 X (pLoad false 1 v31 h32.get) h32 fun v33 h34 =>
 X (pNot true (veqS v29 v33)) h34 fun v35 h36 =>
 Sp v35 (
 True ∧
 True ∧
 True ∧
 True ∧
 True ∧
 True ∧
 True ∧
 ref07_Same_R2 K m N4 x0 x1 x5 x6 x7 (.bool true) h36)
 (X (pFieldAddr 1 x6 h36.get) h36 fun v67 h68 =>
 X (pLoad false 1 v67 h68.get) h68 fun v69 h70 =>
 X (pFieldAddr 1 x7 h70.get) h70 fun v71 h72 =>
 X (pLoad false 1 v71 h72.get) h72 fun v73 h74 =>
 X (pNot true (veqI v69 v73)) h74 fun v75 h76 =>
 True ∧
 Sp v75 (
 True ∧
 True ∧
 True ∧
 True ∧
 True ∧
 True ∧
 ref07_Same_R2 K m N4 x0 x1 x5 x6 x7 (.bool true) h76)
 (X (pFieldAddr 2 x6 h76.get) h76 fun v77 h78 =>
 X (pLoad false 1 v77 h78.get) h78 fun v79 h80 =>
 X (pFieldAddr 2 x7 h80.get) h80 fun v81 h82 =>
 X (pLoad false 1 v81 h82.get) h82 fun v83 h84 =>
 X (pNot true (veqI v79 v83)) h84 fun v85 h86 =>
 True ∧
 Sp v85 (
 True ∧
 True ∧
 True ∧
 True ∧
 True ∧
 ref07_Same_R2 K m N4 x0 x1 x5 x6 x7 (.bool true) h86)
 (X (pFieldAddr 3 x6 h86.get) h86 fun v87 h88 =>
 X (pLoad false 1 v87 h88.get) h88 fun v89 h90 =>
 X (pFieldAddr 3 x7 h90.get) h90 fun v91 h92 =>
 X (pLoad false 1 v91 h92.get) h92 fun v93 h94 =>
 X (pNot true (veqI v89 v93)) h94 fun v95 h96 =>
 True ∧
 Sp v95 (
 True ∧
 True ∧
 True ∧
 True ∧
 ref07_Same_R2 K m N4 x0 x1 x5 x6 x7 (.bool true) h96)
 (X (pFieldAddr 4 x6 h96.get) h96 fun v97 h98 =>
 X (pLoad false 1 v97 h98.get) h98 fun v99 h100 =>
 X (pFieldAddr 4 x7 h100.get) h100 fun v101 h102 =>
 X (pLoad false 1 v101 h102.get) h102 fun v103 h104 =>
 X (pNot true (veqI v99 v103)) h104 fun v105 h106 =>
 True ∧
 Sp v105 (
 True ∧
 True ∧
 True ∧
 ref07_Same_R2 K m N4 x0 x1 x5 x6 x7 (.bool true) h106)
 (X (pFieldAddr 5 x6 h106.get) h106 fun v107 h108 =>
 X (pLoad false 1 v107 h108.get) h108 fun v109 h110 =>
 X (pFieldAddr 5 x7 h110.get) h110 fun v111 h112 =>
 X (pLoad false 1 v111 h112.get) h112 fun v113 h114 =>
 X (pNot true (veqS v109 v113)) h114 fun v115 h116 =>
 True ∧
 Sp v115 (
 True ∧
 True ∧
 ref07_Same_R2 K m N4 x0 x1 x5 x6 x7 (.bool true) h116)
 (X (pFieldAddr 7 x6 h116.get) h116 fun v117 h118 =>
 X (pLoad true 32 v117 h118.get) h118 fun v119 h120 =>
 X (pFieldAddr 7 x7 h120.get) h120 fun v121 h122 =>
 X (pLoad true 32 v121 h122.get) h122 fun v123 h124 =>
 X (pNot true (veqA 32 v119 v123)) h124 fun v125 h126 =>
 True ∧
 Sp v125 (
 True ∧
 ref07_Same_R2 K m N4 x0 x1 x5 x6 x7 (.bool true) h126)
 (X (pFieldAddr 6 x6 h126.get) h126 fun v127 h128 =>
 X (pLoad false 1 v127 h128.get) h128 fun v129 h130 =>
 X (pLenSl v129 h130.get) h130 fun v131 h132 =>
 X (pFieldAddr 6 x7 h132.get) h132 fun v133 h134 =>
 X (pLoad false 1 v133 h134.get) h134 fun v135 h136 =>
 X (pLenSl v135 h136.get) h136 fun v137 h138 =>
 X (pNot true (veqI v131 v137)) h138 fun v139 h140 =>
 True ∧
 ref07_Same_R2 K m N4 x0 x1 x5 x6 x7 v139 h140)))))))
def ref07_Same_J6 (K : V → H → Prop) (m : Nat) (h : H) : Prop :=
 K (.bool true) h
def ref07_Same_B4 (K : V → H → Prop) (m : Nat) (N4 : List V → H → Prop) (x0 : V) (x1 : V) (x5 : V) (h : H) : Prop :=
 X (pLenSl x0 h.get) h fun v7 h8 =>
 X (pBin .lss x5 v7) h8 fun v9 h10 =>
 Sp v9 (
 (XD (pIndexSl 39 x0 x5 h10.get) h10 (idsL [x0, x5]) fun v11 v11k v11r h12 =>
 XD (pLoad true 39 v11 h12.get) h12 (idsL [v11]) fun v13 v13k v13r h14 =>
 XD (pIndexSl 39 x1 x5 h14.get) h14 (idsL [x1, x5]) fun v15 v15k v15r h16 =>
 XD (pLoad true 39 v15 h16.get) h16 (idsL [v15]) fun v17 v17k v17r h18 =>
 XD (pAlloc (some [.str [], .int .i64 0, .int .i64 0, .int .i64 0, .int .i64 0, .str [], .nils, .byt 32 (List.replicate 32 0)]) h18.n) h18 (idsL []) fun v19 v19k v19r h20 =>
 XD (pAlloc (some [.str [], .int .i64 0, .int .i64 0, .int .i64 0, .int .i64 0, .str [], .nils, .byt 32 (List.replicate 32 0)]) h20.n) h20 (idsL []) fun v21 v21k v21r h22 =>
 XD (pStore true 39 v19 v13 h22.get) h22 (idsL [v19, v13]) fun v23 v23k v23r h24 =>
 XD (pStore true 39 v21 v17 h24.get) h24 (idsL [v21, v17]) fun v25 v25k v25r h26 =>
 Indep ref07_Same_U6 [(11, v25k, v25r), (10, v23k, v23r), (9, v21k, v21r), (8, v19k, v19r), (7, v17k, v17r), (6, v15k, v15r), (5, [], []), (4, [], []), (3, v13k, v13r), (2, v11k, v11r), (1, [], []), (0, [], [])] ∧
 (ref07_Same_D1 K m N4 x0 x1 x5 v19 v21 h26)) ∧
 (XD (pIndexSl 39 x0 x5 h10.get) h10 (idsL [x0, x5]) fun v141 v141k v141r h142 =>
 XD (pLoad true 39 v141 h142.get) h142 (idsL [v141]) fun v143 v143k v143r h144 =>
 XD (pIndexSl 39 x1 x5 h144.get) h144 (idsL [x1, x5]) fun v145 v145k v145r h146 =>
 XD (pLoad true 39 v145 h146.get) h146 (idsL [v145]) fun v147 v147k v147r h148 =>
 XD (pAlloc (some [.str [], .int .i64 0, .int .i64 0, .int .i64 0, .int .i64 0, .str [], .nils, .byt 32 (List.replicate 32 0)]) h148.n) h148 (idsL []) fun v149 v149k v149r h150 =>
 XD (pAlloc (some [.str [], .int .i64 0, .int .i64 0, .int .i64 0, .int .i64 0, .str [], .nils, .byt 32 (List.replicate 32 0)]) h150.n) h150 (idsL []) fun v151 v151k v151r h152 =>
 XD (pStore true 39 v151 v143 h152.get) h152 (idsL [v151, v143]) fun v153 v153k v153r h154 =>
 XD (pStore true 39 v149 v147 h154.get) h154 (idsL [v149, v147]) fun v155 v155k v155r h156 =>
 Indep ref07_Same_U6 [(11, v155k, v155r), (10, v153k, v153r), (8, v151k, v151r), (9, v149k, v149r), (7, v147k, v147r), (6, v145k, v145r), (5, [], []), (4, [], []), (3, v143k, v143r), (2, v141k, v141r), (1, [], []), (0, [], [])] ∧
 (ref07_Same_D1 K m N4 x0 x1 x5 v151 v149 h156)))
 (ref07_Same_J6 K m h10)
def ref07_Same_S (K : V → H → Prop) (m : Nat) (a0 : V) (a1 : V) (h : H) : Prop :=
 X (pLenSl a0 h.get) h fun v1 h2 =>
 X (pLenSl a1 h2.get) h2 fun v3 h4 =>
 X (pNot true (veqI v1 v3)) h4 fun v5 h6 =>
 Sp v5 (
 K (.bool false) h6)
 (Lp m (fun N4 xs h => ref07_Same_B4 K m N4 (xs.getD 0 .undef) (xs.getD 1 .undef) (xs.getD 2 .undef) h) [a0, a1, (.int .i64 0)] h6)
def ref07_Same_kp : Nat → List Nat := kpOf [(4, [0, 1, 5]), (10, [0, 1, 5, 6, 7, 8])]
theorem ref07_Same_E (K : V → H → Prop) (a0 : V) (a1 : V) (h : H) : EF Try.prog Try.f19 ref07_Same_kp [a0, a1] h K = ref07_Same_S K h.n a0 a1 h := by kernel_rfl
set_option maxRecDepth 100000 in
theorem ref07_Same_tr {m n1 : Nat} {b0 b1 : List (Nat × Blk)} {res : V} {a0 : V} {a1 : V} (hk : ∀ q ∈ b1, q.1 < n1) (h : ref07_Same_S (FinT ⟨id_ref07_Same, [a0, a1], b0, m, res, b1, n1⟩) m a0 a1 ⟨b0, m⟩) : TrOk Try.prog ⟨id_ref07_Same, [a0, a1], b0, m, res, b1, n1⟩ :=
 tr_of_EF (fn := Try.f19) (kp := ref07_Same_kp) Try.func19 (by kernel_rfl) (Nat.le_of_ble_eq_true (by kernel_rfl)) hk (Eq.mpr (ref07_Same_E (FinT ⟨id_ref07_Same, [a0, a1], b0, m, res, b1, n1⟩) a0 a1 ⟨b0, m⟩) h)

/-! ### hypogeum/hypogeumlaw07.from (f20) -/
def law07_from_J0 (K : V → H → Prop) (m : Nat) (x3 : V) (h : H) : Prop :=
 K x3 h
def law07_from_B3 (K : V → H → Prop) (m : Nat) (N3 : List V → H → Prop) (x0 : V) (x3 : V) (x4 : V) (h : H) : Prop :=
 X (pLenSl x0 h.get) h fun v1 h2 =>
 X (pBin .lss x4 v1) h2 fun v3 h4 =>
 Sp v3 (
 X (pIndexSl 39 x0 x4 h4.get) h4 fun v5 h6 =>
 X (pLoad true 39 v5 h6.get) h6 fun v7 h8 =>
 X (pAlloc (some [.str [], .int .i64 0, .int .i64 0, .int .i64 0, .int .i64 0, .str [], .nils, .byt 32 (List.replicate 32 0)]) h8.n) h8 fun v9 h10 =>
 X (pStore true 39 v9 v7 h10.get) h10 fun v11 h12 =>
 X (pFieldAddr 0 v9 h12.get) h12 fun v13 h14 =>
 X (pLoad false 1 v13 h14.get) h14 fun v15 h16 =>
 X (pFieldAddr 1 v9 h16.get) h16 fun v17 h18 =>
 X (pLoad false 1 v17 h18.get) h18 fun v19 h20 =>
 X (pFieldAddr 2 v9 h20.get) h20 fun v21 h22 =>
 X (pLoad false 1 v21 h22.get) h22 fun v23 h24 =>
 X (pFieldAddr 3 v9 h24.get) h24 fun v25 h26 =>
 X (pLoad false 1 v25 h26.get) h26 fun v27 h28 =>
 X (pFieldAddr 4 v9 h28.get) h28 fun v29 h30 =>
 X (pLoad false 1 v29 h30.get) h30 fun v31 h32 =>
 X (pFieldAddr 5 v9 h32.get) h32 fun v33 h34 =>
 X (pLoad false 1 v33 h34.get) h34 fun v35 h36 =>
 X (pFieldAddr 6 v9 h36.get) h36 fun v37 h38 =>
 X (pLoad false 1 v37 h38.get) h38 fun v39 h40 =>
 X (pFieldAddr 7 v9 h40.get) h40 fun v41 h42 =>
 X (pLoad true 32 v41 h42.get) h42 fun v43 h44 =>
 X (pBuild (some [.str [], .int .i64 0, .int .i64 0, .int .i64 0, .int .i64 0, .str [], .nils, .byt 32 (List.replicate 32 0)]) [(0, 1, v15), (1, 1, v19), (2, 1, v23), (3, 1, v27), (4, 1, v31), (5, 1, v35), (6, 1, v39), (7, 32, v43)]) h44 fun v45 h46 =>
 X (pBuildSlice .els 39 1 [v45] h46.get h46.n) h46 fun v47 h48 =>
 X (pAppend .els 39 120 x3 v47 h48.get h48.n) h48 fun v49 h50 =>
 X (pBin .add x4 (.int .i64 1)) h50 fun v51 h52 =>
 N3 [x0, v49, v51] h52)
 (law07_from_J0 K m x3 h4)
def law07_from_S (K : V → H → Prop) (m : Nat) (a0 : V) (h : H) : Prop :=
 Lp m (fun N3 xs h => law07_from_B3 K m N3 (xs.getD 0 .undef) (xs.getD 1 .undef) (xs.getD 2 .undef) h) [a0, .nils, (.int .i64 0)] h
def law07_from_kp : Nat → List Nat := kpOf [(3, [0, 3, 4])]
theorem law07_from_E (K : V → H → Prop) (a0 : V) (h : H) : EF Try.prog Try.f20 law07_from_kp [a0] h K = law07_from_S K h.n a0 h := by kernel_rfl
set_option maxRecDepth 100000 in
theorem law07_from_tr {m n1 : Nat} {b0 b1 : List (Nat × Blk)} {res : V} {a0 : V} (hk : ∀ q ∈ b1, q.1 < n1) (h : law07_from_S (FinT ⟨id_law07_from, [a0], b0, m, res, b1, n1⟩) m a0 ⟨b0, m⟩) : TrOk Try.prog ⟨id_law07_from, [a0], b0, m, res, b1, n1⟩ :=
 tr_of_EF (fn := Try.f20) (kp := law07_from_kp) Try.func20 (by kernel_rfl) (Nat.le_of_ble_eq_true (by kernel_rfl)) hk (Eq.mpr (law07_from_E (FinT ⟨id_law07_from, [a0], b0, m, res, b1, n1⟩) a0 ⟨b0, m⟩) h)

/-! ### hypogeum/hypogeumlaw07.sorted (f21) -/
def law07_sorted_J0 (K : V → H → Prop) (m : Nat) (N3 : List V → H → Prop) (x0 : V) (x3 : V) (x4 : V) (h : H) : Prop :=
 X (pBin .add x4 (.int .i64 1)) h fun v13 h14 =>
 N3 [x0, x3, v13] h14
def law07_sorted_U7 : List (Nat × Nat) := [(7, 12), (8, 12), (9, 12), (7, 13), (8, 13), (9, 13), (7, 14), (8, 14), (9, 14)]
def law07_sorted_U9 : List (Nat × Nat) := [(7, 12), (8, 12), (9, 12), (7, 13), (8, 13), (9, 13), (7, 14), (8, 14), (9, 14)]
def law07_sorted_U10 : List (Nat × Nat) := [(0, 3), (0, 7), (3, 7), (4, 7), (0, 8), (3, 8), (4, 8), (0, 9), (3, 9), (4, 9), (0, 13), (3, 13), (4, 13), (7, 13), (8, 13), (9, 13), (10, 13)]
def law07_sorted_D5 (K : V → H → Prop) (m : Nat) (N3 : List V → H → Prop) (x0 : V) (x3 : V) (x4 : V) (x5 : V) (x53 : V) (h : H) : Prop :=
 Sp x53 (
 (XD (pBuildSlice .els 39 0 [] h.get h.n) h (idsL []) fun v39 v39k v39r h40 =>
 XD (pSliceSl 39 x3 none (some x5) h40.get) h40 (idsL [x3, x5]) fun v41 v41k v41r h42 =>
 XD (pAppend .els 39 120 v39 v41 h42.get h42.n) h42 (idsL [v39, v41]) fun v43 v43k v43r h44 =>
 XD (pIndexSl 39 x0 x4 h44.get) h44 (idsL [x0, x4]) fun v45 v45k v45r h46 =>
 XD (pLoad true 39 v45 h46.get) h46 (idsL [v45]) fun v47 v47k v47r h48 =>
 XD (pBuildSlice .els 39 1 [v47] h48.get h48.n) h48 (idsL [v47]) fun v49 v49k v49r h50 =>
 XD (pAppend .els 39 120 v43 v49 h50.get h50.n) h50 (idsL [v43, v49]) fun v51 v51k v51r h52 =>
 XD (pSliceSl 39 x3 (some x5) none h52.get) h52 (idsL [x3, x5]) fun v53 v53k v53r h54 =>
 XD (pAppend .els 39 120 v51 v53 h54.get h54.n) h54 (idsL [v51, v53]) fun v55 v55k v55r h56 =>
 Indep law07_sorted_U10 [(15, [], []), (14, v55k, v55r), (13, v53k, v53r), (12, [], []), (11, [], []), (10, v51k, v51r), (9, v49k, v49r), (8, v47k, v47r), (7, v45k, v45r), (6, [], []), (5, [], []), (4, v43k, v43r), (3, v41k, v41r), (2, [], []), (1, [], []), (0, v39k, v39r)] ∧
 (law07_sorted_J0 K m N3 x0 v55 x4 h56)) ∧
 (XD (pBuildSlice .els 39 0 [] h.get h.n) h (idsL []) fun v57 v57k v57r h58 =>
 XD (pSliceSl 39 x3 none (some x5) h58.get) h58 (idsL [x3, x5]) fun v59 v59k v59r h60 =>
 XD (pIndexSl 39 x0 x4 h60.get) h60 (idsL [x0, x4]) fun v61 v61k v61r h62 =>
 XD (pLoad true 39 v61 h62.get) h62 (idsL [v61]) fun v63 v63k v63r h64 =>
 XD (pBuildSlice .els 39 1 [v63] h64.get h64.n) h64 (idsL [v63]) fun v65 v65k v65r h66 =>
 XD (pAppend .els 39 120 v57 v59 h66.get h66.n) h66 (idsL [v57, v59]) fun v67 v67k v67r h68 =>
 XD (pAppend .els 39 120 v67 v65 h68.get h68.n) h68 (idsL [v67, v65]) fun v69 v69k v69r h70 =>
 XD (pSliceSl 39 x3 (some x5) none h70.get) h70 (idsL [x3, x5]) fun v71 v71k v71r h72 =>
 XD (pAppend .els 39 120 v69 v71 h72.get h72.n) h72 (idsL [v69, v71]) fun v73 v73k v73r h74 =>
 Indep law07_sorted_U10 [(15, [], []), (14, v73k, v73r), (13, v71k, v71r), (12, [], []), (11, [], []), (10, v69k, v69r), (4, v67k, v67r), (9, v65k, v65r), (8, v63k, v63r), (7, v61k, v61r), (6, [], []), (5, [], []), (3, v59k, v59r), (2, [], []), (1, [], []), (0, v57k, v57r)] ∧
 (law07_sorted_J0 K m N3 x0 v73 x4 h74)) ∧
 (XD (pSliceSl 39 x3 none (some x5) h.get) h (idsL [x3, x5]) fun v75 v75k v75r h76 =>
 XD (pIndexSl 39 x0 x4 h76.get) h76 (idsL [x0, x4]) fun v77 v77k v77r h78 =>
 XD (pLoad true 39 v77 h78.get) h78 (idsL [v77]) fun v79 v79k v79r h80 =>
 XD (pBuildSlice .els 39 1 [v79] h80.get h80.n) h80 (idsL [v79]) fun v81 v81k v81r h82 =>
 XD (pBuildSlice .els 39 0 [] h82.get h82.n) h82 (idsL []) fun v83 v83k v83r h84 =>
 XD (pAppend .els 39 120 v83 v75 h84.get h84.n) h84 (idsL [v83, v75]) fun v85 v85k v85r h86 =>
 XD (pAppend .els 39 120 v85 v81 h86.get h86.n) h86 (idsL [v85, v81]) fun v87 v87k v87r h88 =>
 XD (pSliceSl 39 x3 (some x5) none h88.get) h88 (idsL [x3, x5]) fun v89 v89k v89r h90 =>
 XD (pAppend .els 39 120 v87 v89 h90.get h90.n) h90 (idsL [v87, v89]) fun v91 v91k v91r h92 =>
 Indep law07_sorted_U10 [(15, [], []), (14, v91k, v91r), (13, v89k, v89r), (12, [], []), (11, [], []), (10, v87k, v87r), (4, v85k, v85r), (0, v83k, v83r), (9, v81k, v81r), (8, v79k, v79r), (7, v77k, v77r), (6, [], []), (5, [], []), (3, v75k, v75r), (2, [], []), (1, [], [])] ∧
 (law07_sorted_J0 K m N3 x0 v91 x4 h92)))
 (law07_sorted_J0 K m N3 x0 x3 x4 h)
def law07_sorted_J3 (K : V → H → Prop) (m : Nat) (N3 : List V → H → Prop) (x0 : V) (x3 : V) (x4 : V) (x5 : V) (h : H) : Prop :=
 XD (pLenSl x3 h.get) h (idsL [x3]) fun v35 v35k v35r h36 =>
 XD (pNot false (veqI x5 v35)) h36 (idsL [x5, v35]) fun v37 v37k v37r h38 =>
 Sp v37 (
 True ∧
 Indep law07_sorted_U9 [(16, [], []), (4, [], []), (3, v37k, v37r), (2, v35k, v35r), (1, [], []), (0, [], [])] ∧
 (law07_sorted_D5 K m N3 x0 x3 x4 x5 (.bool true) h38))
 (XD (pIndexSl 39 x3 x5 h38.get) h38 (idsL [x3, x5]) fun v93 v93k v93r h94 =>
 XD (pFieldAddr 0 v93 h94.get) h94 (idsL [v93]) fun v95 v95k v95r h96 =>
 XD (pLoad false 1 v95 h96.get) h96 (idsL [v95]) fun v97 v97k v97r h98 =>
 XD (pIndexSl 39 x0 x4 h98.get) h98 (idsL [x0, x4]) fun v99 v99k v99r h100 =>
 XD (pFieldAddr 0 v99 h100.get) h100 (idsL [v99]) fun v101 v101k v101r h102 =>
 XD (pLoad false 1 v101 h102.get) h102 (idsL [v101]) fun v103 v103k v103r h104 =>
 XD (pNot true (veqS v97 v103)) h104 (idsL [v97, v103]) fun v105 v105k v105r h106 =>
 True ∧
 Indep law07_sorted_U9 [(16, [], []), (15, v105k, v105r), (14, v103k, v103r), (13, v101k, v101r), (12, v99k, v99r), (11, [], []), (10, [], []), (9, v97k, v97r), (8, v95k, v95r), (7, v93k, v93r), (6, [], []), (5, [], []), (4, [], []), (3, v37k, v37r), (2, v35k, v35r), (1, [], []), (0, [], [])] ∧
 (law07_sorted_D5 K m N3 x0 x3 x4 x5 v105 h106))
def law07_sorted_D2 (K : V → H → Prop) (m : Nat) (N3 : List V → H → Prop) (N7 : List V → H → Prop) (x0 : V) (x3 : V) (x4 : V) (x5 : V) (x34 : V) (h : H) : Prop :=
 Sp x34 (
 X (pBin .add x5 (.int .i64 1)) h fun v33 h34 =>
 N7 [x0, x3, x4, v33] h34)
 (law07_sorted_J3 K m N3 x0 x3 x4 x5 h)
def law07_sorted_B7 (K : V → H → Prop) (m : Nat) (N3 : List V → H → Prop) (N7 : List V → H → Prop) (x0 : V) (x3 : V) (x4 : V) (x5 : V) (h : H) : Prop :=
 XD (pLenSl x3 h.get) h (idsL [x3]) fun v15 v15k v15r h16 =>
 X (pBin .lss x5 v15) h16 fun v17 h18 =>
 Sp v17 (
 XD (pIndexSl 39 x3 x5 h18.get) h18 (idsL [x3, x5]) fun v19 v19k v19r h20 =>
 XD (pFieldAddr 0 v19 h20.get) h20 (idsL [v19]) fun v21 v21k v21r h22 =>
 XD (pLoad false 1 v21 h22.get) h22 (idsL [v21]) fun v23 v23k v23r h24 =>
 XD (pIndexSl 39 x0 x4 h24.get) h24 (idsL [x0, x4]) fun v25 v25k v25r h26 =>
 XD (pFieldAddr 0 v25 h26.get) h26 (idsL [v25]) fun v27 v27k v27r h28 =>
 XD (pLoad false 1 v27 h28.get) h28 (idsL [v27]) fun v29 v29k v29r h30 =>
 X (pBin .lss v23 v29) h30 fun v31 h32 =>
 True ∧
 Indep law07_sorted_U7 [(16, [], []), (15, [], []), (14, v29k, v29r), (13, v27k, v27r), (12, v25k, v25r), (11, [], []), (10, [], []), (9, v23k, v23r), (8, v21k, v21r), (7, v19k, v19r), (6, [], []), (5, [], []), (4, [], []), (3, [], []), (2, v15k, v15r), (1, [], []), (0, [], [])] ∧
 (law07_sorted_D2 K m N3 N7 x0 x3 x4 x5 v31 h32))
 (True ∧
 Indep law07_sorted_U7 [(16, [], []), (4, [], []), (3, [], []), (2, v15k, v15r), (1, [], []), (0, [], [])] ∧
 (law07_sorted_D2 K m N3 N7 x0 x3 x4 x5 (.bool false) h18))
def law07_sorted_J8 (K : V → H → Prop) (m : Nat) (x3 : V) (h : H) : Prop :=
 K x3 h
def law07_sorted_B3 (K : V → H → Prop) (m : Nat) (N3 : List V → H → Prop) (x0 : V) (x3 : V) (x4 : V) (h : H) : Prop :=
 X (pLenSl x0 h.get) h fun v1 h2 =>
 X (pBin .lss x4 v1) h2 fun v3 h4 =>
 Sp v3 (
 X (pIndexSl 39 x0 x4 h4.get) h4 fun v5 h6 =>
 X (pLoad true 39 v5 h6.get) h6 fun v7 h8 =>
 ECall Try.prog id_ref07_Check [v7] h8 fun v9 h10 =>
 X (pNot true (veqI v9 (.int .i64 0))) h10 fun v11 h12 =>
 Sp v11 (
 law07_sorted_J0 K m N3 x0 x3 x4 h12)
 (Lp m (fun N7 xs h => law07_sorted_B7 K m N3 N7 (xs.getD 0 .undef) (xs.getD 1 .undef) (xs.getD 2 .undef) (xs.getD 3 .undef) h) [x0, x3, x4, (.int .i64 0)] h12))
 (law07_sorted_J8 K m x3 h4)
def law07_sorted_S (K : V → H → Prop) (m : Nat) (a0 : V) (h : H) : Prop :=
 Lp m (fun N3 xs h => law07_sorted_B3 K m N3 (xs.getD 0 .undef) (xs.getD 1 .undef) (xs.getD 2 .undef) h) [a0, .nils, (.int .i64 0)] h
def law07_sorted_kp : Nat → List Nat := kpOf [(3, [0, 3, 4]), (7, [0, 3, 4, 5])]
theorem law07_sorted_E (K : V → H → Prop) (a0 : V) (h : H) : EF Try.prog Try.f21 law07_sorted_kp [a0] h K = law07_sorted_S K h.n a0 h := by kernel_rfl
set_option maxRecDepth 100000 in
theorem law07_sorted_tr {m n1 : Nat} {b0 b1 : List (Nat × Blk)} {res : V} {a0 : V} (hk : ∀ q ∈ b1, q.1 < n1) (h : law07_sorted_S (FinT ⟨id_law07_sorted, [a0], b0, m, res, b1, n1⟩) m a0 ⟨b0, m⟩) : TrOk Try.prog ⟨id_law07_sorted, [a0], b0, m, res, b1, n1⟩ :=
 tr_of_EF (fn := Try.f21) (kp := law07_sorted_kp) Try.func21 (by kernel_rfl) (Nat.le_of_ble_eq_true (by kernel_rfl)) hk (Eq.mpr (law07_sorted_E (FinT ⟨id_law07_sorted, [a0], b0, m, res, b1, n1⟩) a0 ⟨b0, m⟩) h)

end Go.Proofs.Ytmgjmdlmnbjaiaa.A
