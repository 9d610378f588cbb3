/- Part of the proof: what functions of the program do, step by step. No condition of its own. -/
import Derived.Test.YtmgjmdlmnbjaiaaMd
import Derived.Test.YtmgjmdlmnbjaiaaSI
import Derived.KernelRfl
set_option linter.unusedVariables false
namespace Go.Proofs.Ytmgjmdlmnbjaiaa.A
open Go Go.AM
/-! ### hypogeum/node.Find (f22) -/
def node_Find_S (K : V → H → Prop) (m : Nat) (a0 : V) (a1 : V) (h : H) : Prop :=
 X (pBox a0 h.n) h fun v1 h2 =>
 X (pAlloc (some [.str [], .int .i64 0, .int .i64 0, .int .i64 0, .int .i64 0, .str [], .nils, .byt 32 (List.replicate 32 0)]) h2.n) h2 fun v3 h4 =>
 ECall Try.prog id_slices_IndexFunc [a1, (.fn id_node_Find_1 [v1])] h4 fun v5 h6 =>
 X (pBin .lss v5 (.int .i64 0)) h6 fun v7 h8 =>
 Sp v7 (
 X (pBuild (some [.str [], .int .i64 0, .int .i64 0, .int .i64 0, .int .i64 0, .str [], .nils, .byt 32 (List.replicate 32 0)]) []) h8 fun v9 h10 =>
 X (pStore true 39 v3 v9 h10.get) h10 fun v11 h12 =>
 X (pLoad true 39 v3 h12.get) h12 fun r13 h14 =>
 K (.tup [r13, (.bool false)]) h14)
 (X (pIndexSl 39 a1 v5 h8.get) h8 fun v15 h16 =>
 X (pLoad true 39 v15 h16.get) h16 fun v17 h18 =>
 X (pStore true 39 v3 v17 h18.get) h18 fun v19 h20 =>
 X (pLoad true 39 v3 h20.get) h20 fun r21 h22 =>
 K (.tup [r21, (.bool true)]) h22)
def node_Find_kp : Nat → List Nat := kpOf []
theorem node_Find_E (K : V → H → Prop) (a0 : V) (a1 : V) (h : H) : EF Try.prog Try.f22 node_Find_kp [a0, a1] h K = node_Find_S K h.n a0 a1 h := by kernel_rfl
set_option maxRecDepth 100000 in
theorem node_Find_tr {m n1 : Nat} {b0 b1 : List (Nat × Blk)} {res : V} {a0 : V} {a1 : V} (hk : ∀ q ∈ b1, q.1 < n1) (h : node_Find_S (FinT ⟨id_node_Find, [a0, a1], b0, m, res, b1, n1⟩) m a0 a1 ⟨b0, m⟩) : TrOk Try.prog ⟨id_node_Find, [a0, a1], b0, m, res, b1, n1⟩ :=
 tr_of_EF (fn := Try.f22) (kp := node_Find_kp) Try.func22 (by kernel_rfl) (Nat.le_of_ble_eq_true (by kernel_rfl)) hk (Eq.mpr (node_Find_E (FinT ⟨id_node_Find, [a0, a1], b0, m, res, b1, n1⟩) a0 a1 ⟨b0, m⟩) h)

/-! ### hypogeum/node.Ids (f23) -/
def node_Ids_J0 (K : V → H → Prop) (m : Nat) (N3 : List V → H → Prop) (x4 : V) (x5 : V) (x8 : V) (x9 : V) (x10 : V) (h : H) : Prop :=
 X (pBin .add x10 (.int .i64 1)) h fun v25 h26 =>
 N3 [x4, x5, x8, x9, v25] h26
def node_Ids_J1 (K : V → H → Prop) (m : Nat) (x4 : V) (x5 : V) (h : H) : Prop :=
 K (.tup [x4, x5]) h
def node_Ids_B3 (K : V → H → Prop) (m : Nat) (N3 : List V → H → Prop) (x4 : V) (x5 : V) (x8 : V) (x9 : V) (x10 : V) (h : H) : Prop :=
 X (pBin .lss x10 x9) h fun v3 h4 =>
 Sp v3 (
 X (pIndexSl 39 x8 x10 h4.get) h4 fun v5 h6 =>
 X (pLoad true 39 v5 h6.get) h6 fun v7 h8 =>
 X (pAlloc (some [.str [], .int .i64 0, .int .i64 0, .int .i64 0, .int .i64 0, .str [], .nils, .byt 32 (List.replicate 32 0)]) h8.n) h8 fun v9 h10 =>
 X (pStore true 39 v9 v7 h10.get) h10 fun v11 h12 =>
 X (pFieldAddr 1 v9 h12.get) h12 fun v13 h14 =>
 X (pLoad false 1 v13 h14.get) h14 fun v15 h16 =>
 X (pNot false (veqI v15 (.int .i64 0))) h16 fun v17 h18 =>
 Sp v17 (
 X (pFieldAddr 6 v9 h18.get) h18 fun v19 h20 =>
 X (pLoad false 1 v19 h20.get) h20 fun v21 h22 =>
 X (pAppend .els 32 32 x4 v21 h22.get h22.n) h22 fun v23 h24 =>
 node_Ids_J0 K m N3 v23 x5 x8 x9 x10 h24)
 (X (pNot false (veqI v15 (.int .i64 1))) h18 fun v27 h28 =>
 Sp v27 (
 X (pFieldAddr 7 v9 h28.get) h28 fun v29 h30 =>
 X (pLoad true 32 v29 h30.get) h30 fun v31 h32 =>
 X (pBuildSlice .els 32 1 [v31] h32.get h32.n) h32 fun v33 h34 =>
 X (pAppend .els 32 32 x5 v33 h34.get h34.n) h34 fun v35 h36 =>
 node_Ids_J0 K m N3 x4 v35 x8 x9 x10 h36)
 (node_Ids_J0 K m N3 x4 x5 x8 x9 x10 h28)))
 (node_Ids_J1 K m x4 x5 h4)
def node_Ids_S (K : V → H → Prop) (m : Nat) (a0 : V) (h : H) : Prop :=
 X (pLenSl a0 h.get) h fun v1 h2 =>
 Lp m (fun N3 xs h => node_Ids_B3 K m N3 (xs.getD 0 .undef) (xs.getD 1 .undef) (xs.getD 2 .undef) (xs.getD 3 .undef) (xs.getD 4 .undef) h) [.nils, .nils, a0, v1, (.int .i64 0)] h2
def node_Ids_kp : Nat → List Nat := kpOf [(3, [4, 5, 8, 9, 10])]
theorem node_Ids_E (K : V → H → Prop) (a0 : V) (h : H) : EF Try.prog Try.f23 node_Ids_kp [a0] h K = node_Ids_S K h.n a0 h := by kernel_rfl
set_option maxRecDepth 100000 in
theorem node_Ids_tr {m n1 : Nat} {b0 b1 : List (Nat × Blk)} {res : V} {a0 : V} (hk : ∀ q ∈ b1, q.1 < n1) (h : node_Ids_S (FinT ⟨id_node_Ids, [a0], b0, m, res, b1, n1⟩) m a0 ⟨b0, m⟩) : TrOk Try.prog ⟨id_node_Ids, [a0], b0, m, res, b1, n1⟩ :=
 tr_of_EF (fn := Try.f23) (kp := node_Ids_kp) Try.func23 (by kernel_rfl) (Nat.le_of_ble_eq_true (by kernel_rfl)) hk (Eq.mpr (node_Ids_E (FinT ⟨id_node_Ids, [a0], b0, m, res, b1, n1⟩) a0 ⟨b0, m⟩) h)

/-! ### hypogeum/node.Decode (f25) -/
def node_Decode_U6 : List (Nat × Nat) := [(13, 17), (14, 17), (13, 19), (14, 19), (13, 20), (14, 20), (13, 21), (14, 21)]
def node_Decode_D1 (K : V → H → Prop) (m : Nat) (N4 : List V → H → Prop) (x4 : V) (x5 : V) (x6 : V) (x10 : V) (x11 : V) (x39 : V) (h : H) : Prop :=
 Sp x39 (
 K (.tup [.nils, (.int .i64 2)]) h)
 (X (pLoad true 39 x6 h.get) h fun v17 h18 =>
 X (pBuildSlice .els 39 1 [v17] h18.get h18.n) h18 fun v19 h20 =>
 X (pAppend .els 39 120 x5 v19 h20.get h20.n) h20 fun v21 h22 =>
 X (pBin .add x11 (.int .i64 1)) h22 fun v23 h24 =>
 N4 [x4, v21, x10, v23] h24)
def node_Decode_J2 (K : V → H → Prop) (m : Nat) (x4 : V) (x5 : V) (h : H) : Prop :=
 ECall Try.prog id_glyph_In_End [x4] h fun v51 h52 =>
 X (pNot true (veqI v51 (.int .i64 0))) h52 fun v53 h54 =>
 Sp v53 (
 K (.tup [.nils, (.int .i64 2)]) h54)
 (K (.tup [x5, (.int .i64 0)]) h54)
def node_Decode_B4 (K : V → H → Prop) (m : Nat) (N4 : List V → H → Prop) (x4 : V) (x5 : V) (x10 : V) (x11 : V) (h : H) : Prop :=
 X (pBin .lss x11 x10) h fun v5 h6 =>
 Sp v5 (
 ECall Try.prog id_node_get [x4] h6 fun v7 h8 =>
 X (pAlloc (some [.str [], .int .i64 0, .int .i64 0, .int .i64 0, .int .i64 0, .str [], .nils, .byt 32 (List.replicate 32 0)]) h8.n) h8 fun v9 h10 =>
 X (pStore true 39 v9 v7 h10.get) h10 fun v11 h12 =>
 ECallD Try.prog id_glyph_In_Err [x4] h12 fun v13 v13k v13r h14 =>
 XD (pNot true (veqI v13 (.int .i64 0))) h14 (idsL [v13, (.int .i64 0)]) fun v15 v15k v15r h16 =>
 Sp v15 (
 True ∧
 True ∧
 Indep node_Decode_U6 [(24, [], []), (8, [], []), (7, [], []), (3, [], []), (2, v15k, v15r), (1, v13k, v13r), (0, [], [])] ∧
 (node_Decode_D1 K m N4 x4 x5 v9 x10 x11 (.bool true) h16))
 (XD (pLoad true 39 v9 h16.get) h16 (idsL [v9]) fun v25 v25k v25r h26 =>
 ECallD Try.prog id_node_Check [v25] h26 fun v27 v27k v27r h28 =>
 XD (pNot true (veqI v27 (.int .i64 0))) h28 (idsL [v27, (.int .i64 0)]) fun v29 v29k v29r h30 =>
 True ∧
 Sp v29 (
 True ∧
 Indep node_Decode_U6 [(24, [], []), (8, [], []), (7, [], []), (6, v29k, v29r), (5, v27k, v27r), (4, v25k, v25r), (3, [], []), (2, v15k, v15r), (1, v13k, v13r), (0, [], [])] ∧
 (node_Decode_D1 K m N4 x4 x5 v9 x10 x11 (.bool true) h30))
 (XD (pLenSl x5 h30.get) h30 (idsL [x5]) fun v31 v31k v31r h32 =>
 X (pBin .gtr v31 (.int .i64 0)) h32 fun v33 h34 =>
 Sp v33 (
 XD (pFieldAddr 0 v9 h34.get) h34 (idsL [v9]) fun v35 v35k v35r h36 =>
 XD (pLoad false 1 v35 h36.get) h36 (idsL [v35]) fun v37 v37k v37r h38 =>
 XD (pLenSl x5 h38.get) h38 (idsL [x5]) fun v39 v39k v39r h40 =>
 X (pBin .sub v39 (.int .i64 1)) h40 fun v41 h42 =>
 XD (pIndexSl 39 x5 v41 h42.get) h42 (idsL [x5, v41]) fun v43 v43k v43r h44 =>
 XD (pFieldAddr 0 v43 h44.get) h44 (idsL [v43]) fun v45 v45k v45r h46 =>
 XD (pLoad false 1 v45 h46.get) h46 (idsL [v45]) fun v47 v47k v47r h48 =>
 X (pBin .leq v37 v47) h48 fun v49 h50 =>
 True ∧
 True ∧
 Indep node_Decode_U6 [(24, [], []), (23, [], []), (22, [], []), (21, v47k, v47r), (20, v45k, v45r), (19, v43k, v43r), (18, [], []), (17, v39k, v39r), (16, [], []), (15, [], []), (14, v37k, v37r), (13, v35k, v35r), (12, [], []), (11, [], []), (10, v31k, v31r), (9, [], []), (8, [], []), (7, [], []), (6, v29k, v29r), (5, v27k, v27r), (4, v25k, v25r), (3, [], []), (2, v15k, v15r), (1, v13k, v13r), (0, [], [])] ∧
 (node_Decode_D1 K m N4 x4 x5 v9 x10 x11 v49 h50))
 (True ∧
 True ∧
 Indep node_Decode_U6 [(24, [], []), (23, [], []), (12, [], []), (11, [], []), (10, v31k, v31r), (9, [], []), (8, [], []), (7, [], []), (6, v29k, v29r), (5, v27k, v27r), (4, v25k, v25r), (3, [], []), (2, v15k, v15r), (1, v13k, v13r), (0, [], [])] ∧
 (node_Decode_D1 K m N4 x4 x5 v9 x10 x11 (.bool false) h34)))))
 (node_Decode_J2 K m x4 x5 h6)
def node_Decode_S (K : V → H → Prop) (m : Nat) (a0 : V) (h : H) : Prop :=
 ECall Try.prog id_glyph_Open [(.int .u8 110), a0] h fun v1 h2 =>
 ECall Try.prog id_glyph_In_Num [v1, (.int .i64 2000)] h2 fun v3 h4 =>
 Lp m (fun N4 xs h => node_Decode_B4 K m N4 (xs.getD 0 .undef) (xs.getD 1 .undef) (xs.getD 2 .undef) (xs.getD 3 .undef) h) [v1, .nils, v3, (.int .i64 0)] h4
def node_Decode_kp : Nat → List Nat := kpOf [(4, [4, 5, 10, 11])]
theorem node_Decode_E (K : V → H → Prop) (a0 : V) (h : H) : EF Try.prog Try.f25 node_Decode_kp [a0] h K = node_Decode_S K h.n a0 h := by kernel_rfl
set_option maxRecDepth 100000 in
theorem node_Decode_tr {m n1 : Nat} {b0 b1 : List (Nat × Blk)} {res : V} {a0 : V} (hk : ∀ q ∈ b1, q.1 < n1) (h : node_Decode_S (FinT ⟨id_node_Decode, [a0], b0, m, res, b1, n1⟩) m a0 ⟨b0, m⟩) : TrOk Try.prog ⟨id_node_Decode, [a0], b0, m, res, b1, n1⟩ :=
 tr_of_EF (fn := Try.f25) (kp := node_Decode_kp) Try.func25 (by kernel_rfl) (Nat.le_of_ble_eq_true (by kernel_rfl)) hk (Eq.mpr (node_Decode_E (FinT ⟨id_node_Decode, [a0], b0, m, res, b1, n1⟩) a0 ⟨b0, m⟩) h)

/-! ### (hypogeum/node.Node).put (f34) -/
def node_Node_put_U1 : List (Nat × Nat) := [(1, 5), (2, 5), (3, 5), (4, 5), (1, 6), (2, 6), (3, 6), (4, 6), (1, 7), (2, 7), (3, 7), (4, 7), (5, 7), (6, 7), (1, 8), (2, 8), (3, 8), (4, 8), (5, 8), (6, 8), (1, 9), (2, 9), (3, 9), (4, 9), (5, 9), (6, 9), (7, 9), (8, 9), (1, 10), (2, 10), (3, 10), (4, 10), (5, 10), (6, 10), (7, 10), (8, 10), (1, 11), (2, 11), (3, 11), (4, 11)]
def node_Node_put_J2 (K : V → H → Prop) (m : Nat) (h : H) : Prop :=
 K (.tup []) h
def node_Node_put_D1 (K : V → H → Prop) (m : Nat) (x1 : V) (x2 : V) (h : H) : Prop :=
 X (pFieldAddr 1 x2 h.get) h fun v27 h28 =>
 X (pLoad false 1 v27 h28.get) h28 fun v29 h30 =>
 X (pNot false (veqI v29 (.int .i64 0))) h30 fun v31 h32 =>
 Sp v31 (
 X (pFieldAddr 4 x2 h32.get) h32 fun v33 h34 =>
 X (pLoad false 1 v33 h34.get) h34 fun v35 h36 =>
 X (pFieldAddr 6 x2 h36.get) h36 fun v37 h38 =>
 X (pLoad false 1 v37 h38.get) h38 fun v39 h40 =>
 X (pLenSl v39 h40.get) h40 fun v41 h42 =>
 X (pBuildSlice (.int .i64) 1 2 [v35, v41] h42.get h42.n) h42 fun v43 h44 =>
 ECall Try.prog id_glyph_Out_Num [x1, v43] h44 fun v45 h46 =>
 X (pFieldAddr 6 x2 h46.get) h46 fun v47 h48 =>
 X (pLoad false 1 v47 h48.get) h48 fun v49 h50 =>
 ECall Try.prog id_node_ids [x1, v49] h50 fun v51 h52 =>
 node_Node_put_J2 K m h52)
 (X (pNot false (veqI v29 (.int .i64 1))) h32 fun v53 h54 =>
 Sp v53 (
 X (pFieldAddr 7 x2 h54.get) h54 fun v55 h56 =>
 X (pLoad true 32 v55 h56.get) h56 fun v57 h58 =>
 X (pBuildSlice .els 32 1 [v57] h58.get h58.n) h58 fun v59 h60 =>
 ECall Try.prog id_node_ids [x1, v59] h60 fun v61 h62 =>
 node_Node_put_J2 K m h62)
 (X (pNot false (veqI v29 (.int .i64 2))) h54 fun v63 h64 =>
 Sp v63 (
 X (pFieldAddr 5 x2 h64.get) h64 fun v65 h66 =>
 X (pLoad false 1 v65 h66.get) h66 fun v67 h68 =>
 X (pBuildSlice .str 1 1 [v67] h68.get h68.n) h68 fun v69 h70 =>
 ECall Try.prog id_glyph_Out_Text [x1, v69] h70 fun v71 h72 =>
 node_Node_put_J2 K m h72)
 (node_Node_put_J2 K m h64)))
def node_Node_put_S (K : V → H → Prop) (m : Nat) (a0 : V) (a1 : V) (h : H) : Prop :=
 X (pBox a0 h.n) h fun v1 h2 =>
 (XD (pFieldAddr 0 v1 h2.get) h2 (idsL [v1]) fun v3 v3k v3r h4 =>
 XD (pLoad false 1 v3 h4.get) h4 (idsL [v3]) fun v5 v5k v5r h6 =>
 XD (pBuildSlice .str 1 1 [v5] h6.get h6.n) h6 (idsL [v5]) fun v7 v7k v7r h8 =>
 ECallD Try.prog id_glyph_Out_Text [a1, v7] h8 fun v9 v9k v9r h10 =>
 XD (pFieldAddr 1 v1 h10.get) h10 (idsL [v1]) fun v11 v11k v11r h12 =>
 XD (pLoad false 1 v11 h12.get) h12 (idsL [v11]) fun v13 v13k v13r h14 =>
 XD (pFieldAddr 2 v1 h14.get) h14 (idsL [v1]) fun v15 v15k v15r h16 =>
 XD (pLoad false 1 v15 h16.get) h16 (idsL [v15]) fun v17 v17k v17r h18 =>
 XD (pFieldAddr 3 v1 h18.get) h18 (idsL [v1]) fun v19 v19k v19r h20 =>
 XD (pLoad false 1 v19 h20.get) h20 (idsL [v19]) fun v21 v21k v21r h22 =>
 XD (pBuildSlice (.int .i64) 1 3 [v13, v17, v21] h22.get h22.n) h22 (idsL [v13, v17, v21]) fun v23 v23k v23r h24 =>
 ECallD Try.prog id_glyph_Out_Num [v9, v23] h24 fun v25 v25k v25r h26 =>
 Indep node_Node_put_U1 [(12, v25k, v25r), (11, v23k, v23r), (10, v21k, v21r), (9, v19k, v19r), (8, v17k, v17r), (7, v15k, v15r), (6, v13k, v13r), (5, v11k, v11r), (4, v9k, v9r), (3, v7k, v7r), (2, v5k, v5r), (1, v3k, v3r), (0, [], [])] ∧
 (node_Node_put_D1 K m a1 v1 h26)) ∧
 (XD (pFieldAddr 0 v1 h2.get) h2 (idsL [v1]) fun v73 v73k v73r h74 =>
 XD (pLoad false 1 v73 h74.get) h74 (idsL [v73]) fun v75 v75k v75r h76 =>
 XD (pBuildSlice .str 1 1 [v75] h76.get h76.n) h76 (idsL [v75]) fun v77 v77k v77r h78 =>
 XD (pFieldAddr 1 v1 h78.get) h78 (idsL [v1]) fun v79 v79k v79r h80 =>
 XD (pLoad false 1 v79 h80.get) h80 (idsL [v79]) fun v81 v81k v81r h82 =>
 XD (pFieldAddr 2 v1 h82.get) h82 (idsL [v1]) fun v83 v83k v83r h84 =>
 XD (pLoad false 1 v83 h84.get) h84 (idsL [v83]) fun v85 v85k v85r h86 =>
 XD (pFieldAddr 3 v1 h86.get) h86 (idsL [v1]) fun v87 v87k v87r h88 =>
 XD (pLoad false 1 v87 h88.get) h88 (idsL [v87]) fun v89 v89k v89r h90 =>
 XD (pBuildSlice (.int .i64) 1 3 [v81, v85, v89] h90.get h90.n) h90 (idsL [v81, v85, v89]) fun v91 v91k v91r h92 =>
 ECallD Try.prog id_glyph_Out_Text [a1, v77] h92 fun v93 v93k v93r h94 =>
 ECallD Try.prog id_glyph_Out_Num [v93, v91] h94 fun v95 v95k v95r h96 =>
 Indep node_Node_put_U1 [(12, v95k, v95r), (4, v93k, v93r), (11, v91k, v91r), (10, v89k, v89r), (9, v87k, v87r), (8, v85k, v85r), (7, v83k, v83r), (6, v81k, v81r), (5, v79k, v79r), (3, v77k, v77r), (2, v75k, v75r), (1, v73k, v73r), (0, [], [])] ∧
 (node_Node_put_D1 K m a1 v1 h96)) ∧
 (XD (pFieldAddr 0 v1 h2.get) h2 (idsL [v1]) fun v97 v97k v97r h98 =>
 XD (pLoad false 1 v97 h98.get) h98 (idsL [v97]) fun v99 v99k v99r h100 =>
 XD (pFieldAddr 1 v1 h100.get) h100 (idsL [v1]) fun v101 v101k v101r h102 =>
 XD (pLoad false 1 v101 h102.get) h102 (idsL [v101]) fun v103 v103k v103r h104 =>
 XD (pFieldAddr 2 v1 h104.get) h104 (idsL [v1]) fun v105 v105k v105r h106 =>
 XD (pLoad false 1 v105 h106.get) h106 (idsL [v105]) fun v107 v107k v107r h108 =>
 XD (pFieldAddr 3 v1 h108.get) h108 (idsL [v1]) fun v109 v109k v109r h110 =>
 XD (pLoad false 1 v109 h110.get) h110 (idsL [v109]) fun v111 v111k v111r h112 =>
 XD (pBuildSlice (.int .i64) 1 3 [v103, v107, v111] h112.get h112.n) h112 (idsL [v103, v107, v111]) fun v113 v113k v113r h114 =>
 XD (pBuildSlice .str 1 1 [v99] h114.get h114.n) h114 (idsL [v99]) fun v115 v115k v115r h116 =>
 ECallD Try.prog id_glyph_Out_Text [a1, v115] h116 fun v117 v117k v117r h118 =>
 ECallD Try.prog id_glyph_Out_Num [v117, v113] h118 fun v119 v119k v119r h120 =>
 Indep node_Node_put_U1 [(12, v119k, v119r), (4, v117k, v117r), (3, v115k, v115r), (11, v113k, v113r), (10, v111k, v111r), (9, v109k, v109r), (8, v107k, v107r), (7, v105k, v105r), (6, v103k, v103r), (5, v101k, v101r), (2, v99k, v99r), (1, v97k, v97r), (0, [], [])] ∧
 (node_Node_put_D1 K m a1 v1 h120))
def node_Node_put_kp : Nat → List Nat := kpOf []
theorem node_Node_put_E (K : V → H → Prop) (a0 : V) (a1 : V) (h : H) : EF Try.prog Try.f34 node_Node_put_kp [a0, a1] h K = node_Node_put_S K h.n a0 a1 h := by kernel_rfl
set_option maxRecDepth 100000 in
theorem node_Node_put_tr {m n1 : Nat} {b0 b1 : List (Nat × Blk)} {res : V} {a0 : V} {a1 : V} (hk : ∀ q ∈ b1, q.1 < n1) (h : node_Node_put_S (FinT ⟨id_node_Node_put, [a0, a1], b0, m, res, b1, n1⟩) m a0 a1 ⟨b0, m⟩) : TrOk Try.prog ⟨id_node_Node_put, [a0, a1], b0, m, res, b1, n1⟩ :=
 tr_of_EF (fn := Try.f34) (kp := node_Node_put_kp) Try.func34 (by kernel_rfl) (Nat.le_of_ble_eq_true (by kernel_rfl)) hk (Eq.mpr (node_Node_put_E (FinT ⟨id_node_Node_put, [a0, a1], b0, m, res, b1, n1⟩) a0 a1 ⟨b0, m⟩) h)

/-! ### hypogeum/node.get (f45) -/
def node_get_J1 (K : V → H → Prop) (m : Nat) (x2 : V) (x3 : V) (h : H) : Prop :=
 X (pLoad true 39 x3 h.get) h fun v41 h42 =>
 X (pStore true 39 x2 v41 h42.get) h42 fun v43 h44 =>
 X (pLoad true 39 x2 h44.get) h44 fun r45 h46 =>
 K r45 h46
def node_get_U8 : List (Nat × Nat) := [(0, 3), (1, 3), (0, 4), (1, 4)]
def node_get_B6 (K : V → H → Prop) (m : Nat) (N6 : List V → H → Prop) (x0 : V) (x2 : V) (x3 : V) (x23 : V) (x24 : V) (h : H) : Prop :=
 X (pBin .lss x24 x23) h fun v35 h36 =>
 Sp v35 (
 ECall Try.prog id_glyph_In_Err [x0] h36 fun v37 h38 =>
 X (pNot true (veqI v37 (.int .i64 0))) h38 fun v39 h40 =>
 Sp v39 (
 node_get_J1 K m x2 x3 h40)
 (XD (pFieldAddr 6 x3 h40.get) h40 (idsL [x3]) fun v47 v47k v47r h48 =>
 XD (pLoad false 1 v47 h48.get) h48 (idsL [v47]) fun v49 v49k v49r h50 =>
 ECallD Try.prog id_node_id [x0] h50 fun v51 v51k v51r h52 =>
 XD (pBuildSlice .els 32 1 [v51] h52.get h52.n) h52 (idsL [v51]) fun v53 v53k v53r h54 =>
 XD (pAppend .els 32 32 v49 v53 h54.get h54.n) h54 (idsL [v49, v53]) fun v55 v55k v55r h56 =>
 XD (pFieldAddr 6 x3 h56.get) h56 (idsL [x3]) fun v57 v57k v57r h58 =>
 XD (pStore false 1 v57 v55 h58.get) h58 (idsL [v57, v55]) fun v59 v59k v59r h60 =>
 Indep node_get_U8 [(7, v59k, v59r), (6, v57k, v57r), (5, v55k, v55r), (4, v53k, v53r), (3, v51k, v51r), (2, [], []), (1, v49k, v49r), (0, v47k, v47r)] ∧
 (X (pBin .add x24 (.int .i64 1)) h60 fun v61 h62 =>
 N6 [x0, x2, x3, x23, v61] h62)))
 (node_get_J1 K m x2 x3 h36)
def node_get_S (K : V → H → Prop) (m : Nat) (a0 : V) (h : H) : Prop :=
 X (pAlloc (some [.str [], .int .i64 0, .int .i64 0, .int .i64 0, .int .i64 0, .str [], .nils, .byt 32 (List.replicate 32 0)]) h.n) h fun v1 h2 =>
 ECall Try.prog id_glyph_In_Text [a0, (.int .i64 255)] h2 fun v3 h4 =>
 ECall Try.prog id_glyph_In_Num [a0, (.int .i64 2)] h4 fun v5 h6 =>
 ECall Try.prog id_glyph_In_Num [a0, (.int .i64 4095)] h6 fun v7 h8 =>
 ECall Try.prog id_glyph_In_Num [a0, (.int .i64 1099511627776)] h8 fun v9 h10 =>
 X (pBuild (some [.str [], .int .i64 0, .int .i64 0, .int .i64 0, .int .i64 0, .str [], .nils, .byt 32 (List.replicate 32 0)]) [(0, 1, v3), (1, 1, v5), (2, 1, v7), (3, 1, v9)]) h10 fun v11 h12 =>
 X (pAlloc (some [.str [], .int .i64 0, .int .i64 0, .int .i64 0, .int .i64 0, .str [], .nils, .byt 32 (List.replicate 32 0)]) h12.n) h12 fun v13 h14 =>
 X (pStore true 39 v13 v11 h14.get) h14 fun v15 h16 =>
 X (pFieldAddr 1 v13 h16.get) h16 fun v17 h18 =>
 X (pLoad false 1 v17 h18.get) h18 fun v19 h20 =>
 X (pNot false (veqI v19 (.int .i64 0))) h20 fun v21 h22 =>
 Sp v21 (
 ECall Try.prog id_glyph_In_Num [a0, (.int .i64 1048576)] h22 fun v23 h24 =>
 X (pFieldAddr 4 v13 h24.get) h24 fun v25 h26 =>
 X (pStore false 1 v25 v23 h26.get) h26 fun v27 h28 =>
 X (pFieldAddr 4 v13 h28.get) h28 fun v29 h30 =>
 X (pLoad false 1 v29 h30.get) h30 fun v31 h32 =>
 ECall Try.prog id_glyph_In_Num [a0, v31] h32 fun v33 h34 =>
 Lp m (fun N6 xs h => node_get_B6 K m N6 (xs.getD 0 .undef) (xs.getD 1 .undef) (xs.getD 2 .undef) (xs.getD 3 .undef) (xs.getD 4 .undef) h) [a0, v1, v13, v33, (.int .i64 0)] h34)
 (X (pNot false (veqI v19 (.int .i64 1))) h22 fun v63 h64 =>
 Sp v63 (
 ECall Try.prog id_node_id [a0] h64 fun v65 h66 =>
 X (pFieldAddr 7 v13 h66.get) h66 fun v67 h68 =>
 X (pStore true 32 v67 v65 h68.get) h68 fun v69 h70 =>
 node_get_J1 K m v1 v13 h70)
 (X (pNot false (veqI v19 (.int .i64 2))) h64 fun v71 h72 =>
 Sp v71 (
 ECall Try.prog id_glyph_In_Text [a0, (.int .i64 4095)] h72 fun v73 h74 =>
 X (pFieldAddr 5 v13 h74.get) h74 fun v75 h76 =>
 X (pStore false 1 v75 v73 h76.get) h76 fun v77 h78 =>
 node_get_J1 K m v1 v13 h78)
 (node_get_J1 K m v1 v13 h72)))
def node_get_kp : Nat → List Nat := kpOf [(6, [0, 2, 3, 23, 24])]
theorem node_get_E (K : V → H → Prop) (a0 : V) (h : H) : EF Try.prog Try.f45 node_get_kp [a0] h K = node_get_S K h.n a0 h := by kernel_rfl
set_option maxRecDepth 100000 in
theorem node_get_tr {m n1 : Nat} {b0 b1 : List (Nat × Blk)} {res : V} {a0 : V} (hk : ∀ q ∈ b1, q.1 < n1) (h : node_get_S (FinT ⟨id_node_get, [a0], b0, m, res, b1, n1⟩) m a0 ⟨b0, m⟩) : TrOk Try.prog ⟨id_node_get, [a0], b0, m, res, b1, n1⟩ :=
 tr_of_EF (fn := Try.f45) (kp := node_get_kp) Try.func45 (by kernel_rfl) (Nat.le_of_ble_eq_true (by kernel_rfl)) hk (Eq.mpr (node_get_E (FinT ⟨id_node_get, [a0], b0, m, res, b1, n1⟩) a0 ⟨b0, m⟩) h)

end Go.Proofs.Ytmgjmdlmnbjaiaa.A
