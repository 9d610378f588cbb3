/- Part of the proof: what functions of the program do, step by step. No condition of its own. -/
import Derived.Test.YtmgjmdlmnbjaiaaMd
import Derived.Test.YtmgjmdlmnbjaiaaSI
import Derived.KernelRfl
set_option linter.unusedVariables false
namespace Go.Proofs.Ytmgjmdlmnbjaiaa.A
open Go Go.AM
/-! ### hypogeum/glyph.Begin (f32) -/
def glyph_Begin_S (K : V → H → Prop) (m : Nat) (a0 : V) (h : H) : Prop :=
 X (pBuildSlice .byte 1 2 [(.int .u8 72), (.int .u8 89)] h.get h.n) h fun v1 h2 =>
 X (pConv .same v1 h2.get h2.n) h2 fun v3 h4 =>
 X (pBuildSlice .byte 1 1 [a0] h4.get h4.n) h4 fun v5 h6 =>
 X (pAppend .byte 1 1 v3 v5 h6.get h6.n) h6 fun v7 h8 =>
 X (pBuild (some [.nils, .int .i64 0]) [(0, 1, v7)]) h8 fun v9 h10 =>
 X (pBox v9 h10.n) h10 fun v11 h12 =>
 K v11 h12
def glyph_Begin_kp : Nat → List Nat := kpOf []
theorem glyph_Begin_E (K : V → H → Prop) (a0 : V) (h : H) : EF Try.prog Try.f32 glyph_Begin_kp [a0] h K = glyph_Begin_S K h.n a0 h := by kernel_rfl
set_option maxRecDepth 100000 in
theorem glyph_Begin_tr {m n1 : Nat} {b0 b1 : List (Nat × Blk)} {res : V} {a0 : V} (hk : ∀ q ∈ b1, q.1 < n1) (h : glyph_Begin_S (FinT ⟨id_glyph_Begin, [a0], b0, m, res, b1, n1⟩) m a0 ⟨b0, m⟩) : TrOk Try.prog ⟨id_glyph_Begin, [a0], b0, m, res, b1, n1⟩ :=
 tr_of_EF (fn := Try.f32) (kp := glyph_Begin_kp) Try.func32 (by kernel_rfl) (Nat.le_of_ble_eq_true (by kernel_rfl)) hk (Eq.mpr (glyph_Begin_E (FinT ⟨id_glyph_Begin, [a0], b0, m, res, b1, n1⟩) a0 ⟨b0, m⟩) h)

/-! ### (*hypogeum/glyph.Out).Num (f33) -/
def glyph_Out_Num_J1 (K : V → H → Prop) (m : Nat) (N2 : List V → H → Prop) (x0 : V) (x7 : V) (x8 : V) (x9 : V) (h : H) : Prop :=
 X (pBin .add x9 (.int .i64 1)) h fun v21 h22 =>
 N2 [x0, x7, x8, v21] h22
def glyph_Out_Num_R0 (K : V → H → Prop) (m : Nat) (N2 : List V → H → Prop) (x0 : V) (x6 : V) (x7 : V) (x8 : V) (x9 : V) (x21 : V) (h : H) : Prop :=
 Sp x21 (
 ECall Try.prog id_glyph_Out_num [x0, x6] h fun v19 h20 =>
 glyph_Out_Num_J1 K m N2 x0 x7 x8 x9 h20)
 (glyph_Out_Num_J1 K m N2 x0 x7 x8 x9 h)
def glyph_Out_Num_J2 (K : V → H → Prop) (m : Nat) (x0 : V) (h : H) : Prop :=
 K x0 h
def glyph_Out_Num_B2 (K : V → H → Prop) (m : Nat) (N2 : List V → H → Prop) (x0 : V) (x7 : V) (x8 : V) (x9 : V) (h : H) : Prop :=
 X (pBin .lss x9 x8) h fun v3 h4 =>
 Sp v3 (
 X (pIndexSl 1 x7 x9 h4.get) h4 fun v5 h6 =>
 X (pLoad false 1 v5 h6.get) h6 fun v7 h8 =>
 X (pNot true (veqN h8.get .ptr x0 .nilp)) h8 fun v9 h10 =>
 Sp v9 (
 X (pNil x0 h10.get) h10 fun v11 h12 =>
 X (pFieldAddr 1 v11 h12.get) h12 fun v13 h14 =>
 X (pLoad false 1 v13 h14.get) h14 fun v15 h16 =>
 X (pNot false (veqI v15 (.int .i64 0))) h16 fun v17 h18 =>
 True ∧
 glyph_Out_Num_R0 K m N2 x0 v7 x7 x8 x9 v17 h18)
 (True ∧
 glyph_Out_Num_R0 K m N2 x0 v7 x7 x8 x9 (.bool false) h10))
 (glyph_Out_Num_J2 K m x0 h4)
def glyph_Out_Num_S (K : V → H → Prop) (m : Nat) (a0 : V) (a1 : V) (h : H) : Prop :=
 X (pLenSl a1 h.get) h fun v1 h2 =>
 Lp m (fun N2 xs h => glyph_Out_Num_B2 K m N2 (xs.getD 0 .undef) (xs.getD 1 .undef) (xs.getD 2 .undef) (xs.getD 3 .undef) h) [a0, a1, v1, (.int .i64 0)] h2
def glyph_Out_Num_kp : Nat → List Nat := kpOf [(2, [0, 7, 8, 9])]
theorem glyph_Out_Num_E (K : V → H → Prop) (a0 : V) (a1 : V) (h : H) : EF Try.prog Try.f33 glyph_Out_Num_kp [a0, a1] h K = glyph_Out_Num_S K h.n a0 a1 h := by kernel_rfl
set_option maxRecDepth 100000 in
theorem glyph_Out_Num_tr {m n1 : Nat} {b0 b1 : List (Nat × Blk)} {res : V} {a0 : V} {a1 : V} (hk : ∀ q ∈ b1, q.1 < n1) (h : glyph_Out_Num_S (FinT ⟨id_glyph_Out_Num, [a0, a1], b0, m, res, b1, n1⟩) m a0 a1 ⟨b0, m⟩) : TrOk Try.prog ⟨id_glyph_Out_Num, [a0, a1], b0, m, res, b1, n1⟩ :=
 tr_of_EF (fn := Try.f33) (kp := glyph_Out_Num_kp) Try.func33 (by kernel_rfl) (Nat.le_of_ble_eq_true (by kernel_rfl)) hk (Eq.mpr (glyph_Out_Num_E (FinT ⟨id_glyph_Out_Num, [a0, a1], b0, m, res, b1, n1⟩) a0 a1 ⟨b0, m⟩) h)

/-! ### (*hypogeum/glyph.Out).Bytes (f35) -/
def glyph_Out_Bytes_S (K : V → H → Prop) (m : Nat) (a0 : V) (h : H) : Prop :=
 X (pNot false (veqN h.get .ptr a0 .nilp)) h fun v1 h2 =>
 Sp v1 (
 K (.tup [.nils, (.int .i64 1)]) h2)
 (X (pNil a0 h2.get) h2 fun v3 h4 =>
 X (pFieldAddr 1 v3 h4.get) h4 fun v5 h6 =>
 X (pLoad false 1 v5 h6.get) h6 fun v7 h8 =>
 X (pNot true (veqI v7 (.int .i64 0))) h8 fun v9 h10 =>
 Sp v9 (
 XD (pNil a0 h10.get) h10 (idsL [a0]) fun v11 v11k v11r h12 =>
 XD (pFieldAddr 1 v11 h12.get) h12 (idsL [v11]) fun v13 v13k v13r h14 =>
 XD (pLoad false 1 v13 h14.get) h14 (idsL [v13]) fun v15 v15k v15r h16 =>
 Indep [] [(5, [], []), (4, [], []), (3, v15k, v15r), (2, v13k, v13r), (1, v11k, v11r), (0, [], [])] ∧
 (K (.tup [.nils, v15]) h16))
 (X (pNil a0 h10.get) h10 fun v17 h18 =>
 X (pFieldAddr 0 v17 h18.get) h18 fun v19 h20 =>
 X (pLoad false 1 v19 h20.get) h20 fun v21 h22 =>
 ECall Try.prog id_bytes_Clone [v21] h22 fun v23 h24 =>
 K (.tup [v23, (.int .i64 0)]) h24))
def glyph_Out_Bytes_kp : Nat → List Nat := kpOf []
theorem glyph_Out_Bytes_E (K : V → H → Prop) (a0 : V) (h : H) : EF Try.prog Try.f35 glyph_Out_Bytes_kp [a0] h K = glyph_Out_Bytes_S K h.n a0 h := by kernel_rfl
set_option maxRecDepth 100000 in
theorem glyph_Out_Bytes_tr {m n1 : Nat} {b0 b1 : List (Nat × Blk)} {res : V} {a0 : V} (hk : ∀ q ∈ b1, q.1 < n1) (h : glyph_Out_Bytes_S (FinT ⟨id_glyph_Out_Bytes, [a0], b0, m, res, b1, n1⟩) m a0 ⟨b0, m⟩) : TrOk Try.prog ⟨id_glyph_Out_Bytes, [a0], b0, m, res, b1, n1⟩ :=
 tr_of_EF (fn := Try.f35) (kp := glyph_Out_Bytes_kp) Try.func35 (by kernel_rfl) (Nat.le_of_ble_eq_true (by kernel_rfl)) hk (Eq.mpr (glyph_Out_Bytes_E (FinT ⟨id_glyph_Out_Bytes, [a0], b0, m, res, b1, n1⟩) a0 ⟨b0, m⟩) h)

/-! ### hypogeum/glyph.Open (f43) -/
def glyph_Open_S (K : V → H → Prop) (m : Nat) (a0 : V) (a1 : V) (h : H) : Prop :=
 X (pBuildSlice .byte 1 2 [(.int .u8 72), (.int .u8 89)] h.get h.n) h fun v1 h2 =>
 X (pConv .same v1 h2.get h2.n) h2 fun v3 h4 =>
 X (pBuildSlice .byte 1 1 [a0] h4.get h4.n) h4 fun v5 h6 =>
 X (pAppend .byte 1 1 v3 v5 h6.get h6.n) h6 fun v7 h8 =>
 X (pLenSl a1 h8.get) h8 fun v9 h10 =>
 X (pLenSl v7 h10.get) h10 fun v11 h12 =>
 X (pMin v9 v11) h12 fun v13 h14 =>
 XD (pSliceSl 1 a1 none (some v13) h14.get) h14 (idsL [a1, v13]) fun v15 v15k v15r h16 =>
 XD (pSliceSl 1 v7 none (some v13) h16.get) h16 (idsL [v7, v13]) fun v17 v17k v17r h18 =>
 ECallD Try.prog id_bytes_Equal [v15, v17] h18 fun v19 v19k v19r h20 =>
 X (pUn .not v19) h20 fun v21 h22 =>
 Indep [(2, 5)] [(8, [], []), (7, [], []), (6, v19k, v19r), (5, v17k, v17r), (4, [], []), (3, [], []), (2, v15k, v15r), (1, [], []), (0, [], [])] ∧
 (Sp v21 (
 X (pBuild (some [.nils, .int .i64 0]) [(1, 1, (.int .i64 2))]) h22 fun v23 h24 =>
 X (pBox v23 h24.n) h24 fun v25 h26 =>
 K v25 h26)
 (X (pLenSl v7 h22.get) h22 fun v27 h28 =>
 X (pBin .lss v13 v27) h28 fun v29 h30 =>
 Sp v29 (
 X (pBuild (some [.nils, .int .i64 0]) [(1, 1, (.int .i64 3))]) h30 fun v31 h32 =>
 X (pBox v31 h32.n) h32 fun v33 h34 =>
 K v33 h34)
 (X (pSliceSl 1 a1 (some v13) none h30.get) h30 fun v35 h36 =>
 ECall Try.prog id_bytes_Clone [v35] h36 fun v37 h38 =>
 X (pBuild (some [.nils, .int .i64 0]) [(0, 1, v37)]) h38 fun v39 h40 =>
 X (pBox v39 h40.n) h40 fun v41 h42 =>
 K v41 h42)))
def glyph_Open_kp : Nat → List Nat := kpOf []
theorem glyph_Open_E (K : V → H → Prop) (a0 : V) (a1 : V) (h : H) : EF Try.prog Try.f43 glyph_Open_kp [a0, a1] h K = glyph_Open_S K h.n a0 a1 h := by kernel_rfl
set_option maxRecDepth 100000 in
theorem glyph_Open_tr {m n1 : Nat} {b0 b1 : List (Nat × Blk)} {res : V} {a0 : V} {a1 : V} (hk : ∀ q ∈ b1, q.1 < n1) (h : glyph_Open_S (FinT ⟨id_glyph_Open, [a0, a1], b0, m, res, b1, n1⟩) m a0 a1 ⟨b0, m⟩) : TrOk Try.prog ⟨id_glyph_Open, [a0, a1], b0, m, res, b1, n1⟩ :=
 tr_of_EF (fn := Try.f43) (kp := glyph_Open_kp) Try.func43 (by kernel_rfl) (Nat.le_of_ble_eq_true (by kernel_rfl)) hk (Eq.mpr (glyph_Open_E (FinT ⟨id_glyph_Open, [a0, a1], b0, m, res, b1, n1⟩) a0 a1 ⟨b0, m⟩) h)

/-! ### (*hypogeum/glyph.In).Num (f44) -/
def glyph_In_Num_J2 (K : V → H → Prop) (m : Nat) (N5 : List V → H → Prop) (x0 : V) (x1 : V) (x5 : V) (x6 : V) (x46 : V) (h : H) : Prop :=
 Sp x46 (
 ECall Try.prog id_glyph_In_fail [x0, (.int .i64 2)] h fun v45 h46 =>
 K (.int .i64 0) h46)
 (X (pBin .gtr x5 x1) h fun v47 h48 =>
 Sp v47 (
 ECall Try.prog id_glyph_In_fail [x0, (.int .i64 4)] h48 fun v49 h50 =>
 K (.int .i64 0) h50)
 (X (pNil x0 h48.get) h48 fun v51 h52 =>
 X (pFieldAddr 0 v51 h52.get) h52 fun v53 h54 =>
 X (pLoad false 1 v53 h54.get) h54 fun v55 h56 =>
 X (pBin .add x6 (.int .i64 1)) h56 fun v57 h58 =>
 X (pSliceSl 1 v55 (some v57) none h58.get) h58 fun v59 h60 =>
 X (pNil x0 h60.get) h60 fun v61 h62 =>
 X (pFieldAddr 0 v61 h62.get) h62 fun v63 h64 =>
 X (pStore false 1 v63 v59 h64.get) h64 fun v65 h66 =>
 K x5 h66))
def glyph_In_Num_R1 (K : V → H → Prop) (m : Nat) (N5 : List V → H → Prop) (x0 : V) (x1 : V) (x5 : V) (x6 : V) (x46 : V) (h : H) : Prop :=
 Sp x46 (
 glyph_In_Num_J2 K m N5 x0 x1 x5 x6 x46 h)
 (X (pBin .lss x5 (.int .i64 0)) h fun v67 h68 =>
 Sp v67 (
 True ∧
 glyph_In_Num_J2 K m N5 x0 x1 x5 x6 (.bool true) h68)
 (X (pBin .geq x5 (.int .i64 4611686018427387904)) h68 fun v69 h70 =>
 True ∧
 glyph_In_Num_J2 K m N5 x0 x1 x5 x6 v69 h70))
def glyph_In_Num_J3 (K : V → H → Prop) (m : Nat) (x0 : V) (h : H) : Prop :=
 ECall Try.prog id_glyph_In_fail [x0, (.int .i64 2)] h fun v71 h72 =>
 K (.int .i64 0) h72
def glyph_In_Num_B5 (K : V → H → Prop) (m : Nat) (N5 : List V → H → Prop) (x0 : V) (x1 : V) (x5 : V) (x17 : V) (h : H) : Prop :=
 X (pBin .lss x17 (.int .i64 9)) h fun v3 h4 =>
 Sp v3 (
 X (pNil x0 h4.get) h4 fun v5 h6 =>
 X (pFieldAddr 0 v5 h6.get) h6 fun v7 h8 =>
 X (pLoad false 1 v7 h8.get) h8 fun v9 h10 =>
 X (pLenSl v9 h10.get) h10 fun v11 h12 =>
 X (pNot false (veqI x17 v11)) h12 fun v13 h14 =>
 Sp v13 (
 ECall Try.prog id_glyph_In_fail [x0, (.int .i64 3)] h14 fun v15 h16 =>
 K (.int .i64 0) h16)
 (X (pNil x0 h14.get) h14 fun v17 h18 =>
 X (pFieldAddr 0 v17 h18.get) h18 fun v19 h20 =>
 X (pLoad false 1 v19 h20.get) h20 fun v21 h22 =>
 X (pIndexSl 1 v21 x17 h22.get) h22 fun v23 h24 =>
 X (pLoad false 1 v23 h24.get) h24 fun v25 h26 =>
 X (pBin .and v25 (.int .u8 127)) h26 fun v27 h28 =>
 X (pConv (.int .i64) v27 h28.get h28.n) h28 fun v29 h30 =>
 X (pBin .mul (.int .i64 7) x17) h30 fun v31 h32 =>
 X (pBin .shl v29 v31) h32 fun v33 h34 =>
 X (pBin .or x5 v33) h34 fun v35 h36 =>
 X (pBin .geq v25 (.int .u8 128)) h36 fun v37 h38 =>
 Sp v37 (
 X (pBin .add x17 (.int .i64 1)) h38 fun v39 h40 =>
 N5 [x0, x1, v35, v39] h40)
 (X (pBin .gtr x17 (.int .i64 0)) h38 fun v41 h42 =>
 Sp v41 (
 X (pNot false (veqI v25 (.int .u8 0))) h42 fun v43 h44 =>
 True ∧
 glyph_In_Num_R1 K m N5 x0 x1 v35 x17 v43 h44)
 (True ∧
 glyph_In_Num_R1 K m N5 x0 x1 v35 x17 (.bool false) h42))))
 (glyph_In_Num_J3 K m x0 h4)
def glyph_In_Num_R0 (K : V → H → Prop) (m : Nat) (x0 : V) (x1 : V) (x16 : V) (h : H) : Prop :=
 Sp x16 (
 K (.int .i64 0) h)
 (Lp m (fun N5 xs h => glyph_In_Num_B5 K m N5 (xs.getD 0 .undef) (xs.getD 1 .undef) (xs.getD 2 .undef) (xs.getD 3 .undef) h) [x0, x1, (.int .i64 0), (.int .i64 0)] h)
def glyph_In_Num_S (K : V → H → Prop) (m : Nat) (a0 : V) (a1 : V) (h : H) : Prop :=
 X (pNot false (veqN h.get .ptr a0 .nilp)) h fun v1 h2 =>
 Sp v1 (
 True ∧
 glyph_In_Num_R0 K m a0 a1 (.bool true) h2)
 (X (pNil a0 h2.get) h2 fun v73 h74 =>
 X (pFieldAddr 1 v73 h74.get) h74 fun v75 h76 =>
 X (pLoad false 1 v75 h76.get) h76 fun v77 h78 =>
 X (pNot true (veqI v77 (.int .i64 0))) h78 fun v79 h80 =>
 True ∧
 glyph_In_Num_R0 K m a0 a1 v79 h80)
def glyph_In_Num_kp : Nat → List Nat := kpOf [(5, [0, 1, 5, 17])]
theorem glyph_In_Num_E (K : V → H → Prop) (a0 : V) (a1 : V) (h : H) : EF Try.prog Try.f44 glyph_In_Num_kp [a0, a1] h K = glyph_In_Num_S K h.n a0 a1 h := by kernel_rfl
set_option maxRecDepth 100000 in
theorem glyph_In_Num_tr {m n1 : Nat} {b0 b1 : List (Nat × Blk)} {res : V} {a0 : V} {a1 : V} (hk : ∀ q ∈ b1, q.1 < n1) (h : glyph_In_Num_S (FinT ⟨id_glyph_In_Num, [a0, a1], b0, m, res, b1, n1⟩) m a0 a1 ⟨b0, m⟩) : TrOk Try.prog ⟨id_glyph_In_Num, [a0, a1], b0, m, res, b1, n1⟩ :=
 tr_of_EF (fn := Try.f44) (kp := glyph_In_Num_kp) Try.func44 (by kernel_rfl) (Nat.le_of_ble_eq_true (by kernel_rfl)) hk (Eq.mpr (glyph_In_Num_E (FinT ⟨id_glyph_In_Num, [a0, a1], b0, m, res, b1, n1⟩) a0 a1 ⟨b0, m⟩) h)

/-! ### (*hypogeum/glyph.In).Err (f46) -/
def glyph_In_Err_S (K : V → H → Prop) (m : Nat) (a0 : V) (h : H) : Prop :=
 X (pNot false (veqN h.get .ptr a0 .nilp)) h fun v1 h2 =>
 Sp v1 (
 K (.int .i64 1) h2)
 (X (pNil a0 h2.get) h2 fun v3 h4 =>
 X (pFieldAddr 1 v3 h4.get) h4 fun v5 h6 =>
 X (pLoad false 1 v5 h6.get) h6 fun v7 h8 =>
 K v7 h8)
def glyph_In_Err_kp : Nat → List Nat := kpOf []
theorem glyph_In_Err_E (K : V → H → Prop) (a0 : V) (h : H) : EF Try.prog Try.f46 glyph_In_Err_kp [a0] h K = glyph_In_Err_S K h.n a0 h := by kernel_rfl
set_option maxRecDepth 100000 in
theorem glyph_In_Err_tr {m n1 : Nat} {b0 b1 : List (Nat × Blk)} {res : V} {a0 : V} (hk : ∀ q ∈ b1, q.1 < n1) (h : glyph_In_Err_S (FinT ⟨id_glyph_In_Err, [a0], b0, m, res, b1, n1⟩) m a0 ⟨b0, m⟩) : TrOk Try.prog ⟨id_glyph_In_Err, [a0], b0, m, res, b1, n1⟩ :=
 tr_of_EF (fn := Try.f46) (kp := glyph_In_Err_kp) Try.func46 (by kernel_rfl) (Nat.le_of_ble_eq_true (by kernel_rfl)) hk (Eq.mpr (glyph_In_Err_E (FinT ⟨id_glyph_In_Err, [a0], b0, m, res, b1, n1⟩) a0 ⟨b0, m⟩) h)

/-! ### (*hypogeum/glyph.In).End (f47) -/
def glyph_In_End_J1 (K : V → H → Prop) (m : Nat) (x0 : V) (h : H) : Prop :=
 ECall Try.prog id_glyph_In_Err [x0] h fun v15 h16 =>
 K v15 h16
def glyph_In_End_R0 (K : V → H → Prop) (m : Nat) (x0 : V) (x12 : V) (h : H) : Prop :=
 Sp x12 (
 ECall Try.prog id_glyph_In_fail [x0, (.int .i64 2)] h fun v13 h14 =>
 glyph_In_End_J1 K m x0 h14)
 (glyph_In_End_J1 K m x0 h)
def glyph_In_End_S (K : V → H → Prop) (m : Nat) (a0 : V) (h : H) : Prop :=
 X (pNot true (veqN h.get .ptr a0 .nilp)) h fun v1 h2 =>
 Sp v1 (
 X (pNil a0 h2.get) h2 fun v3 h4 =>
 X (pFieldAddr 0 v3 h4.get) h4 fun v5 h6 =>
 X (pLoad false 1 v5 h6.get) h6 fun v7 h8 =>
 X (pLenSl v7 h8.get) h8 fun v9 h10 =>
 X (pBin .gtr v9 (.int .i64 0)) h10 fun v11 h12 =>
 True ∧
 glyph_In_End_R0 K m a0 v11 h12)
 (True ∧
 glyph_In_End_R0 K m a0 (.bool false) h2)
def glyph_In_End_kp : Nat → List Nat := kpOf []
theorem glyph_In_End_E (K : V → H → Prop) (a0 : V) (h : H) : EF Try.prog Try.f47 glyph_In_End_kp [a0] h K = glyph_In_End_S K h.n a0 h := by kernel_rfl
set_option maxRecDepth 100000 in
theorem glyph_In_End_tr {m n1 : Nat} {b0 b1 : List (Nat × Blk)} {res : V} {a0 : V} (hk : ∀ q ∈ b1, q.1 < n1) (h : glyph_In_End_S (FinT ⟨id_glyph_In_End, [a0], b0, m, res, b1, n1⟩) m a0 ⟨b0, m⟩) : TrOk Try.prog ⟨id_glyph_In_End, [a0], b0, m, res, b1, n1⟩ :=
 tr_of_EF (fn := Try.f47) (kp := glyph_In_End_kp) Try.func47 (by kernel_rfl) (Nat.le_of_ble_eq_true (by kernel_rfl)) hk (Eq.mpr (glyph_In_End_E (FinT ⟨id_glyph_In_End, [a0], b0, m, res, b1, n1⟩) a0 ⟨b0, m⟩) h)

/-! ### (*hypogeum/glyph.Out).num (f49) -/
def glyph_Out_num_J1 (K : V → H → Prop) (m : Nat) (x0 : V) (x1 : V) (h : H) : Prop :=
 X (pNil x0 h.get) h fun v29 h30 =>
 X (pFieldAddr 0 v29 h30.get) h30 fun v31 h32 =>
 X (pLoad false 1 v31 h32.get) h32 fun v33 h34 =>
 X (pConv (.int .u8) x1 h34.get h34.n) h34 fun v35 h36 =>
 X (pBuildSlice .byte 1 1 [v35] h36.get h36.n) h36 fun v37 h38 =>
 X (pAppend .byte 1 1 v33 v37 h38.get h38.n) h38 fun v39 h40 =>
 X (pNil x0 h40.get) h40 fun v41 h42 =>
 X (pFieldAddr 0 v41 h42.get) h42 fun v43 h44 =>
 X (pStore false 1 v43 v39 h44.get) h44 fun v45 h46 =>
 K (.tup []) h46
def glyph_Out_num_B2 (K : V → H → Prop) (m : Nat) (N2 : List V → H → Prop) (x0 : V) (x1 : V) (h : H) : Prop :=
 X (pBin .geq x1 (.int .i64 128)) h fun v5 h6 =>
 Sp v5 (
 X (pNil x0 h6.get) h6 fun v7 h8 =>
 X (pFieldAddr 0 v7 h8.get) h8 fun v9 h10 =>
 X (pLoad false 1 v9 h10.get) h10 fun v11 h12 =>
 X (pConv (.int .u8) x1 h12.get h12.n) h12 fun v13 h14 =>
 X (pBin .or v13 (.int .u8 128)) h14 fun v15 h16 =>
 X (pBuildSlice .byte 1 1 [v15] h16.get h16.n) h16 fun v17 h18 =>
 X (pAppend .byte 1 1 v11 v17 h18.get h18.n) h18 fun v19 h20 =>
 X (pNil x0 h20.get) h20 fun v21 h22 =>
 X (pFieldAddr 0 v21 h22.get) h22 fun v23 h24 =>
 X (pStore false 1 v23 v19 h24.get) h24 fun v25 h26 =>
 X (pBin .shr x1 (.int .u64 7)) h26 fun v27 h28 =>
 N2 [x0, v27] h28)
 (glyph_Out_num_J1 K m x0 x1 h6)
def glyph_Out_num_R0 (K : V → H → Prop) (m : Nat) (x0 : V) (x1 : V) (x9 : V) (h : H) : Prop :=
 Sp x9 (
 ECall Try.prog id_glyph_Out_fail [x0, (.int .i64 1)] h fun v3 h4 =>
 K (.tup []) h4)
 (Lp m (fun N2 xs h => glyph_Out_num_B2 K m N2 (xs.getD 0 .undef) (xs.getD 1 .undef) h) [x0, x1] h)
def glyph_Out_num_S (K : V → H → Prop) (m : Nat) (a0 : V) (a1 : V) (h : H) : Prop :=
 X (pBin .lss a1 (.int .i64 0)) h fun v1 h2 =>
 Sp v1 (
 True ∧
 glyph_Out_num_R0 K m a0 a1 (.bool true) h2)
 (X (pBin .geq a1 (.int .i64 4611686018427387904)) h2 fun v47 h48 =>
 True ∧
 glyph_Out_num_R0 K m a0 a1 v47 h48)
def glyph_Out_num_kp : Nat → List Nat := kpOf [(2, [0, 1])]
theorem glyph_Out_num_E (K : V → H → Prop) (a0 : V) (a1 : V) (h : H) : EF Try.prog Try.f49 glyph_Out_num_kp [a0, a1] h K = glyph_Out_num_S K h.n a0 a1 h := by kernel_rfl
set_option maxRecDepth 100000 in
theorem glyph_Out_num_tr {m n1 : Nat} {b0 b1 : List (Nat × Blk)} {res : V} {a0 : V} {a1 : V} (hk : ∀ q ∈ b1, q.1 < n1) (h : glyph_Out_num_S (FinT ⟨id_glyph_Out_num, [a0, a1], b0, m, res, b1, n1⟩) m a0 a1 ⟨b0, m⟩) : TrOk Try.prog ⟨id_glyph_Out_num, [a0, a1], b0, m, res, b1, n1⟩ :=
 tr_of_EF (fn := Try.f49) (kp := glyph_Out_num_kp) Try.func49 (by kernel_rfl) (Nat.le_of_ble_eq_true (by kernel_rfl)) hk (Eq.mpr (glyph_Out_num_E (FinT ⟨id_glyph_Out_num, [a0, a1], b0, m, res, b1, n1⟩) a0 a1 ⟨b0, m⟩) h)

/-! ### (*hypogeum/glyph.Out).Text (f50) -/
def glyph_Out_Text_J1 (K : V → H → Prop) (m : Nat) (N2 : List V → H → Prop) (x0 : V) (x7 : V) (x8 : V) (x9 : V) (h : H) : Prop :=
 X (pBin .add x9 (.int .i64 1)) h fun v11 h12 =>
 N2 [x0, x7, x8, v11] h12
def glyph_Out_Text_R0 (K : V → H → Prop) (m : Nat) (N2 : List V → H → Prop) (x0 : V) (x6 : V) (x7 : V) (x8 : V) (x9 : V) (x26 : V) (h : H) : Prop :=
 Sp x26 (
 glyph_Out_Text_J1 K m N2 x0 x7 x8 x9 h)
 (X (pLenStr x6) h fun v13 h14 =>
 X (pBin .gtr v13 (.int .i64 131072)) h14 fun v15 h16 =>
 Sp v15 (
 ECall Try.prog id_glyph_Out_fail [x0, (.int .i64 4)] h16 fun v17 h18 =>
 glyph_Out_Text_J1 K m N2 x0 x7 x8 x9 h18)
 (X (pLenStr x6) h16 fun v19 h20 =>
 ECall Try.prog id_glyph_Out_num [x0, v19] h20 fun v21 h22 =>
 X (pNil x0 h22.get) h22 fun v23 h24 =>
 X (pFieldAddr 0 v23 h24.get) h24 fun v25 h26 =>
 X (pLoad false 1 v25 h26.get) h26 fun v27 h28 =>
 X (pAppend .byte 1 1 v27 x6 h28.get h28.n) h28 fun v29 h30 =>
 X (pNil x0 h30.get) h30 fun v31 h32 =>
 X (pFieldAddr 0 v31 h32.get) h32 fun v33 h34 =>
 X (pStore false 1 v33 v29 h34.get) h34 fun v35 h36 =>
 glyph_Out_Text_J1 K m N2 x0 x7 x8 x9 h36))
def glyph_Out_Text_J2 (K : V → H → Prop) (m : Nat) (x0 : V) (h : H) : Prop :=
 K x0 h
def glyph_Out_Text_B2 (K : V → H → Prop) (m : Nat) (N2 : List V → H → Prop) (x0 : V) (x7 : V) (x8 : V) (x9 : V) (h : H) : Prop :=
 X (pBin .lss x9 x8) h fun v3 h4 =>
 Sp v3 (
 X (pIndexSl 1 x7 x9 h4.get) h4 fun v5 h6 =>
 X (pLoad false 1 v5 h6.get) h6 fun v7 h8 =>
 X (pNot false (veqN h8.get .ptr x0 .nilp)) h8 fun v9 h10 =>
 Sp v9 (
 True ∧
 glyph_Out_Text_R0 K m N2 x0 v7 x7 x8 x9 (.bool true) h10)
 (X (pNil x0 h10.get) h10 fun v37 h38 =>
 X (pFieldAddr 1 v37 h38.get) h38 fun v39 h40 =>
 X (pLoad false 1 v39 h40.get) h40 fun v41 h42 =>
 X (pNot true (veqI v41 (.int .i64 0))) h42 fun v43 h44 =>
 True ∧
 glyph_Out_Text_R0 K m N2 x0 v7 x7 x8 x9 v43 h44))
 (glyph_Out_Text_J2 K m x0 h4)
def glyph_Out_Text_S (K : V → H → Prop) (m : Nat) (a0 : V) (a1 : V) (h : H) : Prop :=
 X (pLenSl a1 h.get) h fun v1 h2 =>
 Lp m (fun N2 xs h => glyph_Out_Text_B2 K m N2 (xs.getD 0 .undef) (xs.getD 1 .undef) (xs.getD 2 .undef) (xs.getD 3 .undef) h) [a0, a1, v1, (.int .i64 0)] h2
def glyph_Out_Text_kp : Nat → List Nat := kpOf [(2, [0, 7, 8, 9])]
theorem glyph_Out_Text_E (K : V → H → Prop) (a0 : V) (a1 : V) (h : H) : EF Try.prog Try.f50 glyph_Out_Text_kp [a0, a1] h K = glyph_Out_Text_S K h.n a0 a1 h := by kernel_rfl
set_option maxRecDepth 100000 in
theorem glyph_Out_Text_tr {m n1 : Nat} {b0 b1 : List (Nat × Blk)} {res : V} {a0 : V} {a1 : V} (hk : ∀ q ∈ b1, q.1 < n1) (h : glyph_Out_Text_S (FinT ⟨id_glyph_Out_Text, [a0, a1], b0, m, res, b1, n1⟩) m a0 a1 ⟨b0, m⟩) : TrOk Try.prog ⟨id_glyph_Out_Text, [a0, a1], b0, m, res, b1, n1⟩ :=
 tr_of_EF (fn := Try.f50) (kp := glyph_Out_Text_kp) Try.func50 (by kernel_rfl) (Nat.le_of_ble_eq_true (by kernel_rfl)) hk (Eq.mpr (glyph_Out_Text_E (FinT ⟨id_glyph_Out_Text, [a0, a1], b0, m, res, b1, n1⟩) a0 a1 ⟨b0, m⟩) h)

/-! ### hypogeum/node.ids (f51) -/
def node_ids_J0 (K : V → H → Prop) (m : Nat) (h : H) : Prop :=
 K (.tup []) h
def node_ids_B1 (K : V → H → Prop) (m : Nat) (N1 : List V → H → Prop) (x0 : V) (x6 : V) (x7 : V) (x8 : V) (h : H) : Prop :=
 X (pBin .lss x8 x7) h fun v3 h4 =>
 Sp v3 (
 X (pIndexSl 32 x6 x8 h4.get) h4 fun v5 h6 =>
 X (pLoad true 32 v5 h6.get) h6 fun v7 h8 =>
 X (pAlloc (some [.byt 32 (List.replicate 32 0)]) h8.n) h8 fun v9 h10 =>
 X (pStore true 32 v9 v7 h10.get) h10 fun v11 h12 =>
 X (pSliceArr 32 v9 none none h12.get) h12 fun v13 h14 =>
 X (pBuildSlice .els 1 1 [v13] h14.get h14.n) h14 fun v15 h16 =>
 ECall Try.prog id_glyph_Out_Raw [x0, v15] h16 fun v17 h18 =>
 X (pBin .add x8 (.int .i64 1)) h18 fun v19 h20 =>
 N1 [x0, x6, x7, v19] h20)
 (node_ids_J0 K m h4)
def node_ids_S (K : V → H → Prop) (m : Nat) (a0 : V) (a1 : V) (h : H) : Prop :=
 X (pLenSl a1 h.get) h fun v1 h2 =>
 Lp m (fun N1 xs h => node_ids_B1 K m N1 (xs.getD 0 .undef) (xs.getD 1 .undef) (xs.getD 2 .undef) (xs.getD 3 .undef) h) [a0, a1, v1, (.int .i64 0)] h2
def node_ids_kp : Nat → List Nat := kpOf [(1, [0, 6, 7, 8])]
theorem node_ids_E (K : V → H → Prop) (a0 : V) (a1 : V) (h : H) : EF Try.prog Try.f51 node_ids_kp [a0, a1] h K = node_ids_S K h.n a0 a1 h := by kernel_rfl
set_option maxRecDepth 100000 in
theorem node_ids_tr {m n1 : Nat} {b0 b1 : List (Nat × Blk)} {res : V} {a0 : V} {a1 : V} (hk : ∀ q ∈ b1, q.1 < n1) (h : node_ids_S (FinT ⟨id_node_ids, [a0, a1], b0, m, res, b1, n1⟩) m a0 a1 ⟨b0, m⟩) : TrOk Try.prog ⟨id_node_ids, [a0, a1], b0, m, res, b1, n1⟩ :=
 tr_of_EF (fn := Try.f51) (kp := node_ids_kp) Try.func51 (by kernel_rfl) (Nat.le_of_ble_eq_true (by kernel_rfl)) hk (Eq.mpr (node_ids_E (FinT ⟨id_node_ids, [a0, a1], b0, m, res, b1, n1⟩) a0 a1 ⟨b0, m⟩) h)

/-! ### bytes.Clone (f52) -/
def bytes_Clone_S (K : V → H → Prop) (m : Nat) (a0 : V) (h : H) : Prop :=
 X (pNot false (veqN h.get .slice a0 .nils)) h fun v1 h2 =>
 Sp v1 (
 K .nils h2)
 (X (pBuildSlice .byte 1 0 [] h2.get h2.n) h2 fun v3 h4 =>
 X (pAppend .byte 1 1 v3 a0 h4.get h4.n) h4 fun v5 h6 =>
 K v5 h6)
def bytes_Clone_kp : Nat → List Nat := kpOf []
theorem bytes_Clone_E (K : V → H → Prop) (a0 : V) (h : H) : EF Try.prog Try.f52 bytes_Clone_kp [a0] h K = bytes_Clone_S K h.n a0 h := by kernel_rfl
set_option maxRecDepth 100000 in
theorem bytes_Clone_tr {m n1 : Nat} {b0 b1 : List (Nat × Blk)} {res : V} {a0 : V} (hk : ∀ q ∈ b1, q.1 < n1) (h : bytes_Clone_S (FinT ⟨id_bytes_Clone, [a0], b0, m, res, b1, n1⟩) m a0 ⟨b0, m⟩) : TrOk Try.prog ⟨id_bytes_Clone, [a0], b0, m, res, b1, n1⟩ :=
 tr_of_EF (fn := Try.f52) (kp := bytes_Clone_kp) Try.func52 (by kernel_rfl) (Nat.le_of_ble_eq_true (by kernel_rfl)) hk (Eq.mpr (bytes_Clone_E (FinT ⟨id_bytes_Clone, [a0], b0, m, res, b1, n1⟩) a0 ⟨b0, m⟩) h)

/-! ### bytes.Equal (f54) -/
def bytes_Equal_S (K : V → H → Prop) (m : Nat) (a0 : V) (a1 : V) (h : H) : Prop :=
 X (pConv .toStr a0 h.get h.n) h fun v1 h2 =>
 X (pConv .toStr a1 h2.get h2.n) h2 fun v3 h4 =>
 X (pNot false (veqS v1 v3)) h4 fun v5 h6 =>
 K v5 h6
def bytes_Equal_kp : Nat → List Nat := kpOf []
theorem bytes_Equal_E (K : V → H → Prop) (a0 : V) (a1 : V) (h : H) : EF Try.prog Try.f54 bytes_Equal_kp [a0, a1] h K = bytes_Equal_S K h.n a0 a1 h := by kernel_rfl
set_option maxRecDepth 100000 in
theorem bytes_Equal_tr {m n1 : Nat} {b0 b1 : List (Nat × Blk)} {res : V} {a0 : V} {a1 : V} (hk : ∀ q ∈ b1, q.1 < n1) (h : bytes_Equal_S (FinT ⟨id_bytes_Equal, [a0, a1], b0, m, res, b1, n1⟩) m a0 a1 ⟨b0, m⟩) : TrOk Try.prog ⟨id_bytes_Equal, [a0, a1], b0, m, res, b1, n1⟩ :=
 tr_of_EF (fn := Try.f54) (kp := bytes_Equal_kp) Try.func54 (by kernel_rfl) (Nat.le_of_ble_eq_true (by kernel_rfl)) hk (Eq.mpr (bytes_Equal_E (FinT ⟨id_bytes_Equal, [a0, a1], b0, m, res, b1, n1⟩) a0 a1 ⟨b0, m⟩) h)

/-! ### (*hypogeum/glyph.In).fail (f55) -/
def glyph_In_fail_J0 (K : V → H → Prop) (m : Nat) (h : H) : Prop :=
 K (.tup []) h
def glyph_In_fail_S (K : V → H → Prop) (m : Nat) (a0 : V) (a1 : V) (h : H) : Prop :=
 X (pNil a0 h.get) h fun v1 h2 =>
 X (pFieldAddr 1 v1 h2.get) h2 fun v3 h4 =>
 X (pLoad false 1 v3 h4.get) h4 fun v5 h6 =>
 X (pNot false (veqI v5 (.int .i64 0))) h6 fun v7 h8 =>
 Sp v7 (
 X (pNil a0 h8.get) h8 fun v9 h10 =>
 X (pFieldAddr 1 v9 h10.get) h10 fun v11 h12 =>
 X (pStore false 1 v11 a1 h12.get) h12 fun v13 h14 =>
 glyph_In_fail_J0 K m h14)
 (glyph_In_fail_J0 K m h8)
def glyph_In_fail_kp : Nat → List Nat := kpOf []
theorem glyph_In_fail_E (K : V → H → Prop) (a0 : V) (a1 : V) (h : H) : EF Try.prog Try.f55 glyph_In_fail_kp [a0, a1] h K = glyph_In_fail_S K h.n a0 a1 h := by kernel_rfl
set_option maxRecDepth 100000 in
theorem glyph_In_fail_tr {m n1 : Nat} {b0 b1 : List (Nat × Blk)} {res : V} {a0 : V} {a1 : V} (hk : ∀ q ∈ b1, q.1 < n1) (h : glyph_In_fail_S (FinT ⟨id_glyph_In_fail, [a0, a1], b0, m, res, b1, n1⟩) m a0 a1 ⟨b0, m⟩) : TrOk Try.prog ⟨id_glyph_In_fail, [a0, a1], b0, m, res, b1, n1⟩ :=
 tr_of_EF (fn := Try.f55) (kp := glyph_In_fail_kp) Try.func55 (by kernel_rfl) (Nat.le_of_ble_eq_true (by kernel_rfl)) hk (Eq.mpr (glyph_In_fail_E (FinT ⟨id_glyph_In_fail, [a0, a1], b0, m, res, b1, n1⟩) a0 a1 ⟨b0, m⟩) h)

/-! ### (*hypogeum/glyph.In).Text (f56) -/
def glyph_In_Text_S (K : V → H → Prop) (m : Nat) (a0 : V) (a1 : V) (h : H) : Prop :=
 X (pMin a1 (.int .i64 131072)) h fun v1 h2 =>
 ECall Try.prog id_glyph_In_Num [a0, v1] h2 fun v3 h4 =>
 ECall Try.prog id_glyph_In_Raw [a0, v3] h4 fun v5 h6 =>
 X (pConv .toStr v5 h6.get h6.n) h6 fun v7 h8 =>
 K v7 h8
def glyph_In_Text_kp : Nat → List Nat := kpOf []
theorem glyph_In_Text_E (K : V → H → Prop) (a0 : V) (a1 : V) (h : H) : EF Try.prog Try.f56 glyph_In_Text_kp [a0, a1] h K = glyph_In_Text_S K h.n a0 a1 h := by kernel_rfl
set_option maxRecDepth 100000 in
theorem glyph_In_Text_tr {m n1 : Nat} {b0 b1 : List (Nat × Blk)} {res : V} {a0 : V} {a1 : V} (hk : ∀ q ∈ b1, q.1 < n1) (h : glyph_In_Text_S (FinT ⟨id_glyph_In_Text, [a0, a1], b0, m, res, b1, n1⟩) m a0 a1 ⟨b0, m⟩) : TrOk Try.prog ⟨id_glyph_In_Text, [a0, a1], b0, m, res, b1, n1⟩ :=
 tr_of_EF (fn := Try.f56) (kp := glyph_In_Text_kp) Try.func56 (by kernel_rfl) (Nat.le_of_ble_eq_true (by kernel_rfl)) hk (Eq.mpr (glyph_In_Text_E (FinT ⟨id_glyph_In_Text, [a0, a1], b0, m, res, b1, n1⟩) a0 a1 ⟨b0, m⟩) h)

/-! ### hypogeum/node.id (f57) -/
def node_id_S (K : V → H → Prop) (m : Nat) (a0 : V) (h : H) : Prop :=
 X (pAlloc (some [.byt 32 (List.replicate 32 0)]) h.n) h fun v1 h2 =>
 ECall Try.prog id_glyph_In_Raw [a0, (.int .i64 32)] h2 fun v3 h4 =>
 X (pLenSl v3 h4.get) h4 fun v5 h6 =>
 X (pNot true (veqI v5 (.int .i64 32))) h6 fun v7 h8 =>
 Sp v7 (
 X (pBuild (some [.byt 32 (List.replicate 32 0)]) []) h8 fun v9 h10 =>
 X (pStore true 32 v1 v9 h10.get) h10 fun v11 h12 =>
 X (pLoad true 32 v1 h12.get) h12 fun r13 h14 =>
 K r13 h14)
 (X (pS2A 32 v3 h8.get) h8 fun v15 h16 =>
 X (pLoad true 32 v15 h16.get) h16 fun v17 h18 =>
 X (pStore true 32 v1 v17 h18.get) h18 fun v19 h20 =>
 X (pLoad true 32 v1 h20.get) h20 fun r21 h22 =>
 K r21 h22)
def node_id_kp : Nat → List Nat := kpOf []
theorem node_id_E (K : V → H → Prop) (a0 : V) (h : H) : EF Try.prog Try.f57 node_id_kp [a0] h K = node_id_S K h.n a0 h := by kernel_rfl
set_option maxRecDepth 100000 in
theorem node_id_tr {m n1 : Nat} {b0 b1 : List (Nat × Blk)} {res : V} {a0 : V} (hk : ∀ q ∈ b1, q.1 < n1) (h : node_id_S (FinT ⟨id_node_id, [a0], b0, m, res, b1, n1⟩) m a0 ⟨b0, m⟩) : TrOk Try.prog ⟨id_node_id, [a0], b0, m, res, b1, n1⟩ :=
 tr_of_EF (fn := Try.f57) (kp := node_id_kp) Try.func57 (by kernel_rfl) (Nat.le_of_ble_eq_true (by kernel_rfl)) hk (Eq.mpr (node_id_E (FinT ⟨id_node_id, [a0], b0, m, res, b1, n1⟩) a0 ⟨b0, m⟩) h)

/-! ### (*hypogeum/glyph.Out).fail (f62) -/
def glyph_Out_fail_J0 (K : V → H → Prop) (m : Nat) (h : H) : Prop :=
 K (.tup []) h
def glyph_Out_fail_S (K : V → H → Prop) (m : Nat) (a0 : V) (a1 : V) (h : H) : Prop :=
 X (pNil a0 h.get) h fun v1 h2 =>
 X (pFieldAddr 1 v1 h2.get) h2 fun v3 h4 =>
 X (pLoad false 1 v3 h4.get) h4 fun v5 h6 =>
 X (pNot false (veqI v5 (.int .i64 0))) h6 fun v7 h8 =>
 Sp v7 (
 X (pNil a0 h8.get) h8 fun v9 h10 =>
 X (pFieldAddr 1 v9 h10.get) h10 fun v11 h12 =>
 X (pStore false 1 v11 a1 h12.get) h12 fun v13 h14 =>
 glyph_Out_fail_J0 K m h14)
 (glyph_Out_fail_J0 K m h8)
def glyph_Out_fail_kp : Nat → List Nat := kpOf []
theorem glyph_Out_fail_E (K : V → H → Prop) (a0 : V) (a1 : V) (h : H) : EF Try.prog Try.f62 glyph_Out_fail_kp [a0, a1] h K = glyph_Out_fail_S K h.n a0 a1 h := by kernel_rfl
set_option maxRecDepth 100000 in
theorem glyph_Out_fail_tr {m n1 : Nat} {b0 b1 : List (Nat × Blk)} {res : V} {a0 : V} {a1 : V} (hk : ∀ q ∈ b1, q.1 < n1) (h : glyph_Out_fail_S (FinT ⟨id_glyph_Out_fail, [a0, a1], b0, m, res, b1, n1⟩) m a0 a1 ⟨b0, m⟩) : TrOk Try.prog ⟨id_glyph_Out_fail, [a0, a1], b0, m, res, b1, n1⟩ :=
 tr_of_EF (fn := Try.f62) (kp := glyph_Out_fail_kp) Try.func62 (by kernel_rfl) (Nat.le_of_ble_eq_true (by kernel_rfl)) hk (Eq.mpr (glyph_Out_fail_E (FinT ⟨id_glyph_Out_fail, [a0, a1], b0, m, res, b1, n1⟩) a0 a1 ⟨b0, m⟩) h)

/-! ### (*hypogeum/glyph.Out).Raw (f63) -/
def glyph_Out_Raw_J1 (K : V → H → Prop) (m : Nat) (N2 : List V → H → Prop) (x0 : V) (x7 : V) (x8 : V) (x9 : V) (h : H) : Prop :=
 X (pBin .add x9 (.int .i64 1)) h fun v33 h34 =>
 N2 [x0, x7, x8, v33] h34
def glyph_Out_Raw_R0 (K : V → H → Prop) (m : Nat) (N2 : List V → H → Prop) (x0 : V) (x6 : V) (x7 : V) (x8 : V) (x9 : V) (x21 : V) (h : H) : Prop :=
 Sp x21 (
 X (pNil x0 h.get) h fun v19 h20 =>
 X (pFieldAddr 0 v19 h20.get) h20 fun v21 h22 =>
 X (pLoad false 1 v21 h22.get) h22 fun v23 h24 =>
 X (pAppend .byte 1 1 v23 x6 h24.get h24.n) h24 fun v25 h26 =>
 X (pNil x0 h26.get) h26 fun v27 h28 =>
 X (pFieldAddr 0 v27 h28.get) h28 fun v29 h30 =>
 X (pStore false 1 v29 v25 h30.get) h30 fun v31 h32 =>
 glyph_Out_Raw_J1 K m N2 x0 x7 x8 x9 h32)
 (glyph_Out_Raw_J1 K m N2 x0 x7 x8 x9 h)
def glyph_Out_Raw_J2 (K : V → H → Prop) (m : Nat) (x0 : V) (h : H) : Prop :=
 K x0 h
def glyph_Out_Raw_B2 (K : V → H → Prop) (m : Nat) (N2 : List V → H → Prop) (x0 : V) (x7 : V) (x8 : V) (x9 : V) (h : H) : Prop :=
 X (pBin .lss x9 x8) h fun v3 h4 =>
 Sp v3 (
 X (pIndexSl 1 x7 x9 h4.get) h4 fun v5 h6 =>
 X (pLoad false 1 v5 h6.get) h6 fun v7 h8 =>
 X (pNot true (veqN h8.get .ptr x0 .nilp)) h8 fun v9 h10 =>
 Sp v9 (
 X (pNil x0 h10.get) h10 fun v11 h12 =>
 X (pFieldAddr 1 v11 h12.get) h12 fun v13 h14 =>
 X (pLoad false 1 v13 h14.get) h14 fun v15 h16 =>
 X (pNot false (veqI v15 (.int .i64 0))) h16 fun v17 h18 =>
 True ∧
 glyph_Out_Raw_R0 K m N2 x0 v7 x7 x8 x9 v17 h18)
 (True ∧
 glyph_Out_Raw_R0 K m N2 x0 v7 x7 x8 x9 (.bool false) h10))
 (glyph_Out_Raw_J2 K m x0 h4)
def glyph_Out_Raw_S (K : V → H → Prop) (m : Nat) (a0 : V) (a1 : V) (h : H) : Prop :=
 X (pLenSl a1 h.get) h fun v1 h2 =>
 Lp m (fun N2 xs h => glyph_Out_Raw_B2 K m N2 (xs.getD 0 .undef) (xs.getD 1 .undef) (xs.getD 2 .undef) (xs.getD 3 .undef) h) [a0, a1, v1, (.int .i64 0)] h2
def glyph_Out_Raw_kp : Nat → List Nat := kpOf [(2, [0, 7, 8, 9])]
theorem glyph_Out_Raw_E (K : V → H → Prop) (a0 : V) (a1 : V) (h : H) : EF Try.prog Try.f63 glyph_Out_Raw_kp [a0, a1] h K = glyph_Out_Raw_S K h.n a0 a1 h := by kernel_rfl
set_option maxRecDepth 100000 in
theorem glyph_Out_Raw_tr {m n1 : Nat} {b0 b1 : List (Nat × Blk)} {res : V} {a0 : V} {a1 : V} (hk : ∀ q ∈ b1, q.1 < n1) (h : glyph_Out_Raw_S (FinT ⟨id_glyph_Out_Raw, [a0, a1], b0, m, res, b1, n1⟩) m a0 a1 ⟨b0, m⟩) : TrOk Try.prog ⟨id_glyph_Out_Raw, [a0, a1], b0, m, res, b1, n1⟩ :=
 tr_of_EF (fn := Try.f63) (kp := glyph_Out_Raw_kp) Try.func63 (by kernel_rfl) (Nat.le_of_ble_eq_true (by kernel_rfl)) hk (Eq.mpr (glyph_Out_Raw_E (FinT ⟨id_glyph_Out_Raw, [a0, a1], b0, m, res, b1, n1⟩) a0 a1 ⟨b0, m⟩) h)

/-! ### (*hypogeum/glyph.In).Raw (f64) -/
def glyph_In_Raw_R0 (K : V → H → Prop) (m : Nat) (x0 : V) (x1 : V) (x6 : V) (h : H) : Prop :=
 Sp x6 (
 K .nils h)
 (X (pBin .lss x1 (.int .i64 0)) h fun v3 h4 =>
 Sp v3 (
 ECall Try.prog id_glyph_In_fail [x0, (.int .i64 1)] h4 fun v5 h6 =>
 K .nils h6)
 (X (pNil x0 h4.get) h4 fun v7 h8 =>
 X (pFieldAddr 0 v7 h8.get) h8 fun v9 h10 =>
 X (pLoad false 1 v9 h10.get) h10 fun v11 h12 =>
 X (pLenSl v11 h12.get) h12 fun v13 h14 =>
 X (pBin .gtr x1 v13) h14 fun v15 h16 =>
 Sp v15 (
 ECall Try.prog id_glyph_In_fail [x0, (.int .i64 3)] h16 fun v17 h18 =>
 K .nils h18)
 (X (pNil x0 h16.get) h16 fun v19 h20 =>
 X (pFieldAddr 0 v19 h20.get) h20 fun v21 h22 =>
 X (pLoad false 1 v21 h22.get) h22 fun v23 h24 =>
 X (pSliceSl 1 v23 none (some x1) h24.get) h24 fun v25 h26 =>
 ECall Try.prog id_bytes_Clone [v25] h26 fun v27 h28 =>
 X (pNil x0 h28.get) h28 fun v29 h30 =>
 X (pFieldAddr 0 v29 h30.get) h30 fun v31 h32 =>
 X (pLoad false 1 v31 h32.get) h32 fun v33 h34 =>
 X (pSliceSl 1 v33 (some x1) none h34.get) h34 fun v35 h36 =>
 X (pNil x0 h36.get) h36 fun v37 h38 =>
 X (pFieldAddr 0 v37 h38.get) h38 fun v39 h40 =>
 X (pStore false 1 v39 v35 h40.get) h40 fun v41 h42 =>
 K v27 h42)))
def glyph_In_Raw_S (K : V → H → Prop) (m : Nat) (a0 : V) (a1 : V) (h : H) : Prop :=
 X (pNot false (veqN h.get .ptr a0 .nilp)) h fun v1 h2 =>
 Sp v1 (
 True ∧
 glyph_In_Raw_R0 K m a0 a1 (.bool true) h2)
 (X (pNil a0 h2.get) h2 fun v43 h44 =>
 X (pFieldAddr 1 v43 h44.get) h44 fun v45 h46 =>
 X (pLoad false 1 v45 h46.get) h46 fun v47 h48 =>
 X (pNot true (veqI v47 (.int .i64 0))) h48 fun v49 h50 =>
 True ∧
 glyph_In_Raw_R0 K m a0 a1 v49 h50)
def glyph_In_Raw_kp : Nat → List Nat := kpOf []
theorem glyph_In_Raw_E (K : V → H → Prop) (a0 : V) (a1 : V) (h : H) : EF Try.prog Try.f64 glyph_In_Raw_kp [a0, a1] h K = glyph_In_Raw_S K h.n a0 a1 h := by kernel_rfl
set_option maxRecDepth 100000 in
theorem glyph_In_Raw_tr {m n1 : Nat} {b0 b1 : List (Nat × Blk)} {res : V} {a0 : V} {a1 : V} (hk : ∀ q ∈ b1, q.1 < n1) (h : glyph_In_Raw_S (FinT ⟨id_glyph_In_Raw, [a0, a1], b0, m, res, b1, n1⟩) m a0 a1 ⟨b0, m⟩) : TrOk Try.prog ⟨id_glyph_In_Raw, [a0, a1], b0, m, res, b1, n1⟩ :=
 tr_of_EF (fn := Try.f64) (kp := glyph_In_Raw_kp) Try.func64 (by kernel_rfl) (Nat.le_of_ble_eq_true (by kernel_rfl)) hk (Eq.mpr (glyph_In_Raw_E (FinT ⟨id_glyph_In_Raw, [a0, a1], b0, m, res, b1, n1⟩) a0 a1 ⟨b0, m⟩) h)

end Go.Proofs.Ytmgjmdlmnbjaiaa.A
