/- Part of the proof: what functions of the program do, step by step. No condition of its own. -/
import Derived.Test.YtmgjmdlmnbjaiaaMd
import Derived.Test.YtmgjmdlmnbjaiaaSI
import Derived.KernelRfl
set_option linter.unusedVariables false
namespace Go.Proofs.Ytmgjmdlmnbjaiaa.A
open Go Go.AM
/-! ### hypogeum/node.Check (f12) -/
def node_Check_R0 (K : V → H → Prop) (m : Nat) (x8 : V) (h : H) : Prop :=
 Sp x8 (
 K (.int .i64 2) h)
 (K (.int .i64 0) h)
def node_Check_S (K : V → H → Prop) (m : Nat) (a0 : V) (h : H) : Prop :=
 X (pBox a0 h.n) h fun v1 h2 =>
 X (pFieldAddr 0 v1 h2.get) h2 fun v3 h4 =>
 X (pLoad false 1 v3 h4.get) h4 fun v5 h6 =>
 ECall Try.prog id_node_IsName [v5] h6 fun v7 h8 =>
 X (pUn .not v7) h8 fun v9 h10 =>
 Sp v9 (
 K (.int .i64 5) h10)
 (X (pFieldAddr 2 v1 h10.get) h10 fun v11 h12 =>
 X (pLoad false 1 v11 h12.get) h12 fun v13 h14 =>
 ECall Try.prog id_node_within [v13, (.int .i64 0), (.int .i64 4095)] h14 fun v15 h16 =>
 X (pUn .not v15) h16 fun v17 h18 =>
 Sp v17 (
 True ∧
 True ∧
 node_Check_R0 K m (.bool true) h18)
 (X (pFieldAddr 3 v1 h18.get) h18 fun v19 h20 =>
 X (pLoad false 1 v19 h20.get) h20 fun v21 h22 =>
 ECall Try.prog id_node_within [v21, (.int .i64 0), (.int .i64 1099511627776)] h22 fun v23 h24 =>
 X (pUn .not v23) h24 fun v25 h26 =>
 True ∧
 Sp v25 (
 True ∧
 node_Check_R0 K m (.bool true) h26)
 (X (pLoad true 39 v1 h26.get) h26 fun v27 h28 =>
 ECall Try.prog id_node_Node_fits [v27] h28 fun v29 h30 =>
 X (pUn .not v29) h30 fun v31 h32 =>
 True ∧
 node_Check_R0 K m v31 h32)))
def node_Check_kp : Nat → List Nat := kpOf []
theorem node_Check_E (K : V → H → Prop) (a0 : V) (h : H) : EF Try.prog Try.f12 node_Check_kp [a0] h K = node_Check_S K h.n a0 h := by kernel_rfl
set_option maxRecDepth 100000 in
theorem node_Check_tr {m n1 : Nat} {b0 b1 : List (Nat × Blk)} {res : V} {a0 : V} (hk : ∀ q ∈ b1, q.1 < n1) (h : node_Check_S (FinT ⟨id_node_Check, [a0], b0, m, res, b1, n1⟩) m a0 ⟨b0, m⟩) : TrOk Try.prog ⟨id_node_Check, [a0], b0, m, res, b1, n1⟩ :=
 tr_of_EF (fn := Try.f12) (kp := node_Check_kp) Try.func12 (by kernel_rfl) (Nat.le_of_ble_eq_true (by kernel_rfl)) hk (Eq.mpr (node_Check_E (FinT ⟨id_node_Check, [a0], b0, m, res, b1, n1⟩) a0 ⟨b0, m⟩) h)

/-! ### hypogeum/hypogeumref07.Check (f13) -/
def ref07_Check_J2 (K : V → H → Prop) (m : Nat) (x3 : V) (h : H) : Prop :=
 X (pUn .not x3) h fun v77 h78 =>
 Sp v77 (
 K (.int .i64 2) h78)
 (K (.int .i64 0) h78)
def ref07_Check_R0 (K : V → H → Prop) (m : Nat) (x1 : V) (x25 : V) (h : H) : Prop :=
 Sp x25 (
 K (.int .i64 2) h)
 (X (pFieldAddr 1 x1 h.get) h fun v17 h18 =>
 X (pLoad false 1 v17 h18.get) h18 fun v19 h20 =>
 X (pNot false (veqI v19 (.int .i64 0))) h20 fun v21 h22 =>
 Sp v21 (
 X (pFieldAddr 5 x1 h22.get) h22 fun v23 h24 =>
 X (pLoad false 1 v23 h24.get) h24 fun v25 h26 =>
 X (pNot false (veqS v25 (.str []))) h26 fun v27 h28 =>
 Sp v27 (
 X (pFieldAddr 7 x1 h28.get) h28 fun v29 h30 =>
 X (pLoad true 32 v29 h30.get) h30 fun v31 h32 =>
 X (pBuild (some [.byt 32 (List.replicate 32 0)]) []) h32 fun v33 h34 =>
 X (pNot false (veqA 32 v31 v33)) h34 fun v35 h36 =>
 True ∧
 Sp v35 (
 X (pFieldAddr 4 x1 h36.get) h36 fun v37 h38 =>
 X (pLoad false 1 v37 h38.get) h38 fun v39 h40 =>
 X (pBin .geq v39 (.int .i64 0)) h40 fun v41 h42 =>
 True ∧
 Sp v41 (
 X (pFieldAddr 4 x1 h42.get) h42 fun v43 h44 =>
 X (pLoad false 1 v43 h44.get) h44 fun v45 h46 =>
 X (pBin .leq v45 (.int .i64 1048576)) h46 fun v47 h48 =>
 True ∧
 Sp v47 (
 X (pFieldAddr 6 x1 h48.get) h48 fun v49 h50 =>
 X (pLoad false 1 v49 h50.get) h50 fun v51 h52 =>
 X (pLenSl v51 h52.get) h52 fun v53 h54 =>
 X (pFieldAddr 4 x1 h54.get) h54 fun v55 h56 =>
 X (pLoad false 1 v55 h56.get) h56 fun v57 h58 =>
 X (pBin .leq v53 v57) h58 fun v59 h60 =>
 True ∧
 Sp v59 (
 X (pFieldAddr 6 x1 h60.get) h60 fun v61 h62 =>
 X (pLoad false 1 v61 h62.get) h62 fun v63 h64 =>
 X (pLenSl v63 h64.get) h64 fun v65 h66 =>
 X (pNot false (veqI v65 (.int .i64 0))) h66 fun v67 h68 =>
 X (pFieldAddr 4 x1 h68.get) h68 fun v69 h70 =>
 X (pLoad false 1 v69 h70.get) h70 fun v71 h72 =>
 X (pNot false (veqI v71 (.int .i64 0))) h72 fun v73 h74 =>
 X (pNot false (veqB v67 v73)) h74 fun v75 h76 =>
 True ∧
 ref07_Check_J2 K m v75 h76)
 (True ∧
 ref07_Check_J2 K m (.bool false) h60))
 (True ∧
 True ∧
 ref07_Check_J2 K m (.bool false) h48))
 (True ∧
 True ∧
 True ∧
 ref07_Check_J2 K m (.bool false) h42))
 (True ∧
 True ∧
 True ∧
 True ∧
 ref07_Check_J2 K m (.bool false) h36))
 (True ∧
 True ∧
 True ∧
 True ∧
 True ∧
 ref07_Check_J2 K m (.bool false) h28))
 (X (pNot false (veqI v19 (.int .i64 1))) h22 fun v79 h80 =>
 Sp v79 (
 X (pFieldAddr 5 x1 h80.get) h80 fun v81 h82 =>
 X (pLoad false 1 v81 h82.get) h82 fun v83 h84 =>
 X (pNot false (veqS v83 (.str []))) h84 fun v85 h86 =>
 Sp v85 (
 X (pFieldAddr 6 x1 h86.get) h86 fun v87 h88 =>
 X (pLoad false 1 v87 h88.get) h88 fun v89 h90 =>
 X (pLenSl v89 h90.get) h90 fun v91 h92 =>
 X (pNot false (veqI v91 (.int .i64 0))) h92 fun v93 h94 =>
 True ∧
 Sp v93 (
 X (pFieldAddr 4 x1 h94.get) h94 fun v95 h96 =>
 X (pLoad false 1 v95 h96.get) h96 fun v97 h98 =>
 X (pNot false (veqI v97 (.int .i64 0))) h98 fun v99 h100 =>
 True ∧
 ref07_Check_J2 K m v99 h100)
 (True ∧
 ref07_Check_J2 K m (.bool false) h94))
 (True ∧
 True ∧
 ref07_Check_J2 K m (.bool false) h86))
 (X (pNot false (veqI v19 (.int .i64 2))) h80 fun v101 h102 =>
 Sp v101 (
 X (pFieldAddr 5 x1 h102.get) h102 fun v103 h104 =>
 X (pLoad false 1 v103 h104.get) h104 fun v105 h106 =>
 X (pLenStr v105) h106 fun v107 h108 =>
 X (pBin .geq v107 (.int .i64 1)) h108 fun v109 h110 =>
 Sp v109 (
 X (pFieldAddr 5 x1 h110.get) h110 fun v111 h112 =>
 X (pLoad false 1 v111 h112.get) h112 fun v113 h114 =>
 X (pLenStr v113) h114 fun v115 h116 =>
 X (pBin .leq v115 (.int .i64 4095)) h116 fun v117 h118 =>
 True ∧
 Sp v117 (
 X (pFieldAddr 6 x1 h118.get) h118 fun v119 h120 =>
 X (pLoad false 1 v119 h120.get) h120 fun v121 h122 =>
 X (pLenSl v121 h122.get) h122 fun v123 h124 =>
 X (pNot false (veqI v123 (.int .i64 0))) h124 fun v125 h126 =>
 True ∧
 Sp v125 (
 X (pFieldAddr 4 x1 h126.get) h126 fun v127 h128 =>
 X (pLoad false 1 v127 h128.get) h128 fun v129 h130 =>
 X (pNot false (veqI v129 (.int .i64 0))) h130 fun v131 h132 =>
 True ∧
 Sp v131 (
 X (pFieldAddr 7 x1 h132.get) h132 fun v133 h134 =>
 X (pLoad true 32 v133 h134.get) h134 fun v135 h136 =>
 X (pBuild (some [.byt 32 (List.replicate 32 0)]) []) h136 fun v137 h138 =>
 X (pNot false (veqA 32 v135 v137)) h138 fun v139 h140 =>
 True ∧
 ref07_Check_J2 K m v139 h140)
 (True ∧
 ref07_Check_J2 K m (.bool false) h132))
 (True ∧
 True ∧
 ref07_Check_J2 K m (.bool false) h126))
 (True ∧
 True ∧
 True ∧
 ref07_Check_J2 K m (.bool false) h118))
 (True ∧
 True ∧
 True ∧
 True ∧
 ref07_Check_J2 K m (.bool false) h110))
 (ref07_Check_J2 K m (.bool false) h102))))
def ref07_Check_S (K : V → H → Prop) (m : Nat) (a0 : V) (h : H) : Prop :=
 X (pBox a0 h.n) h fun v1 h2 =>
 X (pFieldAddr 0 v1 h2.get) h2 fun v3 h4 =>
 X (pLoad false 1 v3 h4.get) h4 fun v5 h6 =>
 ECall Try.prog id_ref07_IsName [v5] h6 fun v7 h8 =>
 X (pUn .not v7) h8 fun v9 h10 =>
 Sp v9 (
 K (.int .i64 5) h10)
 (X (pFieldAddr 2 v1 h10.get) h10 fun v11 h12 =>
 X (pLoad false 1 v11 h12.get) h12 fun v13 h14 =>
 X (pBin .lss v13 (.int .i64 0)) h14 fun v15 h16 =>
 Sp v15 (
 True ∧
 True ∧
 True ∧
 ref07_Check_R0 K m v1 (.bool true) h16)
 (X (pFieldAddr 2 v1 h16.get) h16 fun v141 h142 =>
 X (pLoad false 1 v141 h142.get) h142 fun v143 h144 =>
 X (pBin .gtr v143 (.int .i64 4095)) h144 fun v145 h146 =>
 True ∧
 Sp v145 (
 True ∧
 True ∧
 ref07_Check_R0 K m v1 (.bool true) h146)
 (X (pFieldAddr 3 v1 h146.get) h146 fun v147 h148 =>
 X (pLoad false 1 v147 h148.get) h148 fun v149 h150 =>
 X (pBin .lss v149 (.int .i64 0)) h150 fun v151 h152 =>
 True ∧
 Sp v151 (
 True ∧
 ref07_Check_R0 K m v1 (.bool true) h152)
 (X (pFieldAddr 3 v1 h152.get) h152 fun v153 h154 =>
 X (pLoad false 1 v153 h154.get) h154 fun v155 h156 =>
 X (pBin .gtr v155 (.int .i64 1099511627776)) h156 fun v157 h158 =>
 True ∧
 ref07_Check_R0 K m v1 v157 h158))))
def ref07_Check_kp : Nat → List Nat := kpOf []
theorem ref07_Check_E (K : V → H → Prop) (a0 : V) (h : H) : EF Try.prog Try.f13 ref07_Check_kp [a0] h K = ref07_Check_S K h.n a0 h := by kernel_rfl
set_option maxRecDepth 100000 in
theorem ref07_Check_tr {m n1 : Nat} {b0 b1 : List (Nat × Blk)} {res : V} {a0 : V} (hk : ∀ q ∈ b1, q.1 < n1) (h : ref07_Check_S (FinT ⟨id_ref07_Check, [a0], b0, m, res, b1, n1⟩) m a0 ⟨b0, m⟩) : TrOk Try.prog ⟨id_ref07_Check, [a0], b0, m, res, b1, n1⟩ :=
 tr_of_EF (fn := Try.f13) (kp := ref07_Check_kp) Try.func13 (by kernel_rfl) (Nat.le_of_ble_eq_true (by kernel_rfl)) hk (Eq.mpr (ref07_Check_E (FinT ⟨id_ref07_Check, [a0], b0, m, res, b1, n1⟩) a0 ⟨b0, m⟩) h)

/-! ### hypogeum/node.IsName (f14) -/
def node_IsName_R0 (K : V → H → Prop) (m : Nat) (x2 : V) (h : H) : Prop :=
 K x2 h
def node_IsName_S (K : V → H → Prop) (m : Nat) (a0 : V) (h : H) : Prop :=
 X (pNot true (veqS a0 (.str []))) h fun v1 h2 =>
 Sp v1 (
 X (pLenStr a0) h2 fun v3 h4 =>
 X (pBin .leq v3 (.int .i64 255)) h4 fun v5 h6 =>
 True ∧
 Sp v5 (
 X (pNot true (veqS a0 (.str [46]))) h6 fun v7 h8 =>
 True ∧
 Sp v7 (
 X (pNot true (veqS a0 (.str [46, 46]))) h8 fun v9 h10 =>
 True ∧
 Sp v9 (
 ECall Try.prog id_strings_ContainsAny [a0, (.str [47, 0])] h10 fun v11 h12 =>
 X (pUn .not v11) h12 fun v13 h14 =>
 True ∧
 node_IsName_R0 K m v13 h14)
 (True ∧
 node_IsName_R0 K m (.bool false) h10))
 (True ∧
 True ∧
 node_IsName_R0 K m (.bool false) h8))
 (True ∧
 True ∧
 True ∧
 node_IsName_R0 K m (.bool false) h6))
 (True ∧
 True ∧
 True ∧
 True ∧
 node_IsName_R0 K m (.bool false) h2)
def node_IsName_kp : Nat → List Nat := kpOf []
theorem node_IsName_E (K : V → H → Prop) (a0 : V) (h : H) : EF Try.prog Try.f14 node_IsName_kp [a0] h K = node_IsName_S K h.n a0 h := by kernel_rfl
set_option maxRecDepth 100000 in
theorem node_IsName_tr {m n1 : Nat} {b0 b1 : List (Nat × Blk)} {res : V} {a0 : V} (hk : ∀ q ∈ b1, q.1 < n1) (h : node_IsName_S (FinT ⟨id_node_IsName, [a0], b0, m, res, b1, n1⟩) m a0 ⟨b0, m⟩) : TrOk Try.prog ⟨id_node_IsName, [a0], b0, m, res, b1, n1⟩ :=
 tr_of_EF (fn := Try.f14) (kp := node_IsName_kp) Try.func14 (by kernel_rfl) (Nat.le_of_ble_eq_true (by kernel_rfl)) hk (Eq.mpr (node_IsName_E (FinT ⟨id_node_IsName, [a0], b0, m, res, b1, n1⟩) a0 ⟨b0, m⟩) h)

/-! ### hypogeum/hypogeumref07.IsName (f15) -/
def ref07_IsName_R1 (K : V → H → Prop) (m : Nat) (N4 : List V → H → Prop) (x0 : V) (x3 : V) (x34 : V) (h : H) : Prop :=
 Sp x34 (
 K (.bool false) h)
 (X (pBin .add x3 (.int .i64 1)) h fun v11 h12 =>
 N4 [x0, v11] h12)
def ref07_IsName_J2 (K : V → H → Prop) (m : Nat) (h : H) : Prop :=
 K (.bool true) h
def ref07_IsName_B4 (K : V → H → Prop) (m : Nat) (N4 : List V → H → Prop) (x0 : V) (x3 : V) (h : H) : Prop :=
 X (pLenStr x0) h fun v3 h4 =>
 X (pBin .lss x3 v3) h4 fun v5 h6 =>
 Sp v5 (
 X (pIndexStr x0 x3) h6 fun v7 h8 =>
 X (pNot false (veqI v7 (.int .u8 47))) h8 fun v9 h10 =>
 Sp v9 (
 True ∧
 ref07_IsName_R1 K m N4 x0 x3 (.bool true) h10)
 (X (pIndexStr x0 x3) h10 fun v13 h14 =>
 X (pNot false (veqI v13 (.int .u8 0))) h14 fun v15 h16 =>
 True ∧
 ref07_IsName_R1 K m N4 x0 x3 v15 h16))
 (ref07_IsName_J2 K m h6)
def ref07_IsName_R0 (K : V → H → Prop) (m : Nat) (x0 : V) (x18 : V) (h : H) : Prop :=
 Sp x18 (
 K (.bool false) h)
 (Lp m (fun N4 xs h => ref07_IsName_B4 K m N4 (xs.getD 0 .undef) (xs.getD 1 .undef) h) [x0, (.int .i64 0)] h)
def ref07_IsName_S (K : V → H → Prop) (m : Nat) (a0 : V) (h : H) : Prop :=
 X (pNot false (veqS a0 (.str []))) h fun v1 h2 =>
 Sp v1 (
 True ∧
 True ∧
 True ∧
 ref07_IsName_R0 K m a0 (.bool true) h2)
 (X (pLenStr a0) h2 fun v17 h18 =>
 X (pBin .gtr v17 (.int .i64 255)) h18 fun v19 h20 =>
 True ∧
 Sp v19 (
 True ∧
 True ∧
 ref07_IsName_R0 K m a0 (.bool true) h20)
 (X (pNot false (veqS a0 (.str [46]))) h20 fun v21 h22 =>
 True ∧
 Sp v21 (
 True ∧
 ref07_IsName_R0 K m a0 (.bool true) h22)
 (X (pNot false (veqS a0 (.str [46, 46]))) h22 fun v23 h24 =>
 True ∧
 ref07_IsName_R0 K m a0 v23 h24)))
def ref07_IsName_kp : Nat → List Nat := kpOf [(4, [0, 3])]
theorem ref07_IsName_E (K : V → H → Prop) (a0 : V) (h : H) : EF Try.prog Try.f15 ref07_IsName_kp [a0] h K = ref07_IsName_S K h.n a0 h := by kernel_rfl
set_option maxRecDepth 100000 in
theorem ref07_IsName_tr {m n1 : Nat} {b0 b1 : List (Nat × Blk)} {res : V} {a0 : V} (hk : ∀ q ∈ b1, q.1 < n1) (h : ref07_IsName_S (FinT ⟨id_ref07_IsName, [a0], b0, m, res, b1, n1⟩) m a0 ⟨b0, m⟩) : TrOk Try.prog ⟨id_ref07_IsName, [a0], b0, m, res, b1, n1⟩ :=
 tr_of_EF (fn := Try.f15) (kp := ref07_IsName_kp) Try.func15 (by kernel_rfl) (Nat.le_of_ble_eq_true (by kernel_rfl)) hk (Eq.mpr (ref07_IsName_E (FinT ⟨id_ref07_IsName, [a0], b0, m, res, b1, n1⟩) a0 ⟨b0, m⟩) h)

/-! ### hypogeum/node.within (f26) -/
def node_within_R0 (K : V → H → Prop) (m : Nat) (x6 : V) (h : H) : Prop :=
 K x6 h
def node_within_S (K : V → H → Prop) (m : Nat) (a0 : V) (a1 : V) (a2 : V) (h : H) : Prop :=
 X (pBin .geq a0 a1) h fun v1 h2 =>
 Sp v1 (
 X (pBin .leq a0 a2) h2 fun v3 h4 =>
 True ∧
 node_within_R0 K m v3 h4)
 (True ∧
 node_within_R0 K m (.bool false) h2)
def node_within_kp : Nat → List Nat := kpOf []
theorem node_within_E (K : V → H → Prop) (a0 : V) (a1 : V) (a2 : V) (h : H) : EF Try.prog Try.f26 node_within_kp [a0, a1, a2] h K = node_within_S K h.n a0 a1 a2 h := by kernel_rfl
set_option maxRecDepth 100000 in
theorem node_within_tr {m n1 : Nat} {b0 b1 : List (Nat × Blk)} {res : V} {a0 : V} {a1 : V} {a2 : V} (hk : ∀ q ∈ b1, q.1 < n1) (h : node_within_S (FinT ⟨id_node_within, [a0, a1, a2], b0, m, res, b1, n1⟩) m a0 a1 a2 ⟨b0, m⟩) : TrOk Try.prog ⟨id_node_within, [a0, a1, a2], b0, m, res, b1, n1⟩ :=
 tr_of_EF (fn := Try.f26) (kp := node_within_kp) Try.func26 (by kernel_rfl) (Nat.le_of_ble_eq_true (by kernel_rfl)) hk (Eq.mpr (node_within_E (FinT ⟨id_node_within, [a0, a1, a2], b0, m, res, b1, n1⟩) a0 a1 a2 ⟨b0, m⟩) h)

/-! ### (hypogeum/node.Node).fits (f27) -/
def node_Node_fits_R1 (K : V → H → Prop) (m : Nat) (x2 : V) (h : H) : Prop :=
 K x2 h
def node_Node_fits_R2 (K : V → H → Prop) (m : Nat) (x2 : V) (h : H) : Prop :=
 K x2 h
def node_Node_fits_R3 (K : V → H → Prop) (m : Nat) (x2 : V) (h : H) : Prop :=
 K x2 h
def node_Node_fits_R0 (K : V → H → Prop) (m : Nat) (x1 : V) (x3 : V) (h : H) : Prop :=
 X (pFieldAddr 1 x1 h.get) h fun v17 h18 =>
 X (pLoad false 1 v17 h18.get) h18 fun v19 h20 =>
 X (pNot false (veqI v19 (.int .i64 0))) h20 fun v21 h22 =>
 Sp v21 (
 Sp x3 (
 X (pFieldAddr 4 x1 h22.get) h22 fun v23 h24 =>
 X (pLoad false 1 v23 h24.get) h24 fun v25 h26 =>
 ECall Try.prog id_node_within [v25, (.int .i64 0), (.int .i64 1048576)] h26 fun v27 h28 =>
 True ∧
 Sp v27 (
 X (pFieldAddr 6 x1 h28.get) h28 fun v29 h30 =>
 X (pLoad false 1 v29 h30.get) h30 fun v31 h32 =>
 X (pLenSl v31 h32.get) h32 fun v33 h34 =>
 X (pFieldAddr 4 x1 h34.get) h34 fun v35 h36 =>
 X (pLoad false 1 v35 h36.get) h36 fun v37 h38 =>
 X (pBin .leq v33 v37) h38 fun v39 h40 =>
 True ∧
 Sp v39 (
 X (pFieldAddr 6 x1 h40.get) h40 fun v41 h42 =>
 X (pLoad false 1 v41 h42.get) h42 fun v43 h44 =>
 X (pLenSl v43 h44.get) h44 fun v45 h46 =>
 X (pNot false (veqI v45 (.int .i64 0))) h46 fun v47 h48 =>
 X (pFieldAddr 4 x1 h48.get) h48 fun v49 h50 =>
 X (pLoad false 1 v49 h50.get) h50 fun v51 h52 =>
 X (pNot false (veqI v51 (.int .i64 0))) h52 fun v53 h54 =>
 X (pNot false (veqB v47 v53)) h54 fun v55 h56 =>
 True ∧
 node_Node_fits_R1 K m v55 h56)
 (True ∧
 node_Node_fits_R1 K m (.bool false) h40))
 (True ∧
 True ∧
 node_Node_fits_R1 K m (.bool false) h28))
 (True ∧
 True ∧
 True ∧
 node_Node_fits_R1 K m (.bool false) h22))
 (X (pNot false (veqI v19 (.int .i64 1))) h22 fun v57 h58 =>
 Sp v57 (
 X (pFieldAddr 5 x1 h58.get) h58 fun v59 h60 =>
 X (pLoad false 1 v59 h60.get) h60 fun v61 h62 =>
 X (pNot false (veqS v61 (.str []))) h62 fun v63 h64 =>
 Sp v63 (
 X (pFieldAddr 6 x1 h64.get) h64 fun v65 h66 =>
 X (pLoad false 1 v65 h66.get) h66 fun v67 h68 =>
 X (pLenSl v67 h68.get) h68 fun v69 h70 =>
 X (pNot false (veqI v69 (.int .i64 0))) h70 fun v71 h72 =>
 True ∧
 Sp v71 (
 X (pFieldAddr 4 x1 h72.get) h72 fun v73 h74 =>
 X (pLoad false 1 v73 h74.get) h74 fun v75 h76 =>
 X (pNot false (veqI v75 (.int .i64 0))) h76 fun v77 h78 =>
 True ∧
 node_Node_fits_R2 K m v77 h78)
 (True ∧
 node_Node_fits_R2 K m (.bool false) h72))
 (True ∧
 True ∧
 node_Node_fits_R2 K m (.bool false) h64))
 (X (pNot false (veqI v19 (.int .i64 2))) h58 fun v79 h80 =>
 Sp v79 (
 X (pFieldAddr 5 x1 h80.get) h80 fun v81 h82 =>
 X (pLoad false 1 v81 h82.get) h82 fun v83 h84 =>
 X (pLenStr v83) h84 fun v85 h86 =>
 ECall Try.prog id_node_within [v85, (.int .i64 1), (.int .i64 4095)] h86 fun v87 h88 =>
 Sp v87 (
 X (pFieldAddr 6 x1 h88.get) h88 fun v89 h90 =>
 X (pLoad false 1 v89 h90.get) h90 fun v91 h92 =>
 X (pLenSl v91 h92.get) h92 fun v93 h94 =>
 X (pNot false (veqI v93 (.int .i64 0))) h94 fun v95 h96 =>
 True ∧
 Sp v95 (
 X (pFieldAddr 4 x1 h96.get) h96 fun v97 h98 =>
 X (pLoad false 1 v97 h98.get) h98 fun v99 h100 =>
 X (pNot false (veqI v99 (.int .i64 0))) h100 fun v101 h102 =>
 True ∧
 Sp v101 (
 X (pFieldAddr 7 x1 h102.get) h102 fun v103 h104 =>
 X (pLoad true 32 v103 h104.get) h104 fun v105 h106 =>
 X (pBuild (some [.byt 32 (List.replicate 32 0)]) []) h106 fun v107 h108 =>
 X (pNot false (veqA 32 v105 v107)) h108 fun v109 h110 =>
 True ∧
 node_Node_fits_R3 K m v109 h110)
 (True ∧
 node_Node_fits_R3 K m (.bool false) h102))
 (True ∧
 True ∧
 node_Node_fits_R3 K m (.bool false) h96))
 (True ∧
 True ∧
 True ∧
 node_Node_fits_R3 K m (.bool false) h88))
 (K (.bool false) h80)))
def node_Node_fits_S (K : V → H → Prop) (m : Nat) (a0 : V) (h : H) : Prop :=
 X (pBox a0 h.n) h fun v1 h2 =>
 X (pFieldAddr 5 v1 h2.get) h2 fun v3 h4 =>
 X (pLoad false 1 v3 h4.get) h4 fun v5 h6 =>
 X (pNot false (veqS v5 (.str []))) h6 fun v7 h8 =>
 Sp v7 (
 X (pFieldAddr 7 v1 h8.get) h8 fun v9 h10 =>
 X (pLoad true 32 v9 h10.get) h10 fun v11 h12 =>
 X (pBuild (some [.byt 32 (List.replicate 32 0)]) []) h12 fun v13 h14 =>
 X (pNot false (veqA 32 v11 v13)) h14 fun v15 h16 =>
 True ∧
 node_Node_fits_R0 K m v1 v15 h16)
 (True ∧
 node_Node_fits_R0 K m v1 (.bool false) h8)
def node_Node_fits_kp : Nat → List Nat := kpOf []
theorem node_Node_fits_E (K : V → H → Prop) (a0 : V) (h : H) : EF Try.prog Try.f27 node_Node_fits_kp [a0] h K = node_Node_fits_S K h.n a0 h := by kernel_rfl
set_option maxRecDepth 100000 in
theorem node_Node_fits_tr {m n1 : Nat} {b0 b1 : List (Nat × Blk)} {res : V} {a0 : V} (hk : ∀ q ∈ b1, q.1 < n1) (h : node_Node_fits_S (FinT ⟨id_node_Node_fits, [a0], b0, m, res, b1, n1⟩) m a0 ⟨b0, m⟩) : TrOk Try.prog ⟨id_node_Node_fits, [a0], b0, m, res, b1, n1⟩ :=
 tr_of_EF (fn := Try.f27) (kp := node_Node_fits_kp) Try.func27 (by kernel_rfl) (Nat.le_of_ble_eq_true (by kernel_rfl)) hk (Eq.mpr (node_Node_fits_E (FinT ⟨id_node_Node_fits, [a0], b0, m, res, b1, n1⟩) a0 ⟨b0, m⟩) h)

/-! ### strings.ContainsAny (f28) -/
def strings_ContainsAny_S (K : V → H → Prop) (m : Nat) (a0 : V) (a1 : V) (h : H) : Prop :=
 ECall Try.prog id_strings_IndexAny [a0, a1] h fun v1 h2 =>
 X (pBin .geq v1 (.int .i64 0)) h2 fun v3 h4 =>
 K v3 h4
def strings_ContainsAny_kp : Nat → List Nat := kpOf []
theorem strings_ContainsAny_E (K : V → H → Prop) (a0 : V) (a1 : V) (h : H) : EF Try.prog Try.f28 strings_ContainsAny_kp [a0, a1] h K = strings_ContainsAny_S K h.n a0 a1 h := by kernel_rfl
set_option maxRecDepth 100000 in
theorem strings_ContainsAny_tr {m n1 : Nat} {b0 b1 : List (Nat × Blk)} {res : V} {a0 : V} {a1 : V} (hk : ∀ q ∈ b1, q.1 < n1) (h : strings_ContainsAny_S (FinT ⟨id_strings_ContainsAny, [a0, a1], b0, m, res, b1, n1⟩) m a0 a1 ⟨b0, m⟩) : TrOk Try.prog ⟨id_strings_ContainsAny, [a0, a1], b0, m, res, b1, n1⟩ :=
 tr_of_EF (fn := Try.f28) (kp := strings_ContainsAny_kp) Try.func28 (by kernel_rfl) (Nat.le_of_ble_eq_true (by kernel_rfl)) hk (Eq.mpr (strings_ContainsAny_E (FinT ⟨id_strings_ContainsAny, [a0, a1], b0, m, res, b1, n1⟩) a0 a1 ⟨b0, m⟩) h)

/-! ### strings.IndexAny (f48) -/
def strings_IndexAny_J0 (K : V → H → Prop) (m : Nat) (x0 : V) (x5 : V) (h : H) : Prop :=
 ECall Try.prog id_strings_IndexRune [x0, x5] h fun v13 h14 =>
 K v13 h14
def strings_IndexAny_J1 (K : V → H → Prop) (m : Nat) (h : H) : Prop :=
 K (.int .i64 (-1)) h
def strings_IndexAny_B12 (K : V → H → Prop) (m : Nat) (N12 : List V → H → Prop) (x0 : V) (x6 : V) (x8 : V) (h : H) : Prop :=
 X (pLenStr x0) h fun v29 h30 =>
 X (pBin .lss x8 v29) h30 fun v31 h32 =>
 Sp v31 (
 X (pIndexStr x0 x8) h32 fun v33 h34 =>
 ECall Try.prog id_strings_asciiSet_contains [x6, v33] h34 fun v35 h36 =>
 Sp v35 (
 K x8 h36)
 (X (pBin .add x8 (.int .i64 1)) h36 fun v37 h38 =>
 N12 [x0, x6, v37] h38))
 (strings_IndexAny_J1 K m h32)
def strings_IndexAny_J3 (K : V → H → Prop) (m : Nat) (x0 : V) (x1 : V) (h : H) : Prop :=
 False
def strings_IndexAny_S (K : V → H → Prop) (m : Nat) (a0 : V) (a1 : V) (h : H) : Prop :=
 X (pNot false (veqS a1 (.str []))) h fun v1 h2 =>
 Sp v1 (
 K (.int .i64 (-1)) h2)
 (X (pLenStr a1) h2 fun v3 h4 =>
 X (pNot false (veqI v3 (.int .i64 1))) h4 fun v5 h6 =>
 Sp v5 (
 X (pIndexStr a1 (.int .i64 0)) h6 fun v7 h8 =>
 X (pConv (.int .i32) v7 h8.get h8.n) h8 fun v9 h10 =>
 X (pBin .geq v9 (.int .i32 128)) h10 fun v11 h12 =>
 Sp v11 (
 strings_IndexAny_J0 K m a0 (.int .i32 65533) h12)
 (strings_IndexAny_J0 K m a0 v9 h12))
 (X (pLenStr a0) h6 fun v15 h16 =>
 ECall Try.prog id_strings_shouldUseASCIISet [v15] h16 fun v17 h18 =>
 Sp v17 (
 ECall Try.prog id_strings_makeASCIISet [a1] h18 fun v19 h20 =>
 X (pExtract v19 0) h20 fun v21 h22 =>
 X (pExtract v19 1) h22 fun v23 h24 =>
 X (pAlloc (some [.bool false, .bool false, .bool false, .bool false, .bool false, .bool false, .bool false, .bool false, .bool false, .bool false, .bool false, .bool false, .bool false, .bool false, .bool false, .bool false, .bool false, .bool false, .bool false, .bool false, .bool false, .bool false, .bool false, .bool false, .bool false, .bool false, .bool false, .bool false, .bool false, .bool false, .bool false, .bool false, .bool false, .bool false, .bool false, .bool false, .bool false, .bool false, .bool false, .bool false, .bool false, .bool false, .bool false, .bool false, .bool false, .bool false, .bool false, .bool false, .bool false, .bool false, .bool false, .bool false, .bool false, .bool false, .bool false, .bool false, .bool false, .bool false, .bool false, .bool false, .bool false, .bool false, .bool false, .bool false, .bool false, .bool false, .bool false, .bool false, .bool false, .bool false, .bool false, .bool false, .bool false, .bool false, .bool false, .bool false, .bool false, .bool false, .bool false, .bool false, .bool false, .bool false, .bool false, .bool false, .bool false, .bool false, .bool false, .bool false, .bool false, .bool false, .bool false, .bool false, .bool false, .bool false, .bool false, .bool false, .bool false, .bool false, .bool false, .bool false, .bool false, .bool false, .bool false, .bool false, .bool false, .bool false, .bool false, .bool false, .bool false, .bool false, .bool false, .bool false, .bool false, .bool false, .bool false, .bool false, .bool false, .bool false, .bool false, .bool false, .bool false, .bool false, .bool false, .bool false, .bool false, .bool false, .bool false, .bool false, .bool false, .bool false, .bool false, .bool false, .bool false, .bool false, .bool false, .bool false, .bool false, .bool false, .bool false, .bool false, .bool false, .bool false, .bool false, .bool false, .bool false, .bool false, .bool false, .bool false, .bool false, .bool false, .bool false, .bool false, .bool false, .bool false, .bool false, .bool false, .bool false, .bool false, .bool false, .bool false, .bool false, .bool false, .bool false, .bool false, .bool false, .bool false, .bool false, .bool false, .bool false, .bool false, .bool false, .bool false, .bool false, .bool false, .bool false, .bool false, .bool false, .bool false, .bool false, .bool false, .bool false, .bool false, .bool false, .bool false, .bool false, .bool false, .bool false, .bool false, .bool false, .bool false, .bool false, .bool false, .bool false, .bool false, .bool false, .bool false, .bool false, .bool false, .bool false, .bool false, .bool false, .bool false, .bool false, .bool false, .bool false, .bool false, .bool false, .bool false, .bool false, .bool false, .bool false, .bool false, .bool false, .bool false, .bool false, .bool false, .bool false, .bool false, .bool false, .bool false, .bool false, .bool false, .bool false, .bool false, .bool false, .bool false, .bool false, .bool false, .bool false, .bool false, .bool false, .bool false, .bool false, .bool false, .bool false, .bool false, .bool false, .bool false, .bool false, .bool false, .bool false, .bool false, .bool false, .bool false, .bool false, .bool false, .bool false, .bool false, .bool false, .bool false, .bool false, .bool false, .bool false, .bool false, .bool false, .bool false]) h24.n) h24 fun v25 h26 =>
 X (pStore true 256 v25 v21 h26.get) h26 fun v27 h28 =>
 Sp v23 (
 Lp m (fun N12 xs h => strings_IndexAny_B12 K m N12 (xs.getD 0 .undef) (xs.getD 1 .undef) (xs.getD 2 .undef) h) [a0, v25, (.int .i64 0)] h28)
 (strings_IndexAny_J3 K m a0 a1 h28))
 (strings_IndexAny_J3 K m a0 a1 h18)))
def strings_IndexAny_kp : Nat → List Nat := kpOf [(12, [0, 6, 8])]
theorem strings_IndexAny_E (K : V → H → Prop) (a0 : V) (a1 : V) (h : H) : EF Try.prog Try.f48 strings_IndexAny_kp [a0, a1] h K = strings_IndexAny_S K h.n a0 a1 h := by kernel_rfl
set_option maxRecDepth 100000 in
theorem strings_IndexAny_tr {m n1 : Nat} {b0 b1 : List (Nat × Blk)} {res : V} {a0 : V} {a1 : V} (hk : ∀ q ∈ b1, q.1 < n1) (h : strings_IndexAny_S (FinT ⟨id_strings_IndexAny, [a0, a1], b0, m, res, b1, n1⟩) m a0 a1 ⟨b0, m⟩) : TrOk Try.prog ⟨id_strings_IndexAny, [a0, a1], b0, m, res, b1, n1⟩ :=
 tr_of_EF (fn := Try.f48) (kp := strings_IndexAny_kp) Try.func48 (by kernel_rfl) (Nat.le_of_ble_eq_true (by kernel_rfl)) hk (Eq.mpr (strings_IndexAny_E (FinT ⟨id_strings_IndexAny, [a0, a1], b0, m, res, b1, n1⟩) a0 a1 ⟨b0, m⟩) h)

/-! ### internal/stringslite.IndexByte (f69) -/
def stringslite_IndexByte_S (K : V → H → Prop) (m : Nat) (a0 : V) (a1 : V) (h : H) : Prop :=
 ECall Try.prog id_bytealg_IndexByteString [a0, a1] h fun v1 h2 =>
 K v1 h2
def stringslite_IndexByte_kp : Nat → List Nat := kpOf []
theorem stringslite_IndexByte_E (K : V → H → Prop) (a0 : V) (a1 : V) (h : H) : EF Try.prog Try.f69 stringslite_IndexByte_kp [a0, a1] h K = stringslite_IndexByte_S K h.n a0 a1 h := by kernel_rfl
set_option maxRecDepth 100000 in
theorem stringslite_IndexByte_tr {m n1 : Nat} {b0 b1 : List (Nat × Blk)} {res : V} {a0 : V} {a1 : V} (hk : ∀ q ∈ b1, q.1 < n1) (h : stringslite_IndexByte_S (FinT ⟨id_stringslite_IndexByte, [a0, a1], b0, m, res, b1, n1⟩) m a0 a1 ⟨b0, m⟩) : TrOk Try.prog ⟨id_stringslite_IndexByte, [a0, a1], b0, m, res, b1, n1⟩ :=
 tr_of_EF (fn := Try.f69) (kp := stringslite_IndexByte_kp) Try.func69 (by kernel_rfl) (Nat.le_of_ble_eq_true (by kernel_rfl)) hk (Eq.mpr (stringslite_IndexByte_E (FinT ⟨id_stringslite_IndexByte, [a0, a1], b0, m, res, b1, n1⟩) a0 a1 ⟨b0, m⟩) h)

/-! ### slices.IndexFunc[[]hypogeum/node.Node,hypogeum/node.Node] (f36) -/
def slices_IndexFunc_J0 (K : V → H → Prop) (m : Nat) (h : H) : Prop :=
 K (.int .i64 (-1)) h
def slices_IndexFunc_B2 (K : V → H → Prop) (m : Nat) (N2 : List V → H → Prop) (x0 : V) (x1 : V) (x7 : V) (x8 : V) (h : H) : Prop :=
 X (pBin .lss x8 x7) h fun v3 h4 =>
 Sp v3 (
 X (pIndexSl 39 x0 x8 h4.get) h4 fun v5 h6 =>
 X (pLoad true 39 v5 h6.get) h6 fun v7 h8 =>
 FnC x1 fun f caps => ECall Try.prog f ([v7] ++ caps) h8 fun v9 h10 =>
 Sp v9 (
 K x8 h10)
 (X (pBin .add x8 (.int .i64 1)) h10 fun v11 h12 =>
 N2 [x0, x1, x7, v11] h12))
 (slices_IndexFunc_J0 K m h4)
def slices_IndexFunc_S (K : V → H → Prop) (m : Nat) (a0 : V) (a1 : V) (h : H) : Prop :=
 X (pLenSl a0 h.get) h fun v1 h2 =>
 Lp m (fun N2 xs h => slices_IndexFunc_B2 K m N2 (xs.getD 0 .undef) (xs.getD 1 .undef) (xs.getD 2 .undef) (xs.getD 3 .undef) h) [a0, a1, v1, (.int .i64 0)] h2
def slices_IndexFunc_kp : Nat → List Nat := kpOf [(2, [0, 1, 7, 8])]
theorem slices_IndexFunc_E (K : V → H → Prop) (a0 : V) (a1 : V) (h : H) : EF Try.prog Try.f36 slices_IndexFunc_kp [a0, a1] h K = slices_IndexFunc_S K h.n a0 a1 h := by kernel_rfl
set_option maxRecDepth 100000 in
theorem slices_IndexFunc_tr {m n1 : Nat} {b0 b1 : List (Nat × Blk)} {res : V} {a0 : V} {a1 : V} (hk : ∀ q ∈ b1, q.1 < n1) (h : slices_IndexFunc_S (FinT ⟨id_slices_IndexFunc, [a0, a1], b0, m, res, b1, n1⟩) m a0 a1 ⟨b0, m⟩) : TrOk Try.prog ⟨id_slices_IndexFunc, [a0, a1], b0, m, res, b1, n1⟩ :=
 tr_of_EF (fn := Try.f36) (kp := slices_IndexFunc_kp) Try.func36 (by kernel_rfl) (Nat.le_of_ble_eq_true (by kernel_rfl)) hk (Eq.mpr (slices_IndexFunc_E (FinT ⟨id_slices_IndexFunc, [a0, a1], b0, m, res, b1, n1⟩) a0 a1 ⟨b0, m⟩) h)

/-! ### hypogeum/node.Find$1 (f37) -/
def node_Find_1_S (K : V → H → Prop) (m : Nat) (a0 : V) (a1 : V) (h : H) : Prop :=
 X (pBox a0 h.n) h fun v1 h2 =>
 X (pFieldAddr 0 v1 h2.get) h2 fun v3 h4 =>
 X (pLoad false 1 v3 h4.get) h4 fun v5 h6 =>
 X (pLoad false 1 a1 h6.get) h6 fun v7 h8 =>
 X (pNot false (veqS v5 v7)) h8 fun v9 h10 =>
 K v9 h10
def node_Find_1_kp : Nat → List Nat := kpOf []
theorem node_Find_1_E (K : V → H → Prop) (a0 : V) (a1 : V) (h : H) : EF Try.prog Try.f37 node_Find_1_kp [a0, a1] h K = node_Find_1_S K h.n a0 a1 h := by kernel_rfl
set_option maxRecDepth 100000 in
theorem node_Find_1_tr {m n1 : Nat} {b0 b1 : List (Nat × Blk)} {res : V} {a0 : V} {a1 : V} (hk : ∀ q ∈ b1, q.1 < n1) (h : node_Find_1_S (FinT ⟨id_node_Find_1, [a0, a1], b0, m, res, b1, n1⟩) m a0 a1 ⟨b0, m⟩) : TrOk Try.prog ⟨id_node_Find_1, [a0, a1], b0, m, res, b1, n1⟩ :=
 tr_of_EF (fn := Try.f37) (kp := node_Find_1_kp) Try.func37 (by kernel_rfl) (Nat.le_of_ble_eq_true (by kernel_rfl)) hk (Eq.mpr (node_Find_1_E (FinT ⟨id_node_Find_1, [a0, a1], b0, m, res, b1, n1⟩) a0 a1 ⟨b0, m⟩) h)

end Go.Proofs.Ytmgjmdlmnbjaiaa.A
