/- The machine in use: rules for its steps, and how arguments are read. Part of the proof; no condition of its own. -/
import Derived.Test.YtmgjmdlmnbjaiaaMd
import Derived.SizedLaws
import Derived.ChangeOld
import Derived.DataReads

section
/- AM in use, part 0: the operations' rules fire where their values are known (printed by genu.py). -/
set_option linter.unusedVariables false
namespace Go.AM
/-- Is it no variable? -/
@[reducible] def known : V → Bool
  | .undef => true
  | .int _ _ => true
  | .bool _ => true
  | .str _ => true
  | .nils => true
  | .nilp => true
  | .nilm => true
  | .nilf => true
  | .arr _ _ _ => true
  | .byt _ _ => true
  | .slb _ _ => true
  | .sli _ _ _ => true
  | .sls _ _ => true
  | .sle _ _ _ => true
  | .pat _ _ _ => true
  | .agg _ => true
  | .tup _ => true
  | .fn _ _ => true
  | .ref _ _ _ => true
  | .own _ _ _ _ => true
  | .eref _ _ _ _ _ => true
  | .vsl _ _ _ _ => true
  | .mp _ => true
@[reducible] def knownL : List V → Bool
  | [] => true
  | v :: l => known v && knownL l
@[reducible] def knownP : List (Nat × Nat × V) → Bool
  | [] => true
  | q :: l => known q.2.2 && knownP l
@[reducible] def knownO : Option V → Bool
  | none => true
  | some v => known v
def knownB : Option Bool → Bool
  | none => true
  | some _ => true
def pBoxU (v : V) (n : Nat) : R := match segsOf v with
  | some e => .ok True (.ref n 0 0) [(n, some (.var e))] 1
  | none => .fail
theorem pBox_k (v : V) (n : Nat) (hk : (known v) = true) : pBox v n = pBoxU v n := by have e := hk; exact Eq.trans (Eq.refl _) (id rfl)
def pBuildSliceU (ek : EK) (sz len : Nat) (xs : List V) (g : G) (n : Nat) : R :=
  match deepens g xs with
  | some (q, ys, ps) => match rowOf ek ys with
    | some (p, r) => if xs.length = len ∧ ekFit ek sz = true ∧ ys.all (szFit sz) = true then .ok (q ∧ p) (.own n sz 0 len) (pubs ps ++ [(n, some (.row sz r))]) 1 else .fail
    | none => .fail
  | none => .fail
theorem pBuildSlice_k (ek : EK) (sz len : Nat) (xs : List V) (g : G) (n : Nat) (hk : (knownL xs) = true) : pBuildSlice ek sz len xs g n = pBuildSliceU ek sz len xs g n := by have e := hk; exact Eq.trans (Eq.refl _) (id rfl)
def pLoadU (agg : Bool) (sz : Nat) (v : V) (g : G) : R := match v with
  | .ref i off idx => match g i with
    | some (.var e) => match loadE agg sz e off idx with
      | some (p, v) => .ok p v [] 0
      | none => .fail
    | _ => .fail
  | .pat e off idx => match loadE agg sz e off idx with
    | some (p, v) => .ok p v [] 0
    | none => .fail
  | .eref i s k off idx => match g i with
    | some (.row s' r) => if s' = s then match elemR r agg sz k off idx with
      | some (p, v) => .ok p v [] 0
      | none => .fail
      else .fail
    | _ => .fail
  | _ => .fail
theorem pLoad_k (agg : Bool) (sz : Nat) (v : V) (g : G) (hk : (known v) = true) : pLoad agg sz v g = pLoadU agg sz v g := by have e := hk; exact Eq.trans (Eq.refl _) (id rfl)
def pStoreU (agg : Bool) (sz : Nat) (v x : V) (g : G) : R := match v with
  | .ref i off idx => match g i with
    | some (.var e) => match storeE agg sz e off idx x with
      | some (p, e') => .ok p .undef [(i, some (.var e'))] 0
      | none => .fail
    | _ => .fail
  | .eref i s k off idx => match g i, deepen g x with
    | some (.row s' r), some (q, x', ps) => match setR r agg sz k off idx x' with
      | some (p, r') => if ps.contains i || s' != s then .fail else .ok (q ∧ p) .undef (pubs ps ++ [(i, some (.row s' r'))]) 0
      | none => .fail
    | _, _ => .fail
  | _ => .fail
theorem pStore_k (agg : Bool) (sz : Nat) (v x : V) (g : G) (hk : (known v && known x) = true) : pStore agg sz v x g = pStoreU agg sz v x g := by have e := hk; exact Eq.trans (Eq.refl _) (id rfl)
def pNilU (v : V) (g : G) : R := match v with
  | .ref i off idx => al g i (.ok True (.ref i off idx) [] 0)
  | .eref i sz k off idx => al g i (.ok True (.eref i sz k off idx) [] 0)
  | .pat e off idx => .ok True (.pat e off idx) [] 0
  | .fn f c => .ok True (.fn f c) [] 0
  | _ => .fail
theorem pNil_k (v : V) (g : G) (hk : (known v) = true) : pNil v g = pNilU v g := by have e := hk; exact Eq.trans (Eq.refl _) (id rfl)
def pFieldAddrU (off : Nat) (v : V) (g : G) : R := match v with
  | .ref i o 0 => al g i (.ok True (.ref i (o + off) 0) [] 0)
  | .eref i sz k o 0 => al g i (.ok True (.eref i sz k (o + off) 0) [] 0)
  | .pat e o 0 => .ok True (.pat e (o + off) 0) [] 0
  | _ => .fail
theorem pFieldAddr_k (off : Nat) (v : V) (g : G) (hk : (known v) = true) : pFieldAddr off v g = pFieldAddrU off v g := by have e := hk; exact Eq.trans (Eq.refl _) (id rfl)
def pFieldU (agg : Bool) (sz off : Nat) (v : V) : R := match v with
  | .agg e => match loadE agg sz e off 0 with
    | some (p, v) => .ok p v [] 0
    | none => .fail
  | _ => .fail
theorem pField_k (agg : Bool) (sz off : Nat) (v : V) (hk : (known v) = true) : pField agg sz off v = pFieldU agg sz off v := by have e := hk; exact Eq.trans (Eq.refl _) (id rfl)
def pIndexArrU (len : Nat) (v i : V) (g : G) : R := match v, i with
  | .ref j o 0, .int _ k => al g j (.ok (0 ≤ k ∧ k < len) (.ref j o k.toNat) [] 0)
  | .pat e o 0, .int _ k => .ok (0 ≤ k ∧ k < len) (.pat e o k.toNat) [] 0
  | .eref j sz m o 0, .int _ k => al g j (.ok (0 ≤ k ∧ k < len) (.eref j sz m o k.toNat) [] 0)
  | _, _ => .fail
theorem pIndexArr_k (len : Nat) (v i : V) (g : G) (hk : (known v && known i) = true) : pIndexArr len v i g = pIndexArrU len v i g := by have e := hk; exact Eq.trans (Eq.refl _) (id rfl)
def pIndexSlU (sz : Nat) (v i : V) (g : G) : R := match v, i with
  | .slb _ l, .int _ k => if sz = 1 then .ok (0 ≤ k ∧ k < l.length) (.pat [.int .u8 ((l.getD k.toNat 0).toNat : Int)] 0 0) [] 0 else .fail
  | .sli _ ik l, .int _ k => if sz = 1 then .ok (0 ≤ k ∧ k < l.length) (.pat [.int ik (l.getD k.toNat 0)] 0 0) [] 0 else .fail
  | .sls _ l, .int _ k => if sz = 1 then .ok (0 ≤ k ∧ k < l.length) (.pat [.str (l.getD k.toNat [])] 0 0) [] 0 else .fail
  | .sle _ s l, .int _ k => if s = sz then .ok (0 ≤ k ∧ k < l.length) (.pat (l.getD k.toNat []) 0 0) [] 0 else .fail
  | .own j s lo n, .int _ k => if s = sz then al g j (.ok (0 ≤ k ∧ k < n) (.eref j s (lo + k.toNat) 0 0) [] 0) else .fail
  | .vsl j off lo n, .int _ k => if sz = 1 then al g j (.ok (0 ≤ k ∧ k < n) (.ref j off (lo + k.toNat)) [] 0) else .fail
  | _, _ => .fail
theorem pIndexSl_k (sz : Nat) (v i : V) (g : G) (hk : (known v && known i) = true) : pIndexSl sz v i g = pIndexSlU sz v i g := by have e := hk; exact Eq.trans (Eq.refl _) (id rfl)
def pIndexStrU (v i : V) : R := match v, i with
  | .str s, .int _ k => .ok (0 ≤ k ∧ k < s.length) (.int .u8 ((s.getD k.toNat 0).toNat : Int)) [] 0
  | _, _ => .fail
theorem pIndexStr_k (v i : V) (hk : (known v && known i) = true) : pIndexStr v i = pIndexStrU v i := by have e := hk; exact Eq.trans (Eq.refl _) (id rfl)
def pIndexAggU (len : Nat) (v i : V) : R := match v, i with
  | .agg [.byt n l], .int _ k => if n = len then .ok (0 ≤ k ∧ k < n) (.int .u8 ((l.getD k.toNat 0).toNat : Int)) [] 0 else .fail
  | .agg [.arr ik n l], .int _ k => if n = len then .ok (0 ≤ k ∧ k < n) (.int ik (l.getD k.toNat 0)) [] 0 else .fail
  | _, _ => .fail
theorem pIndexAgg_k (len : Nat) (v i : V) (hk : (known v && known i) = true) : pIndexAgg len v i = pIndexAggU len v i := by have e := hk; exact Eq.trans (Eq.refl _) (id rfl)
def pLenStrU (v : V) : R := match v with
  | .str s => .ok True (.int .i64 s.length) [] 0
  | _ => .fail
theorem pLenStr_k (v : V) (hk : (known v) = true) : pLenStr v = pLenStrU v := by have e := hk; exact Eq.trans (Eq.refl _) (id rfl)
def pLenSlU (v : V) (g : G) : R := match v with
  | .nils => .ok True (.int .i64 0) [] 0
  | .slb _ l => .ok True (.int .i64 l.length) [] 0
  | .sli _ _ l => .ok True (.int .i64 l.length) [] 0
  | .sls _ l => .ok True (.int .i64 l.length) [] 0
  | .sle _ _ l => .ok True (.int .i64 l.length) [] 0
  | .own i _ _ n => al g i (.ok True (.int .i64 n) [] 0)
  | .vsl i _ _ n => al g i (.ok True (.int .i64 n) [] 0)
  | _ => .fail
theorem pLenSl_k (v : V) (g : G) (hk : (known v) = true) : pLenSl v g = pLenSlU v g := by have e := hk; exact Eq.trans (Eq.refl _) (id rfl)
def pLenMapU (v : V) (g : G) : R := match v with
  | .nilm => .ok True (.int .i64 0) [] 0
  | .mp i => match g i with
    | some (.map es) => .ok True (.int .i64 es.length) [] 0
    | _ => .fail
  | _ => .fail
theorem pLenMap_k (v : V) (g : G) (hk : (known v) = true) : pLenMap v g = pLenMapU v g := by have e := hk; exact Eq.trans (Eq.refl _) (id rfl)
def pSliceStrU (v : V) (lo hi : Option V) : R := match v with
  | .str s => match bnd s.length lo hi with
    | some (p, a, b) => .ok p (.str ((s.drop a).take (b - a))) [] 0
    | none => .fail
  | _ => .fail
theorem pSliceStr_k (v : V) (lo hi : Option V) (hk : (known v && knownO lo && knownO hi) = true) : pSliceStr v lo hi = pSliceStrU v lo hi := by have e := hk; exact Eq.trans (Eq.refl _) (id rfl)
def pSliceSlU (sz : Nat) (v : V) (lo hi : Option V) (g : G) : R := match v with
  | .slb z l => match bnd l.length lo hi with
    | some (p, a, b) => if sz = 1 then .ok p (.slb z ((l.drop a).take (b - a))) [] 0 else .fail
    | none => .fail
  | .sli z k l => match bnd l.length lo hi with
    | some (p, a, b) => if sz = 1 then .ok p (.sli z k ((l.drop a).take (b - a))) [] 0 else .fail
    | none => .fail
  | .sls z l => match bnd l.length lo hi with
    | some (p, a, b) => if sz = 1 then .ok p (.sls z ((l.drop a).take (b - a))) [] 0 else .fail
    | none => .fail
  | .sle z s l => match bnd l.length lo hi with
    | some (p, a, b) => if s = sz then .ok p (.sle z s ((l.drop a).take (b - a))) [] 0 else .fail
    | none => .fail
  | .nils => match bnd 0 lo hi with
    | some (p, _, _) => .ok p .nils [] 0
    | none => .fail
  | .own i s o n => match bnd n lo hi with
    | some (p, a, b) => if s = sz then al g i (.ok p (.own i s (o + a) (b - a)) [] 0) else .fail
    | none => .fail
  | _ => .fail
theorem pSliceSl_k (sz : Nat) (v : V) (lo hi : Option V) (g : G) (hk : (known v && knownO lo && knownO hi) = true) : pSliceSl sz v lo hi g = pSliceSlU sz v lo hi g := by have e := hk; exact Eq.trans (Eq.refl _) (id rfl)
def pSliceArrU (len : Nat) (v : V) (lo hi : Option V) (g : G) : R := match v with
  | .ref i off 0 => match bnd len lo hi with
    | some (p, a, b) => al g i (.ok p (.vsl i off a (b - a)) [] 0)
    | none => .fail
  | .pat e off 0 => match splitC e off, bnd len lo hi with
    | some (_, .byt n l :: _), some (p, a, b) => if n = len then .ok p (.slb (some true) ((l.drop a).take (b - a))) [] 0 else .fail
    | some (_, .arr k n l :: _), some (p, a, b) => if n = len then .ok p (.sli (some true) k ((l.drop a).take (b - a))) [] 0 else .fail
    | _, _ => .fail
  | _ => .fail
theorem pSliceArr_k (len : Nat) (v : V) (lo hi : Option V) (g : G) (hk : (known v && knownO lo && knownO hi) = true) : pSliceArr len v lo hi g = pSliceArrU len v lo hi g := by have e := hk; exact Eq.trans (Eq.refl _) (id rfl)
def pAppendU (ek : EK) (sz bytes : Nat) (s x : V) (g : G) (n : Nat) : R :=
  match rwOf g ek sz x with
  | none => .fail
  | some (q, xr) => match s with
    | .nils => match (Rw.nil ek).cat xr with
      | some r => .ok (q ∧ r.len * bytes ≤ 140737488355328) (.own n sz 0 r.len) [(n, some (.row sz r))] 1
      | none => .fail
    | .own i s' lo m => match g i with
      | some (.row s'' sr) => match (sr.cut lo m).cat xr with
        | some r => if s' = sz ∧ s'' = sz then .ok (q ∧ lo + m ≤ sr.len ∧ r.len * bytes ≤ 140737488355328) (.own n sz 0 r.len) [(i, none), (n, some (.row sz r))] 1 else .fail
        | none => .fail
      | _ => .fail
    | _ => .fail
theorem pAppend_k (ek : EK) (sz bytes : Nat) (s x : V) (g : G) (n : Nat) (hk : (known s && known x) = true) : pAppend ek sz bytes s x g n = pAppendU ek sz bytes s x g n := by have e := hk; exact Eq.trans (Eq.refl _) (id rfl)
def pMakeU (ek : EK) (sz bytes : Nat) (zero : Option (List V)) (len cap : V) (n : Nat) : R := match len, cap with
  | .int _ a, .int _ b => match zrow ek sz zero a.toNat with
    | some r => .ok (0 ≤ a ∧ a ≤ b ∧ b * bytes ≤ 140737488355328) (.own n sz 0 a.toNat) [(n, some (.row sz r))] 1
    | none => .fail
  | _, _ => .fail
theorem pMake_k (ek : EK) (sz bytes : Nat) (zero : Option (List V)) (len cap : V) (n : Nat) (hk : (known len && known cap) = true) : pMake ek sz bytes zero len cap n = pMakeU ek sz bytes zero len cap n := by have e := hk; exact Eq.trans (Eq.refl _) (id rfl)
def veqIU : V → V → Option Bool
  | .int j x, .int k y => if j = k then some (decide (x = y)) else none
  | _, _ => none
theorem veqI_k (x y : V) (hk : (known x && known y) = true) : veqI x y = veqIU x y := by have e := hk; exact Eq.trans (Eq.refl _) (id rfl)
def veqSU : V → V → Option Bool
  | .str x, .str y => some (decide (x = y))
  | _, _ => none
theorem veqS_k (x y : V) (hk : (known x && known y) = true) : veqS x y = veqSU x y := by have e := hk; exact Eq.trans (Eq.refl _) (id rfl)
def veqBU : V → V → Option Bool
  | .bool x, .bool y => some (decide (x = y))
  | _, _ => none
theorem veqB_k (x y : V) (hk : (known x && known y) = true) : veqB x y = veqBU x y := by have e := hk; exact Eq.trans (Eq.refl _) (id rfl)
def veqNU (g : G) : NK → V → V → Option Bool
  | .ptr, .nilp, .nilp => some true
  | .ptr, .nilp, y => if isPtr g y then some false else none
  | .ptr, x, .nilp => if isPtr g x then some false else none
  | .slice, .nils, .nils => some true
  | .slice, .slb (some b) _, .nils => some (!b)
  | .slice, .sli (some b) _ _, .nils => some (!b)
  | .slice, .sls (some b) _, .nils => some (!b)
  | .slice, .sle (some b) _ _, .nils => some (!b)
  | .map, .nilm, .nilm => some true
  | .map, .mp i, .nilm => if (g i).isSome then some false else none
  | _, _, _ => none
theorem veqN_k (g : G) (k : NK) (x y : V) (hk : (known x && known y) = true) : veqN g k x y = veqNU g k x y := by have e := hk; exact Eq.trans (Eq.refl _) (id rfl)
def veqAU (n : Nat) : V → V → Option Bool
  | .agg [.byt m x], .agg [.byt m' y] => if m = n ∧ m' = n then some (decide (x = y)) else none
  | .agg [.arr j m x], .agg [.arr k m' y] => if m = n ∧ m' = n ∧ j = k then some (decide (x = y)) else none
  | _, _ => none
theorem veqA_k (n : Nat) (x y : V) (hk : (known x && known y) = true) : veqA n x y = veqAU n x y := by have e := hk; exact Eq.trans (Eq.refl _) (id rfl)
def pBinU (op : BinOp) (x y : V) : R := match op, x, y with
  | .shl, .int k a, .int _ b => .ok (0 ≤ b) (.int k (k.wrap (a * 2 ^ (min b.toNat k.bits)))) [] 0
  | .shr, .int k a, .int _ b => .ok (0 ≤ b) (.int k (a.fdiv (2 ^ (min b.toNat k.bits)))) [] 0
  | .add, .str a, .str b => .ok (a.length + b.length ≤ 9223372036854775807) (.str (a ++ b)) [] 0
  | .lss, .str a, .str b => .ok True (.bool (Op.bytesLess a b)) [] 0
  | .leq, .str a, .str b => .ok True (.bool (Op.bytesLess a b || decide (a = b))) [] 0
  | .gtr, .str a, .str b => .ok True (.bool (!(Op.bytesLess a b || decide (a = b)))) [] 0
  | .geq, .str a, .str b => .ok True (.bool (!(Op.bytesLess a b))) [] 0
  | op, .int k a, .int k' b => if k = k' then match op with
    | .add => .ok True (.int k (k.wrap (a + b))) [] 0
    | .sub => .ok True (.int k (k.wrap (a - b))) [] 0
    | .mul => .ok True (.int k (k.wrap (a * b))) [] 0
    | .quo => .ok (b ≠ 0) (.int k (k.wrap (a.tdiv b))) [] 0
    | .rem => .ok (b ≠ 0) (.int k (a.tmod b)) [] 0
    | .lss => .ok True (.bool (decide (a < b))) [] 0
    | .leq => .ok True (.bool (decide (a ≤ b))) [] 0
    | .gtr => .ok True (.bool (decide (b < a))) [] 0
    | .geq => .ok True (.bool (decide (b ≤ a))) [] 0
    | .and | .or | .xor | .andNot => .ok True (.int k (vbits op k a b)) [] 0
    | _ => .fail
    else .fail
  | _, _, _ => .fail
theorem pBin_k (op : BinOp) (x y : V) (hk : (known x && known y) = true) : pBin op x y = pBinU op x y := by have e := hk; exact Eq.trans (Eq.refl _) (id rfl)
def pUnU (op : UnOp) (x : V) : R := match op, x with
  | .not, .bool b => .ok True (.bool (!b)) [] 0
  | .neg, .int k n => .ok True (.int k (k.wrap (0 - n))) [] 0
  | _, _ => .fail
theorem pUn_k (op : UnOp) (x : V) (hk : (known x) = true) : pUn op x = pUnU op x := by have e := hk; exact Eq.trans (Eq.refl _) (id rfl)
def pConvU (c : CK) (v : V) (g : G) (n : Nat) : R := match c, v with
  | .int k, .int _ m => .ok True (.int k (k.wrap m)) [] 0
  | .idStr, .str s => .ok True (.str s) [] 0
  | .toStr, .str _ => .fail
  | .toStr, v => match rwOf g .byte 1 v with
    | some (q, .bytes l) => .ok q (.str l) [] 0
    | _ => .fail
  | .toBytes, .str s => .ok True (.own n 1 0 s.length) [(n, some (.row 1 (.bytes s)))] 1
  | .same, .own i s lo m => match g i with
    | some (.row s' r) => .ok (0 < m) (.own i s lo m) [(i, some (.row s' r))] 0
    | _ => .fail
  | _, _ => .fail
theorem pConv_k (c : CK) (v : V) (g : G) (n : Nat) (hk : (known v) = true) : pConv c v g n = pConvU c v g n := by have e := hk; exact Eq.trans (Eq.refl _) (id rfl)
def pS2AU (n : Nat) (v : V) (g : G) : R := match deepen1 g v with
  | some (q, .slb _ l, ps) => .ok (q ∧ 0 < n ∧ n ≤ l.length) (.pat [.byt n (l.take n)] 0 0) (pubs ps) 0
  | some (q, .sli _ k l, ps) => .ok (q ∧ 0 < n ∧ n ≤ l.length) (.pat [.arr k n (l.take n)] 0 0) (pubs ps) 0
  | _ => .fail
theorem pS2A_k (n : Nat) (v : V) (g : G) (hk : (known v) = true) : pS2A n v g = pS2AU n v g := by have e := hk; exact Eq.trans (Eq.refl _) (id rfl)
def pExtractU (v : V) (i : Nat) : R := match v with
  | .tup l => match l[i]? with
    | some v => .ok True v [] 0
    | none => .fail
  | _ => .fail
theorem pExtract_k (v : V) (i : Nat) (hk : (known v) = true) : pExtract v i = pExtractU v i := by have e := hk; exact Eq.trans (Eq.refl _) (id rfl)
def pMinU (x y : V) : R := match x, y with
  | .int k a, .int k' b => if k = k' then .ok True (.int k (if b < a then b else a)) [] 0 else .fail
  | _, _ => .fail
theorem pMin_k (x y : V) (hk : (known x && known y) = true) : pMin x y = pMinU x y := by have e := hk; exact Eq.trans (Eq.refl _) (id rfl)
def pMaxU (x y : V) : R := match x, y with
  | .int k a, .int k' b => if k = k' then .ok True (.int k (if a < b then b else a)) [] 0 else .fail
  | _, _ => .fail
theorem pMax_k (x y : V) (hk : (known x && known y) = true) : pMax x y = pMaxU x y := by have e := hk; exact Eq.trans (Eq.refl _) (id rfl)
def pPickU (c a b : V) : R := match c with
  | .bool q => .ok True (vif q a b) [] 0
  | _ => .fail
theorem pPick_k (c a b : V) (hk : (known c && known a && known b) = true) : pPick c a b = pPickU c a b := by have e := hk; exact Eq.trans (Eq.refl _) (id rfl)
def pCopyU (d x : V) (g : G) : R := match d with
  | .vsl i off lo n => match g i with
    | some (.var e) => match splitC e off with
      | some (a, .byt m l :: r) => match rwOf g .byte 1 x with
        | some (q, .bytes y) => .ok (q ∧ lo + n ≤ m) (.int .i64 (min y.length n : Nat)) [(i, some (.var (a ++ .byt m (putAt l lo (y.take n)) :: r)))] 0
        | _ => .fail
      | some (a, .arr k m l :: r) => match rwOf g (.int k) 1 x with
        | some (q, .ints k' y) => if k' = k then .ok (q ∧ lo + n ≤ m) (.int .i64 (min y.length n : Nat)) [(i, some (.var (a ++ .arr k m (putAt l lo (y.take n)) :: r)))] 0 else .fail
        | _ => .fail
      | _ => .fail
    | _ => .fail
  | _ => .fail
theorem pCopy_k (d x : V) (g : G) (hk : (known d && known x) = true) : pCopy d x g = pCopyU d x g := by have e := hk; exact Eq.trans (Eq.refl _) (id rfl)
def pBuildU (zero : Option (List V)) (parts : List (Nat × Nat × V)) : R := match zero with
  | some z => match fillE z parts with
    | some e => .ok True (.agg e) [] 0
    | none => .fail
  | none => .fail
theorem pBuild_k (zero : Option (List V)) (parts : List (Nat × Nat × V)) (hk : (knownP parts) = true) : pBuild zero parts = pBuildU zero parts := by have e := hk; exact Eq.trans (Eq.refl _) (id rfl)
end Go.AM
end

section
/- AM in use, part 1: what a proof over a shallow text needs. -/
namespace Go.AM
theorem Xok (p : Prop) (v : V) (u : List (Nat × Option Blk)) (nw : Nat) (b : List (Nat × Blk)) (n : Nat) (K : V → H → Prop) : X (.ok p v u nw) ⟨b, n⟩ K = (p ∧ K v ⟨updB b u, n + nw⟩) := rfl
theorem Xfail (h : H) (K : V → H → Prop) : X .fail h K = False := rfl
theorem XDok (p : Prop) (v : V) (u : List (Nat × Option Blk)) (nw : Nat) (b : List (Nat × Blk)) (n : Nat) (rs : List Nat) (K : V → List Nat → List Nat → H → Prop) : XD (.ok p v u nw) ⟨b, n⟩ rs K = (p ∧ K v (u.map (·.1)) rs ⟨updB b u, n + nw⟩) := rfl
theorem Spt (A B : Prop) : Sp (.bool true) A B = A := rfl
theorem Spf (A B : Prop) : Sp (.bool false) A B = B := rfl
theorem Spb (b : Bool) (A B : Prop) : Sp (.bool b) A B = if b = true then A else B := by cases b <;> simp [Sp]
@[congr] theorem Fin_congr {T : Tr} {v v' : V} {h h' : H} (ev : v = v') (eh : h = h') : FinT T v h = FinT T v' h' := by rw [ev, eh]
/-- An array of 32 bytes, all 0. -/
def zero32 : List UInt8 := List.replicate 32 0
theorem rep32 : List.replicate 32 (0 : UInt8) = zero32 := rfl
theorem cast0 : ((0 : Nat) : Int) = 0 := rfl
theorem iteI {c : Prop} [Decidable c] {A B : Prop} (ha : c → A) (hb : ¬ c → B) : if c then A else B := by
  by_cases h : c
  · rw [if_pos h]; exact ha h
  · rw [if_neg h]; exact hb h
theorem take_map_len {α β : Type} (f : α → β) (l : List α) : (l.map f).take l.length = l.map f := List.take_of_length_le (by simp)
theorem FnCfn (f : FuncId) (c : List V) (A : FuncId → List V → Prop) : FnC (.fn f c) A = A f c := rfl
theorem happ (b : List (Nat × Blk)) (n : Nat) (u : List (Nat × Option Blk)) (k : Nat) : H.app ⟨b, n⟩ u k = ⟨updB b u, n + k⟩ := rfl
theorem hget (b : List (Nat × Blk)) (n i : Nat) : H.get ⟨b, n⟩ i = getB b i := rfl
theorem hnilx (b : List (Nat × Blk)) (n : Nat) (nl : List (Nat × EK)) : H.nilx ⟨b, n⟩ nl = ⟨nilRows n nl ++ b, n + nl.length⟩ := rfl

section
variable {P : Program}
theorem ecall_i {T : Tr} {f : FuncId} {vals : List V} {h : H} {K : V → H → Prop} (ρ ps : List Nat) (hT : TrOk P T) (hf : T.f = f) (hv : passL none h.get (rn ρ T.m h.n) ps vals T.vals)
    (hh : heapOk none h.get (rn ρ T.m h.n) ps T.b0) (hm : ρ.length = T.m ∧ T.b0.map (·.1) = List.range T.m) (hd : (ρ ++ ps).Nodup) (hK : K (renV (rn ρ T.m h.n) T.res) (callH T ρ ps h)) : ECall P f vals h K :=
  ⟨T, ρ, ps, hT, ⟨hf, hv, hh, hm, hd⟩, hK⟩
theorem ecallD_i {T : Tr} {f : FuncId} {vals : List V} {h : H} {K : V → List Nat → List Nat → H → Prop} (ρ ps : List Nat) (hT : TrOk P T) (hf : T.f = f) (hv : passL none h.get (rn ρ T.m h.n) ps vals T.vals)
    (hh : heapOk none h.get (rn ρ T.m h.n) ps T.b0) (hm : ρ.length = T.m ∧ T.b0.map (·.1) = List.range T.m) (hd : (ρ ++ ps).Nodup) (hK : K (renV (rn ρ T.m h.n) T.res) ((callU T ρ ps h.n).map (·.1)) (ρ ++ ps) (callH T ρ ps h)) : ECallD P f vals h K :=
  ⟨T, ρ, ps, hT, ⟨hf, hv, hh, hm, hd⟩, hK⟩

theorem ecall_s {T : Tr} {f : FuncId} {vals : List V} {h h' : H} {v' : V} {K : V → H → Prop} (ρ ps : List Nat) (hT : TrOk P T) (hf : T.f = f) (hv : passL none h.get (rn ρ T.m h.n) ps vals T.vals)
    (hh : heapOk none h.get (rn ρ T.m h.n) ps T.b0) (hm : ρ.length = T.m ∧ T.b0.map (·.1) = List.range T.m) (hd : (ρ ++ ps).Nodup) (ev : renV (rn ρ T.m h.n) T.res = v') (eh : callH T ρ ps h = h') (hK : K v' h') : ECall P f vals h K := by
  subst ev; subst eh; exact ⟨T, ρ, ps, hT, ⟨hf, hv, hh, hm, hd⟩, hK⟩
theorem ecallD_s {T : Tr} {f : FuncId} {vals : List V} {h h' : H} {v' : V} {ks : List Nat} {K : V → List Nat → List Nat → H → Prop} (ρ ps : List Nat) (hT : TrOk P T) (hf : T.f = f) (hv : passL none h.get (rn ρ T.m h.n) ps vals T.vals)
    (hh : heapOk none h.get (rn ρ T.m h.n) ps T.b0) (hm : ρ.length = T.m ∧ T.b0.map (·.1) = List.range T.m) (hd : (ρ ++ ps).Nodup) (ev : renV (rn ρ T.m h.n) T.res = v') (ek : (callU T ρ ps h.n).map (·.1) = ks) (eh : callH T ρ ps h = h') (hK : K v' ks (ρ ++ ps) h') : ECallD P f vals h K := by
  subst ev; subst eh; subst ek; exact ⟨T, ρ, ps, hT, ⟨hf, hv, hh, hm, hd⟩, hK⟩
/-! ### step by step -/
theorem stepX {r : R} {h : H} {K : V → H → Prop} {p : Prop} {v : V} {u : List (Nat × Option Blk)} {nw : Nat} {h' : H} (e : r = .ok p v u nw) (eh : h.app u nw = h') (hp : p) (hk : K v h') : X r h K := by
  subst e; subst eh; exact ⟨hp, hk⟩
theorem stepXD {r : R} {h : H} {rs rs' : List Nat} {K : V → List Nat → List Nat → H → Prop} {p : Prop} {v : V} {u : List (Nat × Option Blk)} {nw : Nat} {ks : List Nat} {h' : H} (e : r = .ok p v u nw) (eu : u.map (·.1) = ks) (er : rs = rs') (eh : h.app u nw = h') (hp : p) (hk : K v ks rs' h') : XD r h rs K := by
  subst e; subst eh; subst eu; subst er; exact ⟨hp, hk⟩
theorem spI {b : Bool} {A B : Prop} (ha : b = true → A) (hb : b = false → B) : Sp (.bool b) A B := by
  cases b
  · exact hb rfl
  · exact ha rfl
theorem spT {v : V} {A B : Prop} (e : v = .bool true) (ha : A) : Sp v A B := by subst e; exact ha
theorem spF {v : V} {A B : Prop} (e : v = .bool false) (hb : B) : Sp v A B := by subst e; exact hb
theorem ti {A : Prop} (h : A) : True ∧ A := ⟨trivial, h⟩

/-- A function from values to a value: no blocks in, none out. -/
def Pu (P : Program) (f : FuncId) (vals : List V) (res : V) : Prop := TrOk P ⟨f, vals, [], 0, res, [], 0⟩
theorem callH_pu {f : FuncId} {vals : List V} {res : V} (h : H) : callH ⟨f, vals, [], 0, res, [], 0⟩ [] [] h = h := rfl
theorem ecall_pu {f : FuncId} {vals vals' : List V} {res : V} {h : H} {K : V → H → Prop} (hT : Pu P f vals' res) (hv : passL none h.get (rn [] 0 h.n) [] vals vals') (hK : K res h) (hr : ∀ r, renV r res = res := by intro r; rfl) : ECall P f vals h K :=
  ecall_i [] [] hT rfl hv trivial ⟨rfl, rfl⟩ List.nodup_nil (by rw [hr]; exact hK)
theorem ecallD_pu {f : FuncId} {vals vals' : List V} {res : V} {h : H} {K : V → List Nat → List Nat → H → Prop} (hT : Pu P f vals' res) (hv : passL none h.get (rn [] 0 h.n) [] vals vals') (hK : K res [] [] h) (hr : ∀ r, renV r res = res := by intro r; rfl) : ECallD P f vals h K :=
  ecallD_i [] [] hT rfl hv trivial ⟨rfl, rfl⟩ List.nodup_nil (by rw [hr]; exact hK)
/-- The same, and blocks are given away. -/
theorem ecall_pub (ps : List Nat) {f : FuncId} {vals vals' : List V} {res : V} {h : H} {K : V → H → Prop} (hT : Pu P f vals' res) (hv : passL none h.get (rn [] 0 h.n) ps vals vals') (hd : ps.Nodup) (hK : K res ⟨delAll h.b ps, h.n⟩) (hr : ∀ r, renV r res = res := by intro r; rfl) : ECall P f vals h K :=
  ecall_i [] ps hT rfl hv trivial ⟨rfl, rfl⟩ hd (by rw [hr]; exact hK)
def nodupB : List Nat → Bool
  | [] => true
  | x :: l => !l.contains x && nodupB l
theorem nodupB_spec : ∀ {l : List Nat}, nodupB l = true → l.Nodup
  | [], _ => List.nodup_nil
  | x :: l, h => by
    simp only [nodupB, Bool.and_eq_true, Bool.not_eq_true', List.contains_eq_mem, decide_eq_false_iff_not] at h
    exact List.nodup_cons.2 ⟨h.1, nodupB_spec h.2⟩
def keysOf (b : List (Nat × Blk)) : List Nat := b.map (·.1)
/-- The names fit. -/
def wkChk (m n1 hn : Nat) (keys ρ ps : List Nat) : Bool :=
  ρ.length == n1 && decide (m ≤ n1) && (List.range m).all (fun i => ρ.getD i 0 == i) && keys.all (fun i => decide (i < n1)) && nodupB (keys.map (rn ρ n1 hn) ++ ps)
theorem weak_i {m : Nat} {xs ys : List V} {h h' : H} {nl : List (Nat × EK)} {ρ ps : List Nat} (hn : nlOk nl) (hv : passL (some h.n) (h.nilx nl).get (rn ρ h'.n (h.nilx nl).n) ps xs ys) (hh : heapOk (some h.n) (h.nilx nl).get (rn ρ h'.n (h.nilx nl).n) ps h'.b)
    (hc : wkChk m h'.n (h.nilx nl).n (keysOf h'.b) ρ ps = true) : Weak m xs h ys h' nl ρ ps := by
  unfold wkChk at hc
  simp only [Bool.and_eq_true, beq_iff_eq, decide_eq_true_eq, List.all_eq_true, List.mem_range] at hc
  obtain ⟨⟨⟨⟨c1, c2⟩, c3⟩, c4⟩, c5⟩ := hc
  refine ⟨hn, hv, hh, c1, ⟨c2, c3⟩, fun q hq => c4 q.1 (List.mem_map.2 ⟨q, hq, rfl⟩), ?_⟩
  have := nodupB_spec c5
  rwa [keysOf, List.map_map] at this
theorem fin_i {T : Tr} {v : V} {h : H} (nl : List (Nat × EK)) (ρ ps : List Nat) (hn : nlOk nl) (hv : passN (some h.n) (h.nilx nl).get (rn ρ T.n1 (h.nilx nl).n) ps v T.res) (hh : heapOk (some h.n) (h.nilx nl).get (rn ρ T.n1 (h.nilx nl).n) ps T.b1)
    (hc : wkChk T.m T.n1 (h.nilx nl).n (keysOf T.b1) ρ ps = true) : FinT T v h :=
  ⟨nl, ρ, ps, weak_i hn ⟨hv, trivial⟩ hh hc⟩
theorem fin_pu {f : FuncId} {vals : List V} {res v : V} {h : H} (ps : List Nat) (hv : passN (some h.n) h.get (rn [] 0 h.n) ps v res) (hd : ps.Nodup) : FinT ⟨f, vals, [], 0, res, [], 0⟩ v h :=
  ⟨[], [], ps, rfl, ⟨hv, trivial⟩, trivial, rfl, ⟨Nat.le_refl _, fun i hi => absurd hi (Nat.not_lt_zero _)⟩, (fun q hq => by cases hq), hd⟩
mutual
/-- Values that name no block. -/
def plain : V → Bool
  | .int _ _ | .bool _ | .str _ | .nils | .nilp | .nilm | .nilf => true
  | .slb _ _ | .sli _ _ _ | .sls _ _ | .sle _ _ _ | .pat _ _ _ => true
  | .agg e => plains e
  | .tup e => plains e
  | .arr _ _ _ | .byt _ _ => true
  | _ => false
def plains : List V → Bool
  | [] => true
  | v :: l => plain v && plains l
end
mutual
theorem plain_ren {r : Nat → Nat} : ∀ {v : V}, plain v = true → renV r v = v
  | .int _ _, _ => rfl
  | .bool _, _ => rfl
  | .str _, _ => rfl
  | .nils, _ => rfl
  | .nilp, _ => rfl
  | .nilm, _ => rfl
  | .nilf, _ => rfl
  | .slb _ _, _ => rfl
  | .sli _ _ _, _ => rfl
  | .sls _ _, _ => rfl
  | .sle _ _ _, _ => rfl
  | .pat _ _ _, _ => rfl
  | .arr _ _ _, _ => rfl
  | .byt _ _, _ => rfl
  | .agg e, h => by
    have h' : plains e = true := h
    show V.agg (renVs r e) = _
    rw [plains_ren h']
  | .tup e, h => by
    have h' : plains e = true := h
    show V.tup (renVs r e) = _
    rw [plains_ren h']
  | .undef, h => by cases h
  | .fn _ _, h => by cases h
  | .ref _ _ _, h => by cases h
  | .own _ _ _ _, h => by cases h
  | .eref _ _ _ _ _, h => by cases h
  | .vsl _ _ _ _, h => by cases h
  | .mp _, h => by cases h
theorem plains_ren {r : Nat → Nat} : ∀ {e : List V}, plains e = true → renVs r e = e
  | [], _ => rfl
  | v :: l, h => by
    simp only [plains, Bool.and_eq_true] at h
    show renV r v :: renVs r l = _
    rw [plain_ren h.1, plains_ren h.2]
end
mutual
theorem wkV_refl : ∀ v : V, wkV v v
  | .nils => rfl
  | .slb _ _ => ⟨rfl, .inl rfl⟩
  | .sli _ _ _ => ⟨rfl, rfl, .inl rfl⟩
  | .sls _ _ => ⟨rfl, .inl rfl⟩
  | .sle _ _ l => ⟨rfl, wkEs_refl l, .inl rfl⟩
  | .undef => rfl
  | .int _ _ => rfl
  | .bool _ => rfl
  | .str _ => rfl
  | .nilp => rfl
  | .nilm => rfl
  | .nilf => rfl
  | .arr _ _ _ => rfl
  | .byt _ _ => rfl
  | .pat _ _ _ => rfl
  | .agg _ => rfl
  | .tup _ => rfl
  | .fn _ _ => rfl
  | .ref _ _ _ => rfl
  | .own _ _ _ _ => rfl
  | .eref _ _ _ _ _ => rfl
  | .vsl _ _ _ _ => rfl
  | .mp _ => rfl
theorem wkE_refl : ∀ e : List V, wkE e e
  | [] => trivial
  | v :: l => ⟨wkV_refl v, wkE_refl l⟩
theorem wkEs_refl : ∀ e : List (List V), wkEs e e
  | [] => trivial
  | v :: l => ⟨wkE_refl v, wkEs_refl l⟩
end
theorem wkV_r (v : V) : wkV v v = True := eq_true (wkV_refl v)
theorem wkE_r (v : List V) : wkE v v = True := eq_true (wkE_refl v)
theorem wkEs_r (v : List (List V)) : wkEs v v = True := eq_true (wkEs_refl v)
theorem pass_plain {g : G} {r : Nat → Nat} {ps : List Nat} {v : V} (h : plain v = true) : pass g r ps v v := by
  have e := plain_ren (r := r) h
  unfold pass
  split <;> first | (cases h; done) | skip
  all_goals simp_all [wkEs_refl]
theorem passM_plain {b : Option Nat} {g : G} {r : Nat → Nat} {ps : List Nat} {v : V} (h : plain v = true) : passM b g r ps v v := by
  have key : pass g r ps v v := pass_plain h
  cases v <;> first | exact key | cases h
theorem passE_plain {b : Option Nat} {g : G} {r : Nat → Nat} {ps : List Nat} : ∀ {e : List V}, plains e = true → passE b g r ps e e
  | [], _ => trivial
  | v :: l, h => by
    simp only [plains, Bool.and_eq_true] at h
    refine ⟨?_, passE_plain h.2⟩
    unfold passS
    split
    · rfl
    · exact passM_plain h.1
theorem passT_plain {b : Option Nat} {g : G} {r : Nat → Nat} {ps : List Nat} : ∀ {e : List V}, plains e = true → passT b g r ps e e
  | [], _ => trivial
  | v :: l, h => by
    simp only [plains, Bool.and_eq_true] at h
    refine ⟨?_, passT_plain h.2⟩
    split
    · exact passE_plain (by simpa [plain] using h.1)
    · exact passM_plain h.1
theorem passN_plain {b : Option Nat} {g : G} {r : Nat → Nat} {ps : List Nat} {v : V} (h : plain v = true) : passN b g r ps v v := by
  have key : passM b g r ps v v := passM_plain h
  cases v <;> first | exact key | (exact passE_plain h) | (exact passT_plain h)
theorem fin_eq {f : FuncId} {vals : List V} {res v : V} {h : H} (e : v = res) (hp : plain res = true := by rfl) : FinT ⟨f, vals, [], 0, res, [], 0⟩ v h := by
  subst e; exact fin_pu [] (passN_plain hp) List.nodup_nil
theorem fin_dec {f : FuncId} {vals : List V} {p : Prop} [Decidable p] {b : Bool} {h : H} (e : b = true ↔ p) : FinT ⟨f, vals, [], 0, .bool (decide p), [], 0⟩ (.bool b) h :=
  fin_eq (by congr 1; rw [Bool.eq_iff_iff, e, decide_eq_true_eq])
def indepB : List (Nat × Nat) → List TE → Bool
  | [], _ => true
  | (i, j) :: r, es => disj (lookE es i).1 (lookE es j).1 && disj (lookE es i).1 (lookE es j).2 && disj (lookE es j).1 (lookE es i).2 && indepB r es
theorem indep_of : ∀ {l : List (Nat × Nat)} {es : List TE}, indepB l es = true → Indep l es
  | [], _, _ => trivial
  | (i, j) :: r, es, h => by
    simp only [indepB, Bool.and_eq_true] at h
    exact ⟨⟨h.1.1.1, h.1.1.2, h.1.2⟩, indep_of h.2⟩
/-! ### loops -/
def Nxt (m : Nat) (I : List V → H → Nat → Prop) (k : Nat) (ys : List V) (h1 : H) : Prop := ∃ zs h' nl ρ ps k', Weak m ys h1 zs h' nl ρ ps ∧ k' < k ∧ I zs h' k'
theorem lp_i {m : Nat} {B : (List V → H → Prop) → List V → H → Prop} {xs : List V} {h : H} (I : List V → H → Nat → Prop) (h0 : ∃ k, Nxt m I k xs h) (round : ∀ xs h k, I xs h k → B (Nxt m I k) xs h) : Lp m B xs h := by
  obtain ⟨_, zs, h', nl, ρ, ps, k', hw, _, hi⟩ := h0
  exact ⟨I, ⟨zs, h', nl, ρ, ps, k', hw, hi⟩, round⟩
theorem nx_i {m : Nat} {I : List V → H → Nat → Prop} {k : Nat} {ys : List V} {h1 : H} (nl : List (Nat × EK)) (ρ ps : List Nat) {zs : List V} {h' : H} (k' : Nat) (hn : nlOk nl) (hi : I zs h' k') (hv : passL (some h1.n) (h1.nilx nl).get (rn ρ h'.n (h1.nilx nl).n) ps ys zs)
    (hh : heapOk (some h1.n) (h1.nilx nl).get (rn ρ h'.n (h1.nilx nl).n) ps h'.b) (hc : wkChk m h'.n (h1.nilx nl).n (keysOf h'.b) ρ ps = true) (hlt : k' < k) : Nxt m I k ys h1 :=
  ⟨zs, h', nl, ρ, ps, k', weak_i hn hv hh hc, hlt, hi⟩
/-- A loop over plain values. -/
def P0 (J : List V → Nat → Prop) (xs : List V) (h : H) (k : Nat) : Prop := h = ⟨[], 0⟩ ∧ J xs k
theorem passL_plain {b : Option Nat} {g : G} {r : Nat → Nat} {ps : List Nat} : ∀ {l : List V}, plains l = true → passL b g r ps l l
  | [], _ => trivial
  | v :: l, h => by
    simp only [plains, Bool.and_eq_true] at h
    exact ⟨passN_plain h.1, passL_plain h.2⟩
theorem nx0 {J : List V → Nat → Prop} {k k' : Nat} {ys : List V} {h : H} (hj : J ys k') (hk : k' < k) (hp : plains ys = true := by rfl) : Nxt 0 (P0 J) k ys h :=
  nx_i [] [] [] k' rfl ⟨rfl, hj⟩ (passL_plain hp) (h' := ⟨[], 0⟩) trivial rfl hk
theorem lp_0 {B : (List V → H → Prop) → List V → H → Prop} {xs : List V} {h : H} (J : List V → Nat → Prop) (k : Nat) (h0 : J xs k) (round : ∀ xs k, J xs k → B (Nxt 0 (P0 J) k) xs ⟨[], 0⟩) (hp : plains xs = true := by rfl) : Lp 0 B xs h :=
  lp_i (P0 J) ⟨k + 1, nx0 h0 (Nat.lt_succ_self _) hp⟩ (fun xs h k ⟨e, hj⟩ => by subst e; exact round xs k hj)
theorem w64 {x : Int} (h1 : -9223372036854775808 ≤ x) (h2 : x ≤ 9223372036854775807) : IntKind.wrap .i64 x = x := by
  unfold IntKind.wrap; simp [IntKind.bits, IntKind.signed]; omega
theorem nok {m : Nat} : ∀ q ∈ ([] : List (Nat × Blk)), q.1 < m := fun q hq => by cases hq

/-- A value that may be one of several. -/
theorem tr_cases {f : FuncId} {pre post : List V} {v : V} {b0 b1 : List (Nat × Blk)} {m n1 : Nat} {res : V} (v0 : V) (vs : List V) (hv : ∀ c u, Rep c v u → ∃ v' ∈ v0 :: vs, Rep c v' u) (h : ∀ v' ∈ v0 :: vs, TrOk P ⟨f, pre ++ v' :: post, b0, m, res, b1, n1⟩) :
    TrOk P ⟨f, pre ++ v :: post, b0, m, res, b1, n1⟩ := by
  have h0 := h v0 List.mem_cons_self
  refine ⟨h0.1, h0.2.1, fun w ok φ us hs hx => ?_⟩
  have split : ∀ (pre : List V) (us : List Value), Reps ⟨w, ok, φ, m⟩ (pre ++ v :: post) us → ∃ v' ∈ v0 :: vs, Reps ⟨w, ok, φ, m⟩ (pre ++ v' :: post) us := by
    intro pre
    induction pre with
    | nil =>
      rintro us ⟨u, us', rfl, h2, h3⟩
      obtain ⟨v', hm, hr⟩ := hv _ _ h2
      exact ⟨v', hm, u, us', rfl, hr, h3⟩
    | cons x pre ih =>
      rintro us ⟨u, us', rfl, h2, h3⟩
      obtain ⟨v', hm, hr⟩ := ih us' h3
      exact ⟨v', hm, u, us', rfl, h2, hr⟩
  obtain ⟨v', hm, hr⟩ := split pre us hx
  exact ((h v' hm).2.2 w ok φ us hs hr).mono fun e w' ⟨u, c, e1, e2, p⟩ => ⟨u, c, e1, e2, ⟨p.frame, p.oks, p.okn, p.old, p.n, p.hs, p.res⟩⟩
theorem slb_cases (z : Option Bool) (l : List UInt8) : ∀ c u, Rep c (.slb z l) u → ∃ v' ∈ [V.slb (some true) l, .slb (some false) l], Rep c v' u := by
  rintro c u ⟨a, cap, h1, h2, h3, h4⟩
  cases a with
  | none => exact ⟨.slb (some false) l, by simp, none, cap, h1, h2, fun b hb => by cases hb; rfl, h4⟩
  | some a => exact ⟨.slb (some true) l, by simp, some a, cap, h1, h2, fun b hb => by cases hb; rfl, h4⟩
theorem slb_nil {c : Cx} {l : List UInt8} {u : Value} (h : Rep c (.slb (some false) l) u) : l = [] := by
  obtain ⟨a, cap, h1, h2, h3, h4⟩ := h
  have := h3 false rfl
  cases a with
  | none =>
    cases l with
    | nil => rfl
    | cons x l =>
      obtain ⟨ad, e, _⟩ := h4 (by simp [byteCells])
      cases e
  | some a => cases this
theorem slb_cases0 (z : Option Bool) (l : List UInt8) (hl : l ≠ []) : ∀ c u, Rep c (.slb z l) u → ∃ v' ∈ [V.slb (some true) l], Rep c v' u := by
  intro c u h
  obtain ⟨v', hm, hr⟩ := slb_cases z l c u h
  rcases List.mem_cons.1 hm with rfl | hm
  · exact ⟨_, List.mem_cons_self, hr⟩
  · rw [List.mem_singleton.1 hm] at hr; exact absurd (slb_nil hr) hl
end
end Go.AM
end

section
/- AM in use, part 3: the rules of the machine as one set. -/
namespace Go.AM
attribute [go_sem] wkV_r
  wkE_r
  wkEs_r
  wkV
  wkE
  wkEs
  Xok
  Xfail
  XDok
  Spt
  Spf
  Spb
  FnCfn
  happ
  hget
  hnilx
  getB
  setB
  delB
  updB
  delAll
  putAll
  pubs
  segsOf
  splitC
  readSeg
  writeSeg
  loadE
  storeE
  rwV
  Rw.len
  Rw.cut
  Rw.cat
  Rw.nil
  deepen1
  deepenL
  deepen
  deepens
  rowOf
  ekFit
  szFit
  zrow
  rwOf
  pAlloc
  fillE
  elemR
  setR
  al
  bnd
  isPtr
  pNot
  vif
  putAt
  nseg
  ncells
  isSeg
  rn
  renV
  renVs
  renB
  renH
  pass
  passM
  passT
  passN
  passL
  passS
  passE
  passB
  heapOk
  nilRows
  H.nilx
  nlOk
  callH
  callU
  idsV
  idsL
  AllD
  lookE
  disj
  Indep
  pBox_k
  pBuildSlice_k
  pLoad_k
  pStore_k
  pNil_k
  pFieldAddr_k
  pField_k
  pIndexArr_k
  pIndexSl_k
  pIndexStr_k
  pIndexAgg_k
  pLenStr_k
  pLenSl_k
  pLenMap_k
  pSliceStr_k
  pSliceSl_k
  pSliceArr_k
  pAppend_k
  pMake_k
  veqI_k
  veqS_k
  veqB_k
  veqN_k
  veqA_k
  pBin_k
  pUn_k
  pConv_k
  pS2A_k
  pExtract_k
  pMin_k
  pMax_k
  pPick_k
  pCopy_k
  pBuild_k
  pBoxU
  pBuildSliceU
  pLoadU
  pStoreU
  pNilU
  pFieldAddrU
  pFieldU
  pIndexArrU
  pIndexSlU
  pIndexStrU
  pIndexAggU
  pLenStrU
  pLenSlU
  pLenMapU
  pSliceStrU
  pSliceSlU
  pSliceArrU
  pAppendU
  pMakeU
  veqIU
  veqSU
  veqBU
  veqNU
  veqAU
  pBinU
  pUnU
  pConvU
  pS2AU
  pExtractU
  pMinU
  pMaxU
  pPickU
  pCopyU
  pBuildU
  known
  knownL
  knownP
  knownO
  take_map_len
  List.getElem?_cons_zero
  List.getElem?_cons_succ
  cast0
  true_or
  or_true
  List.drop_zero
  List.take_length
  List.take_succ_cons
  List.take_zero
  Nat.mul_one
  Nat.one_mul
  IntKind.bits
  Nat.min_eq_left
  Nat.min_eq_right
  keysOf
  rep32
  List.length_map
  List.getD_cons_zero
  List.getD_cons_succ
  List.map_cons
  List.map_nil
  List.cons_append
  List.nil_append
  List.append_nil
  List.length_cons
  List.length_nil
  List.all_nil
  List.all_cons
  List.contains_nil
  List.contains_cons
  List.reverse_cons
  List.reverse_nil
  true_and
  and_true
  if_true
  if_false
  ite_true
  ite_false
  Nat.zero_lt_succ
  Nat.zero_lt_one
  Nat.add_zero
  Nat.zero_add
  Nat.sub_zero
  Nat.sub_self
  Nat.le_refl
  Nat.zero_le
  Bool.not_true
  Bool.not_false
  Bool.true_or
  Bool.or_true
  Bool.false_or
  Bool.or_false
  Bool.true_and
  Bool.and_true
  Bool.false_and
  Bool.and_false
  Option.isSome_some
  Option.map_some
  Option.map_none
  decide_true
  decide_false
  beq_self_eq_true
  bne_self_eq_false
  eq_self
  and_self
  Bool.false_eq_true
  Option.some.injEq
  Prod.mk.injEq
  ne_eq
  not_true_eq_false
  not_false_eq_true
  false_and
  and_false
  Int.toNat_zero
  decide_eq_true_eq
  List.mem_cons
  List.not_mem_nil
  or_false
  forall_eq
  Nat.lt_irrefl
end Go.AM
end

section
/- AM in use, part 2: plain facts on lists and bytes. -/
namespace Go.AM
theorem u8n (x : UInt8) (n : Nat) (h : n < 256) : ((x.toNat : Int) = (n : Int)) = (x = UInt8.ofNat n) := by
  rw [eq_iff_iff]
  constructor
  · intro e
    apply UInt8.toNat_inj.1
    simp only [UInt8.toNat_ofNat']
    omega
  · rintro rfl; simp only [UInt8.toNat_ofNat']; omega
theorem u8z (x : UInt8) : ((x.toNat : Int) = 0) = (x = 0) := u8n x 0 (by omega)
theorem contains_take (s : List UInt8) (c : UInt8) {i : Nat} (h : i < s.length) : (s.take (i + 1)).contains c = ((s.take i).contains c || (s.getD i 0 == c)) := by
  rw [List.take_succ_eq_append_getElem h, List.getD_eq_getElem?_getD, List.getElem?_eq_getElem h]
  simp only [Option.getD_some, List.contains_eq_any_beq, List.any_append, List.any_cons, List.any_nil, Bool.or_false]
  congr 1
  simp only [Bool.beq_comm]
theorem contains_getD {s : List UInt8} {c : UInt8} {i : Nat} (h : i < s.length) (e : s.getD i 0 = c) : s.contains c = true := by
  rw [List.getD_eq_getElem?_getD, List.getElem?_eq_getElem h] at e
  simp only [Option.getD_some] at e
  simp only [List.contains_eq_mem, decide_eq_true_eq]
  rw [← e]; exact List.getElem_mem h

/-! ### numbers as bytes (7 bits each) -/
def numB (n : Nat) : List UInt8 := if n < 128 then [UInt8.ofNat n] else UInt8.ofNat (n % 128 + 128) :: numB (n / 128)
termination_by n
decreasing_by omega
theorem numB_lt {n : Nat} (h : n < 128) : numB n = [UInt8.ofNat n] := by rw [numB, if_pos h]
theorem numB_ge {n : Nat} (h : ¬ n < 128) : numB n = UInt8.ofNat (n % 128 + 128) :: numB (n / 128) := by rw [numB, if_neg h]
theorem numB_len (k : Nat) : ∀ n : Nat, n < 128 ^ (k + 1) → (numB n).length ≤ k + 1 := by
  induction k with
  | zero => intro n h; rw [numB_lt (by simpa using h)]; simp
  | succ k ih =>
    intro n h
    by_cases h1 : n < 128
    · rw [numB_lt h1]; simp
    · rw [numB_ge h1]
      have := ih (n / 128) (by rw [Nat.pow_succ] at h; omega)
      simp only [List.length_cons]; omega
theorem numB_len9 {n : Nat} (h : n < 9223372036854775808) : (numB n).length ≤ 9 := numB_len 8 n (Nat.lt_of_lt_of_le h (by decide))
theorem numB_pos (n : Nat) : 0 < (numB n).length := by
  by_cases h : n < 128
  · rw [numB_lt h]; simp
  · rw [numB_ge h]; simp
def or128ok (y : Nat) : Bool := vbits .or .u8 (Int.ofNat y) 128 == Int.ofNat (y % 128 + 128)
theorem or128all : (List.range 256).all or128ok = true := by decide +kernel
set_option maxRecDepth 20000 in
theorem or128 (x : Nat) (h : x < 256) : vbits .or .u8 (x : Int) 128 = ((x % 128 + 128 : Nat) : Int) := by
  have h0 := or128all
  have := List.all_eq_true.1 h0 x (List.mem_range.2 h)
  rw [or128ok, beq_iff_eq] at this
  exact this
theorem wu8 (n : Nat) : IntKind.wrap .u8 (n : Int) = ((n % 256 : Nat) : Int) := by
  unfold IntKind.wrap; simp [IntKind.bits, IntKind.signed]
theorem fdivN (a b : Nat) : (a : Int).fdiv (b : Int) = ((a / b : Nat) : Int) := by
  rw [Int.fdiv_eq_ediv_of_nonneg _ (Int.natCast_nonneg b)]; rfl
theorem fdiv128 (a : Nat) : (a : Int).fdiv 128 = ((a / 128 : Nat) : Int) := fdivN a 128
theorem or128w (n : Nat) : vbits .or .u8 (((n % 256 : Nat) : Int)) 128 = ((n % 128 + 128 : Nat) : Int) := by
  rw [or128 _ (Nat.mod_lt _ (by omega))]; congr 1; omega
theorem foldl_take {α β : Type} (f : β → α → β) (a : β) (l : List α) (d : α) {i : Nat} (h : i < l.length) : (l.take (i + 1)).foldl f a = f ((l.take i).foldl f a) (l.getD i d) := by
  rw [List.take_succ_eq_append_getElem h, List.foldl_append, List.getD_eq_getElem?_getD, List.getElem?_eq_getElem h]; rfl
theorem add1w {i n : Nat} (h : i < n) (hn : n ≤ 4611686018427387904) : IntKind.wrap .i64 ((i : Int) + 1) = ((i + 1 : Nat) : Int) := by
  rw [w64 (by omega) (by omega)]; rfl
/-- The first at which a test says yes. -/
theorem find_first {α : Type} (p : α → Bool) (d : α) : ∀ (l : List α) (i : Nat), i < l.length → (∀ j, j < i → p (l.getD j d) = false) → p (l.getD i d) = true → l.find? p = some (l.getD i d)
  | [], i, h, _, _ => by simp at h
  | x :: l, 0, _, _, h => by simp only [List.getD_cons_zero] at h ⊢; rw [List.find?_cons_of_pos h]
  | x :: l, i + 1, h, h1, h2 => by
    have h0 := h1 0 (by omega)
    simp only [List.getD_cons_zero] at h0
    rw [List.find?_cons_of_neg (by simp [h0])]
    simp only [List.getD_cons_succ] at h2 ⊢
    exact find_first p d l i (by simpa using h) (fun j hj => by have := h1 (j + 1) (by omega); simpa using this) h2
theorem find_none {α : Type} (p : α → Bool) (d : α) (l : List α) (h : ∀ j, j < l.length → p (l.getD j d) = false) : l.find? p = none := by
  rw [List.find?_eq_none]
  intro x hx
  obtain ⟨i, hi, rfl⟩ := List.getElem_of_mem hx
  have := h i hi
  rw [List.getD_eq_getElem?_getD, List.getElem?_eq_getElem hi] at this
  simp only [Option.getD_some] at this
  simp [this]
/-- No neighbours for which the test says yes. -/
def nbrs {α : Type} (p : α → α → Bool) : List α → Bool
  | a :: b :: r => !p a b && nbrs p (b :: r)
  | _ => true
theorem nbrs_iff {α : Type} (p : α → α → Bool) (d : α) : ∀ l : List α, nbrs p l = true ↔ ∀ i, i + 1 < l.length → p (l.getD i d) (l.getD (i + 1) d) = false
  | [] => by simp [nbrs]
  | [a] => by simp [nbrs]
  | a :: b :: r => by
    simp only [nbrs, Bool.and_eq_true, Bool.not_eq_true', nbrs_iff p d (b :: r)]
    constructor
    · rintro ⟨h1, h2⟩ i hi
      cases i with
      | zero => simpa using h1
      | succ i => have := h2 i (by simp at hi ⊢; omega); simpa using this
    · intro h
      refine ⟨by have := h 0 (by simp); simpa using this, fun i hi => ?_⟩
      have := h (i + 1) (by simp at hi ⊢; omega)
      simpa using this
theorem flatMap_take {α β : Type} (f : α → List β) (l : List α) (d : α) {i : Nat} (h : i < l.length) : (l.take (i + 1)).flatMap f = (l.take i).flatMap f ++ f (l.getD i d) := by
  rw [List.take_succ_eq_append_getElem h, List.flatMap_append, List.getD_eq_getElem?_getD, List.getElem?_eq_getElem h]; simp
theorem getD_in {α : Type} {l : List α} {d : α} {i : Nat} (h : i < l.length) : l.getD i d ∈ l := by
  rw [List.getD_eq_getElem?_getD, List.getElem?_eq_getElem h]; exact List.getElem_mem _
theorem sub1w {i n : Nat} (h0 : 0 < i) (h : i ≤ n) (hn : n ≤ 4611686018427387904) : IntKind.wrap .i64 ((i : Int) - 1) = ((i - 1 : Nat) : Int) := by
  rw [w64 (by omega) (by omega)]; omega
end Go.AM
end

section
/- AM in use, part 4: what a law's arguments read as. -/
namespace Go.AM

/-- All memory that is there may be read. -/
def cx0 (w : World) : Cx := ⟨w, fun a => a < w.heap.size, fun _ => .dead, 0⟩
theorem dp_cx0 (w : World) : dp (cx0 w) = cx0 w := rfl

inductive All2 {α β : Type} (R : α → β → Prop) : List α → List β → Prop
  | nil : All2 R [] []
  | cons {a b as bs} : R a b → All2 R as bs → All2 R (a :: as) (b :: bs)
theorem mapM_all2 {α β : Type} {f : α → Option β} : ∀ {l : List α} {r : List β}, l.mapM f = some r → All2 (fun x y => f x = some y) l r
  | [], r, h => by simp at h; subst h; exact .nil
  | a :: as, r, h => by
    rw [List.mapM_cons] at h
    cases ha : f a with
    | none => simp [ha] at h
    | some b =>
      cases has : as.mapM f with
      | none => simp [ha, has] at h
      | some bs =>
        simp [ha, has] at h
        subst h
        exact .cons ha (mapM_all2 has)

theorem All2.mono {α β : Type} {R S : α → β → Prop} (h : ∀ a b, R a b → S a b) {l : List α} {m : List β} (x : All2 R l m) : All2 S l m := by
  induction x with
  | nil => exact .nil
  | cons h1 _ ih => exact .cons (h _ _ h1) ih
theorem All2.len {α β : Type} {R : α → β → Prop} {l : List α} {m : List β} (x : All2 R l m) : m.length = l.length := by
  induction x with
  | nil => rfl
  | cons _ _ ih => simp [ih]
theorem All2.get {α β : Type} {R : α → β → Prop} {l : List α} {m : List β} (x : All2 R l m) : ∀ (i : Nat) (a : α), l[i]? = some a → ∃ b : β, m[i]? = some b ∧ R a b := by
  induction x with
  | nil => intro i a h; simp at h
  | cons h1 _ ih =>
    intro i a h
    cases i with
    | zero => simp at h; subst h; exact ⟨_, rfl, h1⟩
    | succ i => simp at h; simpa using ih i a h
/-- Fields one behind the other. -/
def tile (P : Program) : Nat → List Field → Nat → Bool
  | a, [], n => a == n
  | a, f :: r, n => f.offset == a && tile P (a + P.cellsOf f.type) r n

/-- What segments of a type are like; nothing in them is longer than 'B' bytes. -/
def Has (P : Program) (B : Nat) : Nat → TypeId → List V → Prop
  | 0, _, _ => False
  | f + 1, t, e => match P.underlying t with
    | some .bool => ∃ b, e = [.bool b]
    | some (.int k) => ∃ n, e = [.int k n] ∧ (Lit.int k n).wf = true
    | some .string => ∃ l, e = [.str l] ∧ l.length ≤ B
    | some (.slice el) => match P.underlying el with
      | some (.int .u8) => ∃ l, e = [.slb none l] ∧ l.length * P.bytesOf el ≤ B
      | some (.int k) => ∃ l, e = [.sli none k l] ∧ l.length * P.bytesOf el ≤ B ∧ ∀ n ∈ l, (Lit.int k n).wf = true
      | some .string => ∃ l, e = [.sls none l] ∧ l.length * P.bytesOf el ≤ B ∧ ∀ s ∈ l, s.length ≤ B
      | _ => ∃ l, e = [.sle none (P.cellsOf el) l] ∧ l.length * P.bytesOf el ≤ B ∧ ∀ x ∈ l, Has P B f el x
    | some (.struct fs) => ∃ es, e = es.flatten ∧ All2 (fun fd x => Has P B f fd.type x) fs.toList es
    | some (.array n el) => match P.underlying el with
      | some (.int .u8) => ∃ l, e = [.byt n l] ∧ l.length = n
      | some (.int k) => ∃ l, e = [.arr k n l] ∧ l.length = n ∧ ∀ m ∈ l, (Lit.int k m).wf = true
      | _ => False
    | _ => False

/-- Types that are read, with all that they lead to. -/
def closedB (P : Program) (S : List TypeId) : Bool := S.all fun t => match P.underlying t with
  | some .bool | some (.int _) | some .string => true
  | some (.slice e) => S.contains e && decide (0 < P.cellsOf e)
  | some (.struct fs) => (fs.toList.all fun f => S.contains f.type) && tile P 0 fs.toList (P.cellsOf t)
  | some (.array n e) => match P.underlying e with
    | some (.int _) => P.cellsOf e == 1 && P.cellsOf t == n
    | _ => false
  | _ => false

section
variable {H : Type} {enc : TypeId × Value → H} {P : Program} {w : World} {sp : Nat → Bool} {held : Bool} {S : List TypeId}

theorem segs_one {v : V} {u : Value} (hs : isSeg v = false) (h1 : u.oneCell' = true) (hr : Rep (cx0 w) v u) : Segs (cx0 w) [v] [u] :=
  (segs_cons hs).2 ⟨u, [], rfl, h1, hr, rfl⟩
theorem segs_app {c : Cx} : ∀ {e e' : List V} {cs cs' : List Value}, Segs c e cs → Segs c e' cs' → Segs c (e ++ e') (cs ++ cs')
  | [], e', cs, cs', h, h' => by cases h; exact h'
  | v :: r, e', cs, cs', h, h' => by
    cases v
    case arr k n l => obtain ⟨b, h1, h2, h3⟩ := h; exact ⟨b ++ cs', h1, by rw [h2, List.append_assoc], segs_app h3 h'⟩
    case byt n l => obtain ⟨b, h1, h2, h3⟩ := h; exact ⟨b ++ cs', h1, by rw [h2, List.append_assoc], segs_app h3 h'⟩
    all_goals (obtain ⟨u, b, h1, h2, h3, h4⟩ := h; exact ⟨u, b ++ cs', by rw [h1]; rfl, h2, h3, segs_app h4 h'⟩)

theorem bool_inv {fuel : Nat} {t : TypeId} {cs : List Value} {d : DataW H} {ps : List MemPlace} (hu : P.underlying t = some .bool) (h : DataW.trod enc P w 0 sp held (fuel + 1) t cs = some (d, ps)) : ∃ b, cs = [.bool b] := by
  rw [DataW.trod_step] at h
  simp only [DataW.trodStep, hu] at h
  rcases cs with _ | ⟨u, _ | ⟨u2, r⟩⟩
  · simp at h
  · cases u <;> simp at h
    exact ⟨_, rfl⟩
  · simp at h
theorem int_inv {fuel : Nat} {t : TypeId} {k : IntKind} {cs : List Value} {d : DataW H} {ps : List MemPlace} (hu : P.underlying t = some (.int k)) (h : DataW.trod enc P w 0 sp held (fuel + 1) t cs = some (d, ps)) : ∃ n, cs = [.int k n] ∧ (Lit.int k n).wf = true := by
  rw [DataW.trod_step] at h
  simp only [DataW.trodStep, hu] at h
  rcases cs with _ | ⟨u, _ | ⟨u2, r⟩⟩
  · simp at h
  · cases u <;> simp at h
    obtain ⟨⟨rfl, h1⟩, _⟩ := h
    exact ⟨_, rfl, h1⟩
  · simp at h
theorem str_inv {fuel : Nat} {t : TypeId} {cs : List Value} {d : DataW H} {ps : List MemPlace} (hu : P.underlying t = some .string) (h : DataW.trod enc P w 0 sp held (fuel + 1) t cs = some (d, ps)) : ∃ l, cs = [.string (bs l)] ∧ d = .lit (.string l) := by
  rw [DataW.trod_step] at h
  simp only [DataW.trodStep, hu] at h
  rcases cs with _ | ⟨u, _ | ⟨u2, r⟩⟩
  · simp at h
  · cases u <;> simp at h
    rename_i s
    obtain ⟨_, rfl, _⟩ := h
    exact ⟨s.data.toList, rfl, rfl⟩
  · simp at h
theorem slice_inv {fuel : Nat} {t e : TypeId} {cs : List Value} {d : DataW H} {ps : List MemPlace} (hu : P.underlying t = some (.slice e)) (h : DataW.trod enc P w 0 sp held (fuel + 1) t cs = some (d, ps)) :
    (cs = [.slice none 0 0] ∧ d = .nil) ∨ ∃ a len cap, ∃ elems rest : List (DataW H × List MemPlace), cs = [.slice (some a) len cap] ∧ len ≤ cap ∧
      All2 (fun i x => ∃ c, w.cells? 0 (a.add (i * P.cellsOf e)) (P.cellsOf e) = some c ∧ DataW.trod enc P w 0 sp held fuel e c = some x) (List.range len) elems ∧ d = .slice (elems.map (·.1)) (rest.map (·.1)) := by
  rw [DataW.trod_step] at h
  simp only [DataW.trodStep, hu] at h
  rcases cs with _ | ⟨u, _ | ⟨u2, r⟩⟩
  · simp at h
  · cases u
    case slice a len cap =>
      cases a with
      | none =>
        left
        cases len <;> cases cap <;> simp at h
        exact ⟨rfl, h.1.symm⟩
      | some a =>
        right
        simp only at h
        split at h
        · rename_i hc
          simp only [Option.bind_eq_some_iff, Option.map_eq_some_iff, Prod.mk.injEq] at h
          obtain ⟨elems, he, rest, _, rfl, _⟩ := h
          refine ⟨a, len, cap, elems, rest, rfl, hc.2.1, ?_, rfl⟩
          exact (mapM_all2 he).mono fun i x h => by simpa only [Option.bind_eq_some_iff] using h
        · cases h
    all_goals simp at h
  · simp at h
theorem struct_inv {fuel : Nat} {t : TypeId} {fs : Array Field} {cs : List Value} {d : DataW H} {ps : List MemPlace} (hu : P.underlying t = some (.struct fs)) (h : DataW.trod enc P w 0 sp held (fuel + 1) t cs = some (d, ps)) :
    cs.length = P.cellsOf t ∧ ∃ xs : List (DataW H × List MemPlace), All2 (fun f x => DataW.trod enc P w 0 sp held fuel f.type ((cs.drop f.offset).take (P.cellsOf f.type)) = some x) fs.toList xs ∧ d = .agg (xs.map (·.1)) := by
  rw [DataW.trod_step] at h
  simp only [DataW.trodStep, hu] at h
  split at h
  · rename_i hc
    simp only [Option.map_eq_some_iff, Prod.mk.injEq] at h
    obtain ⟨xs, hx, rfl, _⟩ := h
    exact ⟨hc, xs, mapM_all2 hx, rfl⟩
  · cases h
theorem array_inv {fuel n : Nat} {t e : TypeId} {cs : List Value} {d : DataW H} {ps : List MemPlace} (hu : P.underlying t = some (.array n e)) (h : DataW.trod enc P w 0 sp held (fuel + 1) t cs = some (d, ps)) :
    cs.length = P.cellsOf t ∧ ∃ xs : List (DataW H × List MemPlace), All2 (fun i x => DataW.trod enc P w 0 sp held fuel e ((cs.drop (i * P.cellsOf e)).take (P.cellsOf e)) = some x) (List.range n) xs ∧ d = .agg (xs.map (·.1)) := by
  rw [DataW.trod_step] at h
  simp only [DataW.trodStep, hu] at h
  split at h
  · rename_i hc
    simp only [Option.map_eq_some_iff, Prod.mk.injEq] at h
    obtain ⟨xs, hx, rfl, _⟩ := h
    exact ⟨hc, xs, mapM_all2 hx, rfl⟩
  · cases h

/-- The elements of a slice, cell by cell. -/
theorem els_read {B fuel sz : Nat} {e : TypeId} {a : Addr} (hsz : sz = P.cellsOf e) (hpos : 0 < sz) (ih : ∀ (cs : List Value) (d : DataW H) (ps : List MemPlace), DataW.trod enc P w 0 sp held fuel e cs = some (d, ps) → (d.weights P e).all (· ≤ B) = true → ∃ segs, Segs (cx0 w) segs cs ∧ Has P B fuel e segs) :
    ∀ (is : List Nat) (elems : List (DataW H × List MemPlace)) (i0 : Nat), is = List.range' i0 is.length → All2 (fun i x => ∃ c, w.cells? 0 (a.add (i * P.cellsOf e)) (P.cellsOf e) = some c ∧ DataW.trod enc P w 0 sp held fuel e c = some x) is elems →
      (DataW.weightsAll P e (elems.map (·.1))).all (· ≤ B) = true →
      ∃ (l : List (List V)) (cs : List Value), Elems (cx0 w) sz l cs ∧ l.length = is.length ∧ cs.length = is.length * sz ∧ (∀ x ∈ l, Has P B fuel e x) ∧ (is ≠ [] → a.block < w.heap.size) ∧ ∀ j u, cs[j]? = some u → w.cell? (a.add (i0 * sz + j)) = some u := by
  intro is
  induction is with
  | nil =>
    intro elems i0 _ h _
    cases h
    exact ⟨[], [], rfl, rfl, by simp, (fun _ h => by cases h), (fun h => absurd rfl h), (fun j u h => by simp at h)⟩
  | cons i is ihl =>
    intro elems i0 hr h hw
    simp only [List.length_cons, List.range'_succ, List.cons.injEq] at hr
    obtain ⟨rfl, hr⟩ := hr
    cases h with
    | cons h1 h2 =>
      rename_i x xs
      obtain ⟨c, hc, ht⟩ := h1
      obtain ⟨d, ps⟩ := x
      simp only [List.map_cons, DataW.weightsAll, List.all_append, Bool.and_eq_true] at hw
      obtain ⟨segs, s1, s2⟩ := ih c d ps ht hw.1
      obtain ⟨l, cs, g1, g2, g3, g4, g5, g6⟩ := ihl xs (i + 1) hr h2 hw.2
      obtain ⟨_, hcl, hcc⟩ := World.cells?_some hc
      have hblk : a.block < w.heap.size := by
        have := World.cells?_block hc (by omega)
        rwa [add_block] at this
      refine ⟨segs :: l, c ++ cs, ⟨c, cs, rfl, by omega, s1, g1⟩, by simp [g2], by simp [g3, hcl, Nat.succ_mul]; omega, ?_, fun _ => hblk, fun j u hj => ?_⟩
      · intro x hx
        rcases List.mem_cons.1 hx with rfl | hx
        · exact s2
        · exact g4 x hx
      · by_cases hj' : j < c.length
        · rw [List.getElem?_append_left hj'] at hj
          have := hcc j (by omega)
          rw [hj, add_add] at this
          rw [hsz]; exact this
        · rw [List.getElem?_append_right (by omega)] at hj
          have := g6 _ _ hj
          rw [show i * sz + j = (i + 1) * sz + (j - c.length) by rw [Nat.succ_mul]; omega]
          exact this

theorem weights_slice {e t : TypeId} {B : Nat} {d : DataW H} {elems rest : List (DataW H)} (hu : P.underlying t = some (.slice e)) (hd : d = .slice elems rest) (hw : (d.weights P t).all (· ≤ B) = true) : elems.length * P.bytesOf e ≤ B ∧ (DataW.weightsAll P e elems).all (· ≤ B) = true := by
  subst hd
  simp only [DataW.weights, hu, List.all_cons, List.all_append, Bool.and_eq_true, decide_eq_true_eq] at hw
  refine ⟨Nat.le_trans (Nat.mul_le_mul_right _ (Nat.le_add_right _ _)) hw.1, hw.2.1⟩
theorem mem_ne {is : List Nat} {n : Nat} (h : is = List.range n) (hn : 0 < n) : is ≠ [] := by
  intro e; rw [e] at h; have := congrArg List.length h; simp at this; omega
theorem ints_of {k : IntKind} {sz : Nat} : ∀ {l : List (List V)} {cs : List Value}, Elems (cx0 w) sz l cs → (∀ x ∈ l, ∃ n, x = [.int k n] ∧ (Lit.int k n).wf = true) → ∃ ns : List Int, cs = intCells k ns ∧ ns.length = l.length ∧ ∀ n ∈ ns, (Lit.int k n).wf = true
  | [], cs, h, _ => by cases h; exact ⟨[], rfl, rfl, fun _ h => by cases h⟩
  | x :: l, cs, h, hx => by
    obtain ⟨a, b, rfl, h2, h3, h4⟩ := h
    obtain ⟨n, rfl, hn⟩ := hx x List.mem_cons_self
    obtain ⟨ns, rfl, e2, e3⟩ := ints_of h4 (fun y hy => hx y (List.mem_cons_of_mem _ hy))
    obtain ⟨u, b, rfl, _, hu, hb⟩ := h3
    cases hb; cases hu
    refine ⟨n :: ns, rfl, by simp [e2], fun m hm => ?_⟩
    rcases List.mem_cons.1 hm with rfl | hm
    · exact hn
    · exact e3 m hm
theorem bytes_of {sz : Nat} {l : List (List V)} {cs : List Value} (h : Elems (cx0 w) sz l cs) (hx : ∀ x ∈ l, ∃ n, x = [.int .u8 n] ∧ (Lit.int .u8 n).wf = true) : ∃ ns : List UInt8, cs = byteCells ns ∧ ns.length = l.length := by
  obtain ⟨ns, e1, e2, e3⟩ := ints_of h hx
  refine ⟨ns.map fun n => UInt8.ofNat n.toNat, ?_, by simp [e2]⟩
  rw [e1]
  unfold intCells byteCells
  rw [List.map_map]
  apply List.map_congr_left
  intro n hn
  have := e3 n hn
  simp [Lit.wf, IntKind.min, IntKind.max, IntKind.signed, IntKind.bits] at this
  simp only [Function.comp, UInt8.toNat_ofNat']
  congr 1
  omega
theorem strs_of {B sz : Nat} : ∀ {l : List (List V)} {cs : List Value}, Elems (cx0 w) sz l cs → (∀ x ∈ l, ∃ s, x = [.str s] ∧ s.length ≤ B) → ∃ ns : List (List UInt8), cs = strCells ns ∧ ns.length = l.length ∧ ∀ s ∈ ns, s.length ≤ B
  | [], cs, h, _ => by cases h; exact ⟨[], rfl, rfl, fun _ h => by cases h⟩
  | x :: l, cs, h, hx => by
    obtain ⟨a, b, rfl, h2, h3, h4⟩ := h
    obtain ⟨n, rfl, hn⟩ := hx x List.mem_cons_self
    obtain ⟨ns, rfl, e2, e3⟩ := strs_of h4 (fun y hy => hx y (List.mem_cons_of_mem _ hy))
    obtain ⟨u, b, rfl, _, hu, hb⟩ := h3
    cases hb; cases hu
    refine ⟨n :: ns, rfl, by simp [e2], fun m hm => ?_⟩
    rcases List.mem_cons.1 hm with rfl | hm
    · exact hn
    · exact e3 m hm

theorem struct_read {B fuel : Nat} (ih : ∀ (t : TypeId) (cs : List Value) (d : DataW H) (ps : List MemPlace), t ∈ S → DataW.trod enc P w 0 sp held fuel t cs = some (d, ps) → (d.weights P t).all (· ≤ B) = true → ∃ segs, Segs (cx0 w) segs cs ∧ Has P B fuel t segs) (cs : List Value) :
    ∀ (fs : List Field) (xs : List (DataW H × List MemPlace)) (a n : Nat), tile P a fs n = true → cs.length = n → (fs.all fun f => S.contains f.type) = true →
      All2 (fun f x => DataW.trod enc P w 0 sp held fuel f.type ((cs.drop f.offset).take (P.cellsOf f.type)) = some x) fs xs → (DataW.weightsEach P (fs.map (·.type)) (xs.map (·.1))).all (· ≤ B) = true →
      ∃ es, Segs (cx0 w) es.flatten (cs.drop a) ∧ All2 (fun fd x => Has P B fuel fd.type x) fs es
  | [], xs, a, n, ht, hl, _, h, _ => by
    simp only [tile, beq_iff_eq] at ht
    exact ⟨[], by rw [List.drop_of_length_le (by omega)]; rfl, .nil⟩
  | f :: fs, xs, a, n, ht, hl, hS, h, hw => by
    simp only [tile, Bool.and_eq_true, beq_iff_eq] at ht
    simp only [List.all_cons, Bool.and_eq_true] at hS
    cases h with
    | cons h1 h2 =>
      rename_i x xs
      obtain ⟨d, ps⟩ := x
      simp only [List.map_cons, DataW.weightsEach, List.all_append, Bool.and_eq_true] at hw
      obtain ⟨segs, s1, s2⟩ := ih _ _ d ps (by simpa using hS.1) h1 hw.1
      obtain ⟨es, g1, g2⟩ := struct_read ih cs fs xs (a + P.cellsOf f.type) n ht.2 hl hS.2 h2 hw.2
      refine ⟨segs :: es, ?_, .cons s2 g2⟩
      rw [ht.1] at s1
      have : cs.drop a = (cs.drop a).take (P.cellsOf f.type) ++ cs.drop (a + P.cellsOf f.type) := by
        rw [← List.drop_drop, List.take_append_drop]
      rw [this, List.flatten_cons]
      exact segs_app s1 g1

theorem arr_read {fuel : Nat} {e : TypeId} {k : IntKind} (hu : P.underlying e = some (.int k)) (h1 : P.cellsOf e = 1) (cs : List Value) : ∀ (is : List Nat) (xs : List (DataW H × List MemPlace)) (i0 : Nat), is = List.range' i0 is.length → i0 + is.length = cs.length →
      All2 (fun i x => DataW.trod enc P w 0 sp held (fuel + 1) e ((cs.drop (i * P.cellsOf e)).take (P.cellsOf e)) = some x) is xs → ∃ ns : List Int, cs.drop i0 = intCells k ns ∧ ns.length = is.length ∧ ∀ n ∈ ns, (Lit.int k n).wf = true
  | [], xs, i0, _, hl, _ => ⟨[], by rw [List.drop_of_length_le (by simp at hl; omega)]; rfl, rfl, fun _ h => by cases h⟩
  | i :: is, xs, i0, hr, hl, h => by
    simp only [List.length_cons, List.range'_succ, List.cons.injEq] at hr
    obtain ⟨rfl, hr⟩ := hr
    cases h with
    | cons g1 g2 =>
      rename_i x xs
      obtain ⟨d, ps⟩ := x
      obtain ⟨n, hn, hwf⟩ := int_inv hu g1
      obtain ⟨ns, e1, e2, e3⟩ := arr_read hu h1 cs is xs (i + 1) hr (by simp at hl ⊢; omega) g2
      rw [h1, Nat.mul_one] at hn
      refine ⟨n :: ns, ?_, by simp [e2], fun m hm => ?_⟩
      · have : cs.drop i = (cs.drop i).take 1 ++ cs.drop (i + 1) := by rw [← List.drop_drop, List.take_append_drop]
        rw [this, hn, e1]; rfl
      · rcases List.mem_cons.1 hm with rfl | hm
        · exact hwf
        · exact e3 m hm

theorem Has_ints {B f : Nat} {t : TypeId} {k : IntKind} {e : List V} (hu : P.underlying t = some (.int k)) (h : Has P B f t e) : ∃ n, e = [.int k n] ∧ (Lit.int k n).wf = true := by
  cases f with
  | zero => exact h.elim
  | succ f => unfold Has at h; rw [hu] at h; exact h
theorem Has_str {B f : Nat} {t : TypeId} {e : List V} (hu : P.underlying t = some .string) (h : Has P B f t e) : ∃ l, e = [.str l] ∧ l.length ≤ B := by
  cases f with
  | zero => exact h.elim
  | succ f => unfold Has at h; rw [hu] at h; exact h
theorem sl_of {e : TypeId} {a : Addr} {len cap : Nat} {cs : List Value} (hlc : len ≤ cap) (hb : cs ≠ [] → a.block < w.heap.size) (hc : ∀ j u, cs[j]? = some u → w.cell? (a.add (0 * P.cellsOf e + j)) = some u) : Sl (cx0 w) none len cs (.slice (some a) len cap) :=
  ⟨some a, cap, rfl, hlc, (fun b hb => by cases hb), fun hne => ⟨a, rfl, hb hne, fun j u hj => by have := hc j u hj; rwa [Nat.zero_mul, Nat.zero_add] at this⟩⟩
theorem nil_of : Sl (cx0 w) none 0 [] (.slice none 0 0) := ⟨none, 0, rfl, Nat.le_refl _, (fun b hb => by cases hb), fun h => absurd rfl h⟩

theorem trod_has {B : Nat} (hS : closedB P S = true) : ∀ (fuel : Nat) (t : TypeId) (cs : List Value) (d : DataW H) (ps : List MemPlace), t ∈ S → DataW.trod enc P w 0 sp held fuel t cs = some (d, ps) → (d.weights P t).all (· ≤ B) = true →
    ∃ segs, Segs (cx0 w) segs cs ∧ Has P B fuel t segs := by
  intro fuel
  induction fuel with
  | zero => intro t cs d ps _ h; simp [DataW.trod] at h
  | succ fuel ih =>
    intro t cs d ps ht h hw
    have hc := List.all_eq_true.1 hS t ht
    unfold Has
    cases hu : P.underlying t with
    | none => rw [hu] at hc; cases hc
    | some x =>
      rw [hu] at hc
      cases x <;> first | (simp at hc; done) | skip
      case bool =>
        obtain ⟨b, rfl⟩ := bool_inv hu h
        exact ⟨[.bool b], segs_one rfl rfl rfl, b, rfl⟩
      case int k =>
        obtain ⟨n, rfl, hn⟩ := int_inv hu h
        exact ⟨[.int k n], segs_one rfl rfl rfl, n, rfl, hn⟩
      case string =>
        obtain ⟨l, rfl, rfl⟩ := str_inv hu h
        exact ⟨[.str l], segs_one rfl rfl rfl, l, rfl, by simpa [DataW.weights] using hw⟩
      case slice el =>
        simp only [Bool.and_eq_true, decide_eq_true_eq] at hc
        have hel : el ∈ S := by simpa using hc.1
        rcases slice_inv hu h with ⟨rfl, rfl⟩ | ⟨a, len, cap, elems, rest, rfl, hlc, hall, hd⟩
        · cases hue : P.underlying el with
          | none => have := List.all_eq_true.1 hS el hel; rw [hue] at this; cases this
          | some y =>
            try simp only [hue]
            cases y <;> first
              | exact ⟨[.sle none (P.cellsOf el) []], segs_one rfl rfl ⟨[], rfl, nil_of⟩, [], rfl, by simp, (fun x hx => by cases hx)⟩
              | exact ⟨[.sls none []], segs_one rfl rfl nil_of, [], rfl, by simp, (fun x hx => by cases hx)⟩
              | skip
            case int k =>
              cases k <;> first
                | exact ⟨[.slb none []], segs_one rfl rfl nil_of, [], rfl, by simp⟩
                | exact ⟨[.sli none _ []], segs_one rfl rfl nil_of, ⟨[], rfl, by simp, (fun x hx => by cases hx)⟩⟩
        · obtain ⟨w1, w2⟩ := weights_slice hu hd hw
          have hlen := hall.len
          rw [List.length_range] at hlen
          rw [List.length_map, hlen] at w1
          have pos : 0 < P.cellsOf el := hc.2
          obtain ⟨l, cc, e1, e2, e3, e4, e5, e6⟩ := els_read (sz := P.cellsOf el) rfl pos (fun cs d ps h hw => ih el cs d ps hel h hw) (List.range len) elems 0 (by rw [List.length_range, List.range_eq_range']) hall w2
          rw [List.length_range] at e2 e3
          have hb : cc ≠ [] → a.block < w.heap.size := fun hne => e5 (by
            intro h0
            have : len = 0 := by have := congrArg List.length h0; simpa using this
            rw [this] at e3; exact hne (List.eq_nil_of_length_eq_zero (by omega)))
          have base : Sl (cx0 w) none len cc (.slice (some a) len cap) := sl_of hlc hb e6
          cases hue : P.underlying el with
          | none => have := List.all_eq_true.1 hS el hel; rw [hue] at this; cases this
          | some y =>
            try simp only [hue]
            cases y <;> first
              | exact ⟨[.sle none (P.cellsOf el) l], segs_one rfl rfl ⟨cc, e1, by rw [e2]; exact base⟩, l, rfl, by rw [e2]; exact w1, e4⟩
              | skip
            case string =>
              obtain ⟨ns, rfl, n2, n3⟩ := strs_of e1 (fun x hx => Has_str hue (e4 x hx))
              exact ⟨[.sls none ns], segs_one rfl rfl (by show Sl _ _ ns.length _ _; rw [n2, e2]; exact base), ns, rfl, by rw [n2, e2]; exact w1, n3⟩
            case int k =>
              have hints := fun x hx => Has_ints hue (e4 x hx)
              by_cases hk : k = .u8
              · subst hk
                obtain ⟨ns, rfl, n2⟩ := bytes_of e1 hints
                exact ⟨[.slb none ns], segs_one rfl rfl (by show Sl _ _ ns.length _ _; rw [n2, e2]; exact base), ns, rfl, by rw [n2, e2]; exact w1⟩
              · obtain ⟨ns, rfl, n2, n3⟩ := ints_of e1 hints
                cases k <;> first
                  | exact absurd rfl hk
                  | exact ⟨[.sli none _ ns], segs_one rfl rfl (by show Sl _ _ ns.length _ _; rw [n2, e2]; exact base), ns, rfl, by rw [n2, e2]; exact w1, n3⟩
      case struct fs =>
        simp only [Bool.and_eq_true] at hc
        obtain ⟨hl, xs, hx, rfl⟩ := struct_inv hu h
        simp only [DataW.weights, hu] at hw
        obtain ⟨es, g1, g2⟩ := struct_read (S := S) (fun t cs d ps ht h hw => ih t cs d ps ht h hw) cs fs.toList xs 0 _ hc.2 hl hc.1 hx hw
        exact ⟨es.flatten, by rw [List.drop_zero] at g1; exact g1, es, rfl, g2⟩
      case array n el =>
        simp only at hc
        cases hue : P.underlying el with
        | none => rw [hue] at hc; cases hc
        | some y =>
          rw [hue] at hc
          cases y <;> first | (simp at hc; done) | skip
          case int k =>
            simp only [Bool.and_eq_true, beq_iff_eq] at hc
            obtain ⟨hl, xs, hx, rfl⟩ := array_inv hu h
            cases fuel with
            | zero =>
              cases n with
              | zero =>
                have : cs = [] := List.eq_nil_of_length_eq_zero (by omega)
                subst this
                try simp only [hue]
                by_cases hk : k = .u8
                · subst hk; exact ⟨[.byt 0 []], ⟨[], rfl, rfl, rfl⟩, [], rfl, rfl⟩
                · cases k <;> first
                    | exact absurd rfl hk
                    | exact ⟨[.arr _ 0 []], ⟨[], rfl, rfl, rfl⟩, [], rfl, rfl, (fun x hx => by cases hx)⟩
              | succ n =>
                rw [List.range_succ_eq_map] at hx
                cases hx with
                | cons h1 _ => simp [DataW.trod] at h1
            | succ fuel =>
              obtain ⟨ns, e1, e2, e3⟩ := arr_read hue hc.1 cs (List.range n) xs 0 (by rw [List.length_range, List.range_eq_range']) (by rw [List.length_range]; omega) hx
              rw [List.drop_zero] at e1
              rw [List.length_range] at e2
              try simp only [hue]
              by_cases hk : k = .u8
              · subst hk
                refine ⟨[.byt n (ns.map fun m => UInt8.ofNat m.toNat)], ⟨[], by simp [e2], ?_, rfl⟩, _, rfl, by simp [e2]⟩
                rw [e1, List.append_nil]
                unfold intCells byteCells
                rw [List.map_map]
                apply List.map_congr_left
                intro m hm
                have := e3 m hm
                simp [Lit.wf, IntKind.min, IntKind.max, IntKind.signed, IntKind.bits] at this
                simp only [Function.comp, UInt8.toNat_ofNat']
                congr 1
                omega
              · cases k <;> first
                  | exact absurd rfl hk
                  | exact ⟨[.arr _ n ns], ⟨[], e2, by rw [e1, List.append_nil], rfl⟩, ns, rfl, e2, e3⟩

theorem calls_of_pu {f : FuncId} {vals : List V} {us : List Value} {b : Bool} (hT : Pu P f vals (.bool b)) (hr : Reps (cx0 w) vals us) : Calls P f ⟨us⟩ w fun e w' => e = .returned (.bool b) ∧ RowKit.Below w.heap.size w w' := by
  have hs : HS w.heap.size (foot 0 (cx0 w).φ) (cx0 w) [] := ⟨(fun i x h => by cases h), (fun _ _ => rfl), (fun i a s h => by cases h), (fun i j a s s' h => by cases h), (fun a ha => ha)⟩
  refine (hT.2.2 w _ _ us hs hr).mono ?_
  rintro e w' ⟨u, c, rfl, rfl, p⟩
  have hu : u = .bool b := p.res
  subst hu
  refine ⟨rfl, ⟨p.frame.os, p.frame.tape, p.frame.output, p.frame.size, fun k hk => p.frame.blk k hk ?_⟩⟩
  rintro ⟨i, s, hi, _⟩
  exact absurd hi (Nat.not_lt_zero _)
theorem reps1 {v : V} {u : Value} (h : Rep (cx0 w) v u) : Reps (cx0 w) [v] [u] := ⟨u, [], rfl, h, rfl⟩
theorem reps2 {v1 v2 : V} {u1 u2 : Value} (h1 : Rep (cx0 w) v1 u1) (h2 : Rep (cx0 w) v2 u2) : Reps (cx0 w) [v1, v2] [u1, u2] := ⟨u1, [u2], rfl, h1, reps1 h2⟩
theorem reps3 {v1 v2 v3 : V} {u1 u2 u3 : Value} (h1 : Rep (cx0 w) v1 u1) (h2 : Rep (cx0 w) v2 u2) (h3 : Rep (cx0 w) v3 u3) : Reps (cx0 w) [v1, v2, v3] [u1, u2, u3] := ⟨u1, [u2, u3], rfl, h1, reps2 h2 h3⟩
/-- A struct's value, read. -/
theorem agg_rep {t : TypeId} {base : Nat} {r : Reach} {fs : Array Field} {v : Value} {segs : List V} (hu : P.underlying t = some (.struct fs)) (hv : Value.okWide P w r base t v) (hs : Segs (cx0 w) segs v.cells.toList) : Rep (cx0 w) (.agg segs) v := by
  unfold Value.okWide at hv
  rw [hu] at hv
  obtain ⟨cs, rfl, _⟩ := hv
  exact ⟨cs.toList, rfl, hs⟩
theorem one_rep {sg : V} {v : Value} (hn : isSeg sg = false) (h1 : v.cells.toList = [v]) (hs : Segs (cx0 w) [sg] v.cells.toList) : Rep (cx0 w) sg v := by
  rw [h1] at hs
  obtain ⟨u, b, e, _, hr, _⟩ := (segs_cons hn).1 hs
  cases e; exact hr
theorem trod_segs {B : Nat} {t : TypeId} {v : Value} {d : DataW H} {ps : List MemPlace} (hS : closedB P S = true) (ht : t ∈ S) (h : DataW.Trod enc P w 0 sp held t v d ps) (hw : (d.weights P t).all (· ≤ B) = true) : ∃ segs f, Segs (cx0 w) segs v.cells.toList ∧ Has P B f t segs := by
  obtain ⟨fuel, h⟩ := h
  obtain ⟨segs, h1, h2⟩ := trod_has hS fuel t _ d ps ht h hw
  exact ⟨segs, fuel, h1, h2⟩
theorem weights_all {ts : List TypeId} {ds : List (DataW H)} {j : Nat} {t : TypeId} {d : DataW H} (h : (DataW.weightsEach P ts ds).all (· ≤ reachBytes) = true) (ht : ts[j]? = some t) (hd : ds[j]? = some d) : (d.weights P t).all (· ≤ reachBytes) = true :=
  List.all_eq_true.2 fun x hx => List.all_eq_true.1 h x (DataW.weights_mem_each ht hd x hx)
end
end Go.AM
end
