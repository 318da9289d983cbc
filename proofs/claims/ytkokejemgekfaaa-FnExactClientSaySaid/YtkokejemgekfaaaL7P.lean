/- Plain laws about what the functions compute; no condition. -/
import Derived.Test.YtkokejemgekfaaaL7Tw
import Derived.IntWalk
set_option linter.unusedVariables false
set_option linter.unusedSimpArgs false
/- How twins are taken apart. -/
namespace Go.Den.L7
open Go Go.IntWalk
theorem chk_true (x : Rs) : chk true x = x := rfl
theorem chk_ok {b : Bool} (h : b = true) (x : Rs) : chk b x = x := by rw [h]; rfl
attribute [simp] chk_true okR isVs isV isD isDs isOs resC outC nthR nthO cellsDV nthD asB asI asS asL
theorem bool_some (a b : Bool) (h : a = b) : (some ([DV.one (.b a)], ([] : List (List D))) : Rs) = some ([.one (.b b)], []) := by rw [h]
theorem nil_toList : (⟨#[]⟩ : ByteArray).toList = [] := by rw [ByteArray.toList_eq]
theorem toList_nil (s : ByteArray) : s.toList = [] ↔ (s.size : Int) = 0 := by
  have e : s.size = s.data.toList.length := by rw [Array.length_toList]; rfl
  rw [ByteArray.toList_eq, e]
  cases s.data.toList <;> simp <;> omega
theorem toList_isEmpty (s : ByteArray) : s.toList.isEmpty = decide ((s.size : Int) = 0) := by
  rw [Bool.eq_iff_iff, List.isEmpty_iff, toList_nil]; simp
attribute [simp] nil_toList toList_nil toList_isEmpty
theorem KK_eq : KK = 18446744073709551616 := Classical.choose_spec (⟨2 ^ 64, rfl⟩ : ∃ n : Nat, n = 2 ^ 64)
theorem w64_in (n : Int) (h : -9223372036854775808 ≤ n ∧ n ≤ 9223372036854775807) : w64 n = n := i64_in n h
theorem getD_in {l : List (List D)} {i : Nat} (hi : i < l.length) : l.getD i [] = l[i] := by simp [List.getD, hi]
theorem getD_row {l : List (List D)} {es : List Sh} (h : ∀ r ∈ l, typL es r) {i : Nat} (hi : i < l.length) : typL es (l.getD i []) := by
  rw [getD_in hi]; exact h _ (List.getElem_mem hi)
theorem w64_succ (i : Nat) (h : i < 4611686018427387904) : w64 ((i : Int) + 1) = ((i + 1 : Nat) : Int) := by
  rw [w64_in _ (by omega)]; rfl
end Go.Den.L7

/- Calls, slots. -/
namespace Go.Den.L7
open Go
theorem within_eq (a b c : Int) : t62 a b c = some ([.one (.b (decide (b ≤ a) && decide (a ≤ c)))], []) := rfl
theorem in_eq (a b c : Int) : t60 a b c = some ([.one (.b (decide (b ≤ a) && decide (a ≤ c)))], []) := rfl
def callOk (k : Int) (p t : ByteArray) (n m : Int) (d : ByteArray) : Bool :=
  decide (1 ≤ k ∧ k ≤ 22 ∧ (p.size : Int) ≤ 60 ∧ (t.size : Int) ≤ 60 ∧ (d.size : Int) ≤ 64 ∧ -1000000 ≤ n ∧ n ≤ 1000000 ∧ -1000000 ≤ m ∧ m ≤ 1000000 ∧ ((t.size : Int) = 0 ∨ k = 9 ∨ k = 10 ∨ k = 12) ∧ ((d.size : Int) = 0 ∨ k = 5 ∨ k = 6))
theorem callOk_spec (k : Int) (p t : ByteArray) (n m : Int) (d : ByteArray) : t61 k p t n m d = some ([.one (.b (callOk k p t n m d))], []) := by
  simp [-ByteArray.size_eq_zero_iff, t61, in_eq, zr60, zo60, nil_toList, callOk]
  (repeat' split) <;> (apply bool_some; rw [Bool.eq_iff_iff]; simp [-ByteArray.size_eq_zero_iff]; omega)
theorem callOk_impl (k : Int) (p t : ByteArray) (n m : Int) (d : ByteArray) : t63 k p t n m d = some ([.one (.b (callOk k p t n m d))], []) := by
  simp [-ByteArray.size_eq_zero_iff, t63, within_eq, zr62, zo62, nil_toList, callOk]
  (repeat' split) <;> (apply bool_some; rw [Bool.eq_iff_iff]; simp [-ByteArray.size_eq_zero_iff]; omega)
end Go.Den.L7

/- Slots; sizes. -/
namespace Go.Den.L7
open Go
theorem toCall_eq (k : Int) (p t : ByteArray) (n m : Int) (d : ByteArray) : t25 k p t n m d = some ([.agg [.i .i64 k, .s p, .s t, .i .i64 n, .i .i64 m, .s d]], []) := rfl
theorem szCall_eq (k : Int) (p t : ByteArray) (n m : Int) (d : ByteArray) (z : Int) : ∃ y, t23 k p t n m d z = some ([.one (.i .i64 y)], []) := by
  simp only [t23]; (repeat' split) <;> exact ⟨_, rfl⟩
end Go.Den.L7

/- Clients. -/
namespace Go.Den.L7
open Go
def clientOk (a b c : Int) (w : Bool) (k : Int) (p t : ByteArray) (n m : Int) (d : ByteArray) (e : Int) : Bool :=
  decide (0 ≤ a ∧ a ≤ 2 ∧ 1 ≤ b ∧ b ≤ 3 ∧ 0 ≤ c ∧ c ≤ 1000000 ∧ 0 ≤ e ∧ e ≤ 1000000) && (if w then decide (1 ≤ c) && callOk k p t n m d else decide (k = 0 ∧ (p.size : Int) = 0 ∧ (t.size : Int) = 0 ∧ n = 0 ∧ m = 0 ∧ (d.size : Int) = 0 ∧ e = 0))
theorem clientOk_spec (a b c : Int) (w : Bool) (k : Int) (p t : ByteArray) (n m : Int) (d : ByteArray) (e : Int) : t20 a b c w k p t n m d e = some ([.one (.b (clientOk a b c w k p t n m d e))], []) := by
  have e1 : ∀ n, t64 n = some ([.one (.b (decide (0 ≤ n) && decide (n < 3)))], []) := fun _ => rfl
  simp [-ByteArray.size_eq_zero_iff, t20, e1, in_eq, callOk_spec, zr60, zo60, zr64, zo64, zr61, zo61, clientOk]
  (repeat' split) <;> (apply bool_some; rw [Bool.eq_iff_iff]; simp [-ByteArray.size_eq_zero_iff]; try omega)
theorem clientOk_impl (a b c : Int) (w : Bool) (k : Int) (p t : ByteArray) (n m : Int) (d : ByteArray) (e : Int) : t22 a b c w k p t n m d e = some ([.one (.b (clientOk a b c w k p t n m d e))], []) := by
  simp [-ByteArray.size_eq_zero_iff, t22, within_eq, callOk_impl, zr62, zo62, zr63, zo63, clientOk]
  (repeat' split) <;> (apply bool_some; rw [Bool.eq_iff_iff]; simp [-ByteArray.size_eq_zero_iff]; try omega)
theorem toClient_eq (a b c : Int) (w : Bool) (k : Int) (p t : ByteArray) (n m : Int) (d : ByteArray) (e : Int) : t21 a b c w k p t n m d e = some ([.agg [.i .i64 a, .i .i64 b, .i .i64 c, .b w, .i .i64 k, .s p, .s t, .i .i64 n, .i .i64 m, .s d, .i .i64 e]], []) := rfl
theorem szClient_eq (a b c : Int) (w : Bool) (k : Int) (p t : ByteArray) (n m : Int) (d : ByteArray) (e z : Int) : ∃ y, t19 a b c w k p t n m d e z = some ([.one (.i .i64 y)], []) := by
  obtain ⟨y, hy⟩ := szCall_eq k p t n m d z
  simp [-ByteArray.size_eq_zero_iff, t19, hy, zr23, zo23]; (repeat' split) <;> exact ⟨_, rfl⟩
end Go.Den.L7

/- Whole numbers as bytes; calls as bytes. -/
namespace Go.Den.L7
open Go Go.IntWalk
theorem ofInt_nat (n : Nat) (h : n < 2 ^ 64) : (BitVec.ofInt 64 (n : Int)).toNat = n := by
  rw [BitVec.toNat_ofInt]; omega
theorem orand (n : Nat) (h : n < 2 ^ 62) : bitOr .i64 (bitAnd .i64 (n : Int) 127) 128 = 128 + (n : Int) % 128 := by
  have e1 : bitAnd .i64 (n : Int) 127 = ((n % 128 : Nat) : Int) := by
    unfold bitAnd
    show IntKind.wrap .i64 (((BitVec.ofInt 64 (n : Int)) &&& (BitVec.ofInt 64 ((127 : Nat) : Int))).toNat : Int) = _
    rw [BitVec.toNat_and, ofInt_nat n (by omega), ofInt_nat 127 (by omega), show (127 : Nat) = 2 ^ 7 - 1 by rfl, Nat.and_two_pow_sub_one_eq_mod, i64_in _ (by omega)]
  rw [e1]
  unfold bitOr
  show IntKind.wrap .i64 (((BitVec.ofInt 64 ((n % 128 : Nat) : Int)) ||| (BitVec.ofInt 64 ((128 : Nat) : Int))).toNat : Int) = _
  have e2 : 2 ^ 7 + n % 128 = 2 ^ 7 ||| n % 128 := by
    have := Nat.two_pow_add_eq_or_of_lt (i := 7) (b := n % 128) (by omega) 1
    simpa using this
  rw [BitVec.toNat_or, ofInt_nat _ (by omega), ofInt_nat 128 (by omega), Nat.or_comm, show (128 : Nat) = 2 ^ 7 by rfl, ← e2, i64_in _ (by omega)]
  omega
/-- A whole number's bytes: what is left, what stands. -/
def vp : Nat → Int → List (List D) → Int × List (List D)
  | 0, n, l => (n, l)
  | k + 1, n, l => if n ≥ 128 then vp k (n / 128) (l ++ [[.i .u8 (128 + n % 128)]]) else (n, l)
theorem isBytes_snoc : ∀ {l : List (List D)} {x : Int}, isBytes l = true → isBytes (l ++ [[.i .u8 x]]) = true
  | [], x, _ => rfl
  | r :: l, x, h => by
    unfold isBytes at h
    split at h
    · rename_i e; cases e
    · rename_i e; cases e; simp only [List.cons_append, isBytes]; exact isBytes_snoc h
    · cases h
theorem bytesD_len : ∀ (l : List (List D)), (bytesD l).length ≤ l.length
  | [] => by simp [bytesD]
  | r :: l => by
    unfold bytesD
    split
    · rename_i e; cases e; simpa using bytesD_len l
    · simp
theorem vp_is : ∀ (k : Nat) (n : Int) (l : List (List D)), isBytes l = true → isBytes (vp k n l).2 = true ∧ (vp k n l).2.length ≤ l.length + k
  | 0, n, l, h => ⟨h, Nat.le_refl _⟩
  | k + 1, n, l, h => by
    unfold vp
    split
    · have := vp_is k (n / 128) (l ++ [[.i .u8 (128 + n % 128)]]) (isBytes_snoc h)
      simp only [List.length_append, List.length_cons, List.length_nil] at this
      exact ⟨this.1, by omega⟩
    · exact ⟨h, by simp only; omega⟩
theorem tdiv_pos (n : Int) (h : 0 ≤ n) : n.tdiv 128 = n / 128 := Int.tdiv_eq_ediv_of_nonneg h
theorem tmod_pos (n : Int) (h : 0 ≤ n) : n.tmod 128 = n % 128 := Int.tmod_eq_emod_of_nonneg h
theorem spec_loop (q : Int → Bool → List (List D) → Rs) (s0 : ByteArray) (b0 : Bool) : ∀ (k m : Nat) (n : Int) (v : SV) (l : List (List D)), 0 ≤ n → n < 128 ^ (k + 1) → n < 4611686018427387904 → k < m → l.length + k < 1000 →
    l89o1 s0 b0 q m n v l = q (vp k n l).1 false (vp k n l).2 := by
  intro k
  induction k with
  | zero =>
    intro m n v l h0 h1 h2 h3 h4
    obtain ⟨m, rfl⟩ : ∃ m', m = m' + 1 := ⟨m - 1, by omega⟩
    have e : ¬ n ≥ 128 := by omega
    simp [l89o1, e, vp]
  | succ k ih =>
    intro m n v l h0 h1 h2 h3 h4
    obtain ⟨m, rfl⟩ : ∃ m', m = m' + 1 := ⟨m - 1, by omega⟩
    by_cases e : n ≥ 128
    · simp only [l89o1, vp, e, decide_true, if_true, tmod_pos n h0, tdiv_pos n h0]
      rw [w64_in (n / 128) (by omega), w64_in (128 + n % 128) (by omega), u8_in _ (by omega), chk_ok (by simp [flatR, allSc, isSc, lim]; omega)]
      refine ih m (n / 128) _ _ (by omega) ?_ (by omega) (by omega) (by simp; omega)
      rw [Int.ediv_lt_iff_lt_mul (by omega)]
      rw [Int.pow_succ] at h1
      exact h1
    · simp [l89o1, e, vp]
theorem impl_loop (q : Int → Bool → List (List D) → Rs) (s0 : ByteArray) (b0 : Bool) : ∀ (k m : Nat) (n : Int) (v : SV) (l : List (List D)), 0 ≤ n → n < 128 ^ (k + 1) → n < 4611686018427387904 → k < m → l.length + k < 1000 →
    l91o1 s0 b0 q m n v l = q (vp k n l).1 false (vp k n l).2 := by
  intro k
  induction k with
  | zero =>
    intro m n v l h0 h1 h2 h3 h4
    obtain ⟨m, rfl⟩ : ∃ m', m = m' + 1 := ⟨m - 1, by omega⟩
    have e : ¬ n > 127 := by omega
    simp [l91o1, e, vp]
  | succ k ih =>
    intro m n v l h0 h1 h2 h3 h4
    obtain ⟨m, rfl⟩ : ∃ m', m = m' + 1 := ⟨m - 1, by omega⟩
    by_cases e : n ≥ 128
    · have e' : n > 127 := by omega
      have ea : bitOr .i64 (bitAnd .i64 n 127) 128 = 128 + n % 128 := by
        have := orand n.toNat (by omega)
        rwa [Int.toNat_of_nonneg h0] at this
      have ed : n.fdiv (2 ^ (min (7 : Int).toNat (IntKind.bits .i64))) = n / 128 := by
        rw [show (2 ^ (min (7 : Int).toNat (IntKind.bits .i64)) : Int) = 128 by rfl]
        exact Int.fdiv_eq_ediv_of_nonneg _ (by omega)
      simp only [l91o1, vp, e, e', decide_true, if_true, ea, ed]
      rw [u8_in _ (by omega), chk_ok (by simp [flatR, allSc, isSc, lim]; omega)]
      refine ih m (n / 128) _ _ (by omega) ?_ (by omega) (by omega) (by simp; omega)
      rw [Int.ediv_lt_iff_lt_mul (by omega)]
      rw [Int.pow_succ] at h1
      exact h1
    · have e' : ¬ n > 127 := by omega
      simp [l91o1, e, e', vp]
/-- A whole number as a text. -/
def varS (n : Int) : ByteArray := if 0 ≤ n ∧ n ≤ 562949953421311 then ⟨(bytesD ((vp 6 n []).2 ++ [[.i .u8 (IntKind.wrap .u8 (vp 6 n []).1)]])).toArray⟩ else ⟨#[]⟩
theorem varS_size (n : Int) : (varS n).size ≤ 10 := by
  unfold varS
  split
  · have h := (vp_is 6 n [] rfl).2
    have h2 := bytesD_len ((vp 6 n []).2 ++ [[.i .u8 (IntKind.wrap .u8 (vp 6 n []).1)]])
    simp only [List.length_append, List.length_cons, List.length_nil] at h h2
    show (List.toArray _).size ≤ 10
    simp only [List.size_toArray]
    omega
  · exact Nat.zero_le _
theorem var_spec (n : Int) : t89 n = some ([.one (.s (varS n))], []) := by
  unfold t89 varS
  simp only [in_eq, zr60, zo60]
  by_cases h : 0 ≤ n ∧ n ≤ 562949953421311
  · simp [h]
    rw [spec_loop _ _ _ 6 KK n .undef [] h.1 (by omega) (by omega) (by rw [KK_eq]; omega) (by simp)]
    have h1 := vp_is 6 n [] rfl
    simp only [List.length_nil] at h1
    rw [chk_ok (by simp [flatR, allSc, isSc, lim]; omega), chk_ok (isBytes_snoc h1.1)]
  · have : ((decide (0 ≤ n) && decide (n ≤ 562949953421311)) = false) := by simpa using h
    simp [h, this]
theorem var_impl (n : Int) : t91 n = some ([.one (.s (varS n))], []) := by
  unfold t91 varS
  simp only [within_eq, zr62, zo62]
  by_cases h : 0 ≤ n ∧ n ≤ 562949953421311
  · simp [h]
    rw [impl_loop _ _ _ 6 KK n .undef [] h.1 (by omega) (by omega) (by rw [KK_eq]; omega) (by simp)]
    have h1 := vp_is 6 n [] rfl
    simp only [List.length_nil] at h1
    rw [chk_ok (by simp [flatR, allSc, isSc, lim]; omega), chk_ok (isBytes_snoc h1.1)]
  · have : ((decide (0 ≤ n) && decide (n ≤ 562949953421311)) = false) := by simpa using h
    simp [h, this]
def zig (n : Int) : Int := if n < 0 then w64 (w64 (-2 * n) - 1) else w64 (2 * n)
def pieceS (s : ByteArray) : ByteArray := varS (s.size : Int) ++ s
theorem pieceS_size (s : ByteArray) : (pieceS s).size ≤ 10 + s.size := by
  unfold pieceS; rw [ByteArray.size_append]; have := varS_size (s.size : Int); omega
theorem piece_spec (s : ByteArray) (h : (s.size : Int) ≤ 1000000000) : t110 s = some ([.one (.s (pieceS s))], []) := by
  have := varS_size (s.size : Int)
  simp only [t110, var_spec, zr89, zo89, resC, nthR, cellsDV, nthD, asS, okR, isVs, isV, isD, isOs, Bool.and_true, chk_true]
  rw [chk_ok (decide_eq_true (by unfold lim; omega))]; rfl
theorem piece_impl (s : ByteArray) (h : (s.size : Int) ≤ 1000000000) : t83 s = some ([.one (.s (pieceS s))], []) := by
  have := varS_size (s.size : Int)
  simp only [t83, var_impl, zr91, zo91, resC, nthR, cellsDV, nthD, asS, okR, isVs, isV, isD, isOs, Bool.and_true, chk_true]
  rw [chk_ok (decide_eq_true (by unfold lim; omega))]; rfl
theorem signed_spec (n : Int) : t111 n = some ([.one (.s (varS (zig n)))], []) := by
  by_cases h : n < 0 <;> simp [t111, var_spec, zr89, zo89, zig, h]
theorem signed_impl (n : Int) : t112 n = some ([.one (.i .i64 (zig n))], []) := by
  by_cases h : n < 0 <;> simp [t112, zig, h]
theorem vars_two (a b : Int) : t82 [[.i .i64 a], [.i .i64 b]] = some ([.one (.s (varS a ++ varS b))], []) := by
  obtain ⟨k, hk⟩ : ∃ k, KK = k + 3 := ⟨KK - 3, by rw [KK_eq]⟩
  have ha := varS_size a
  have hb := varS_size b
  unfold t82
  rw [hk]
  have e1 : w64 1 = 1 := by rfl
  have e2 : w64 2 = 2 := by rfl
  have e3 : (⟨#[]⟩ : ByteArray) ++ varS a = varS a := ByteArray.empty_append
  have e4 : (varS a).size + (varS b).size ≤ lim := by unfold lim; omega
  have e5 : (varS a).size ≤ lim := by unfold lim; omega
  have e6 : (⟨#[]⟩ : ByteArray).size = 0 := rfl
  simp [l82o0, e1, e2, e3, e4, e5, e6, isRow, isF, z3, var_impl, zr91, zo91, nthD, asI]
def callS (k : Int) (p t : ByteArray) (n m : Int) (d : ByteArray) : ByteArray :=
  if callOk k p t n m d then varS k ++ pieceS p ++ pieceS t ++ varS (zig n) ++ varS (zig m) ++ pieceS d else ⟨#[]⟩
theorem callOk_sizes {k : Int} {p t : ByteArray} {n m : Int} {d : ByteArray} (h : callOk k p t n m d = true) : (p.size : Int) ≤ 60 ∧ (t.size : Int) ≤ 60 ∧ (d.size : Int) ≤ 64 := by
  simp only [callOk, decide_eq_true_eq] at h; exact ⟨h.2.2.1, h.2.2.2.1, h.2.2.2.2.1⟩
theorem callS_size (k : Int) (p t : ByteArray) (n m : Int) (d : ByteArray) : (callS k p t n m d).size ≤ 1000 := by
  unfold callS
  split
  · rename_i h
    obtain ⟨h1, h2, h3⟩ := callOk_sizes h
    have := pieceS_size p; have := pieceS_size t; have := pieceS_size d; have := varS_size k; have := varS_size (zig n); have := varS_size (zig m)
    simp only [ByteArray.size_append]; omega
  · exact Nat.zero_le _
theorem showCall_spec (k : Int) (p t : ByteArray) (n m : Int) (d : ByteArray) : t69 k p t n m d = some ([.one (.s (callS k p t n m d))], []) := by
  cases hc : callOk k p t n m d
  · simp [t69, callOk_spec, hc, callS, zr61, zo61]
  · obtain ⟨h1, h2, h3⟩ := callOk_sizes hc
    have := pieceS_size p; have := pieceS_size t; have := pieceS_size d; have := varS_size k; have := varS_size (zig n); have := varS_size (zig m)
    simp [t69, callOk_spec, hc, callS, var_spec, signed_spec, piece_spec p (by omega), piece_spec t (by omega), piece_spec d (by omega), zr61, zo61, zr89, zo89, zr110, zo110, zr111, zo111, chk, lim]
    omega
theorem showCall_impl (k : Int) (p t : ByteArray) (n m : Int) (d : ByteArray) : t70 k p t n m d = some ([.one (.s (callS k p t n m d))], []) := by
  cases hc : callOk k p t n m d
  · simp [t70, callOk_impl, hc, callS, zr63, zo63]
  · obtain ⟨h1, h2, h3⟩ := callOk_sizes hc
    have := pieceS_size p; have := pieceS_size t; have := pieceS_size d; have := varS_size k; have := varS_size (zig n); have := varS_size (zig m)
    simp [t70, callOk_impl, hc, callS, var_impl, signed_impl, vars_two, piece_impl p (by omega), piece_impl t (by omega), piece_impl d (by omega), zr63, zo63, zr91, zo91, zr83, zo83, zr112, zo112, zr82, zo82, chk, lim, ByteArray.append_assoc]
    omega
theorem law7 (a b c : Int) (w : Bool) (k : Int) (p t : ByteArray) (n m : Int) (d : ByteArray) (e x : Int) : t7 a b c w k p t n m d e x = some ([.one (.b true)], []) := by
  obtain ⟨y, hy⟩ := szClient_eq a b c w k p t n m d e 1048576
  have e1 : t33 a b c w k p t n m d e x = some (if clientOk a b c w k p t n m d e && w && decide (0 ≤ x ∧ x ≤ 4) then [.agg [.i .i64 a, .i .i64 b, .i .i64 x, .b false, .i .i64 c, .s (callS k p t n m d)], .one (.b true)] else [.agg [.i .i64 0, .i .i64 0, .i .i64 0, .b false, .i .i64 0, .s ⟨#[]⟩], .one (.b false)], []) := by
    cases w <;> cases hc : clientOk a b c _ k p t n m d e <;> simp [hc, t33, clientOk_spec, showCall_spec, zr20, zo20, zr69, zo69]
    (repeat' split) <;> first | rfl | (exfalso; omega)
  have e2 : t34 a b c w k p t n m d e x = some (if clientOk a b c w k p t n m d e && w && decide (0 ≤ x ∧ x ≤ 4) then [.agg [.i .i64 a, .i .i64 b, .i .i64 x, .b false, .i .i64 c, .s (callS k p t n m d)], .one (.b true)] else [.agg [.i .i64 0, .i .i64 0, .i .i64 0, .b false, .i .i64 0, .s ⟨#[]⟩], .one (.b false)], []) := by
    cases w <;> cases hc : clientOk a b c _ k p t n m d e <;> simp [hc, t34, clientOk_impl, showCall_impl, within_eq, zr62, zo62, zr22, zo22, zr70, zo70]
    (repeat' split) <;> first | rfl | (exfalso; omega)
  generalize (clientOk a b c w k p t n m d e && w && decide (0 ≤ x ∧ x ≤ 4)) = g at e1 e2
  cases g <;> simp [t7, hy, toClient_eq, e1, e2, zr19, zo19, zr21, zo21, zr33, zo33, zr34, zo34, zr35, zo35, t35]
end Go.Den.L7
