/- Plain laws about what the functions compute; no condition. -/
import Derived.Test.YtkokejemgekfaaaL12Tw
import Derived.IntWalk
set_option linter.unusedVariables false
set_option linter.unusedSimpArgs false
/- How twins are taken apart. -/
namespace Go.Den.L12
open Go Go.IntWalk
theorem chk_true (x : Rs) : chk true x = x := rfl
theorem chk_ok {b : Bool} (h : b = true) (x : Rs) : chk b x = x := by rw [h]; rfl
attribute [simp] chk_true okR isVs isV isD isDs isOs resC outC nthR nthO cellsDV nthD asB asI asS asL
theorem ite_not {α : Type} (a b : Bool) (h : a = !b) (x y : α) : (if a = true then x else y) = (if b = true then y else x) := by
  subst h; cases b <;> rfl
theorem bool_some (a b : Bool) (h : a = b) : (some ([DV.one (.b a)], ([] : List (List D))) : Rs) = some ([.one (.b b)], []) := by rw [h]
theorem nil_toList : (⟨#[]⟩ : ByteArray).toList = [] := by rw [ByteArray.toList_eq]
theorem toList_nil (s : ByteArray) : s.toList = [] ↔ (s.size : Int) = 0 := by
  have e : s.size = s.data.toList.length := by rw [Array.length_toList]; rfl
  rw [ByteArray.toList_eq, e]
  cases s.data.toList <;> simp <;> omega
theorem toList_isEmpty (s : ByteArray) : s.toList.isEmpty = decide ((s.size : Int) = 0) := by
  rw [Bool.eq_iff_iff, List.isEmpty_iff, toList_nil]; simp
attribute [simp] nil_toList toList_nil toList_isEmpty
theorem KK_eq : KK = 18446744073709551616 := Classical.choose_spec (⟨2 ^ 64, rfl⟩ : ∃ n : Nat, n = 2 ^ 64)
theorem w64_in (n : Int) (h : -9223372036854775808 ≤ n ∧ n ≤ 9223372036854775807) : w64 n = n := i64_in n h
theorem getD_in {l : List (List D)} {i : Nat} (hi : i < l.length) : l.getD i [] = l[i] := by simp [List.getD, hi]
theorem getD_row {l : List (List D)} {es : List Sh} (h : ∀ r ∈ l, typL es r) {i : Nat} (hi : i < l.length) : typL es (l.getD i []) := by
  rw [getD_in hi]; exact h _ (List.getElem_mem hi)
theorem w64_succ (i : Nat) (h : i < 4611686018427387904) : w64 ((i : Int) + 1) = ((i + 1 : Nat) : Int) := by
  rw [w64_in _ (by omega)]; rfl
theorem within_eq (a b c : Int) : t62 a b c = some ([.one (.b (decide (b ≤ a) && decide (a ≤ c)))], []) := rfl
theorem in_eq (a b c : Int) : t60 a b c = some ([.one (.b (decide (b ≤ a) && decide (a ≤ c)))], []) := rfl
end Go.Den.L12

/- Calls, slots. -/
namespace Go.Den.L12
open Go
def callOk (k : Int) (p t : ByteArray) (n m : Int) (d : ByteArray) : Bool :=
  decide (1 ≤ k ∧ k ≤ 22 ∧ (p.size : Int) ≤ 60 ∧ (t.size : Int) ≤ 60 ∧ (d.size : Int) ≤ 64 ∧ -1000000 ≤ n ∧ n ≤ 1000000 ∧ -1000000 ≤ m ∧ m ≤ 1000000 ∧ ((t.size : Int) = 0 ∨ k = 9 ∨ k = 10 ∨ k = 12) ∧ ((d.size : Int) = 0 ∨ k = 5 ∨ k = 6))
theorem callOk_spec (k : Int) (p t : ByteArray) (n m : Int) (d : ByteArray) : t61 k p t n m d = some ([.one (.b (callOk k p t n m d))], []) := by
  simp [-ByteArray.size_eq_zero_iff, t61, in_eq, zr60, zo60, nil_toList, callOk]
  (repeat' split) <;> (apply bool_some; rw [Bool.eq_iff_iff]; simp [-ByteArray.size_eq_zero_iff]; omega)
theorem callOk_impl (k : Int) (p t : ByteArray) (n m : Int) (d : ByteArray) : t63 k p t n m d = some ([.one (.b (callOk k p t n m d))], []) := by
  simp [-ByteArray.size_eq_zero_iff, t63, within_eq, zr62, zo62, nil_toList, callOk]
  (repeat' split) <;> (apply bool_some; rw [Bool.eq_iff_iff]; simp [-ByteArray.size_eq_zero_iff]; omega)
end Go.Den.L12

/- Slots; sizes. -/
namespace Go.Den.L12
open Go
def slotOk (a b c k : Int) (p t : ByteArray) (n m : Int) (d : ByteArray) : Bool :=
  decide (0 ≤ a ∧ a ≤ 2 ∧ 1 ≤ b ∧ b ≤ 3 ∧ 1 ≤ c ∧ c ≤ 1000000) && callOk k p t n m d
theorem slotOk_spec (a b c k : Int) (p t : ByteArray) (n m : Int) (d : ByteArray) : t16 a b c k p t n m d = some ([.one (.b (slotOk a b c k p t n m d))], []) := by
  simp [-ByteArray.size_eq_zero_iff, t16, in_eq, callOk_spec, zr60, zo60, zr61, zo61, slotOk]
  rw [Bool.eq_iff_iff]; simp [-ByteArray.size_eq_zero_iff]; omega
theorem slotOk_impl (a b c k : Int) (p t : ByteArray) (n m : Int) (d : ByteArray) : t18 a b c k p t n m d = some ([.one (.b (slotOk a b c k p t n m d))], []) := by
  simp [-ByteArray.size_eq_zero_iff, t18, within_eq, callOk_impl, zr62, zo62, zr63, zo63, slotOk]
  rw [Bool.eq_iff_iff]; simp [-ByteArray.size_eq_zero_iff]; omega
end Go.Den.L12

/- Sizes; copies of rows. -/
namespace Go.Den.L12
open Go
mutual
/-- What was found small enough. -/
def szdD : Sh → D → Prop
  | .b, _ => True
  | .i _, _ => True
  | .s, d => (asS d).size ≤ 1048576
  | .l es, d => (asL d).length ≤ 1048576 ∧ ∀ r ∈ asL d, szdL es r
def szdL : List Sh → List D → Prop
  | [], _ => True
  | e :: es, ds => szdD e (nthD ds 0) ∧ szdL es ds.tail
end
theorem mem_getD {l : List (List D)} {i : Nat} (h : i < l.length) : l.getD i [] ∈ l := by rw [getD_in h]; exact List.getElem_mem h
theorem all_getD {l : List (List D)} {P : List D → Prop} (h : ∀ j, j < l.length → P (l.getD j [])) : ∀ r ∈ l, P r := by
  intro r hr
  obtain ⟨j, hj, rfl⟩ := List.mem_iff_getElem.1 hr
  rw [← getD_in hj]; exact h j hj
theorem nat_in {i n : Nat} (h : i < n) : decide ((i : Int) < (n : Int)) = true := by simp; omega
theorem nat_pos (i : Nat) : decide ((0 : Int) ≤ (i : Int)) = true := by simp
theorem modify_mid {α : Type} (f : α → α) : ∀ (a : List α) (x : α) (b : List α), (a ++ x :: b).modify a.length f = a ++ f x :: b
  | [], x, b => by simp
  | y :: a, x, b => by simp [modify_mid f a x b]
theorem stR_at (l : List (List D)) (i k : Nat) (z ys : List D) (hz : z.length ≤ ys.length) (e : i + (k + 1) = l.length) (hy : l.getD i [] = ys) : stR (l.take i ++ List.replicate (k + 1) z) i 0 ys = l.take (i + 1) ++ List.replicate k z := by
  have hi : i < l.length := by omega
  rw [getD_in hi] at hy
  have hl : (l.take i).length = i := by simp; omega
  have key := modify_mid (fun r => r.take 0 ++ ys ++ r.drop (0 + ys.length)) (l.take i) z (List.replicate k z)
  rw [hl] at key
  unfold stR
  rw [List.replicate_succ, key, List.take_succ_eq_append_getElem hi, hy]
  simp [List.drop_eq_nil_of_le hz]
end Go.Den.L12

/- Whole numbers as bytes; calls as bytes. -/
namespace Go.Den.L12
open Go Go.IntWalk
theorem ofInt_nat (n : Nat) (h : n < 2 ^ 64) : (BitVec.ofInt 64 (n : Int)).toNat = n := by
  rw [BitVec.toNat_ofInt]; omega
theorem orand (n : Nat) (h : n < 2 ^ 62) : bitOr .i64 (bitAnd .i64 (n : Int) 127) 128 = 128 + (n : Int) % 128 := by
  have e1 : bitAnd .i64 (n : Int) 127 = ((n % 128 : Nat) : Int) := by
    unfold bitAnd
    show IntKind.wrap .i64 (((BitVec.ofInt 64 (n : Int)) &&& (BitVec.ofInt 64 ((127 : Nat) : Int))).toNat : Int) = _
    rw [BitVec.toNat_and, ofInt_nat n (by omega), ofInt_nat 127 (by omega), show (127 : Nat) = 2 ^ 7 - 1 by rfl, Nat.and_two_pow_sub_one_eq_mod, i64_in _ (by omega)]
  rw [e1]
  unfold bitOr
  show IntKind.wrap .i64 (((BitVec.ofInt 64 ((n % 128 : Nat) : Int)) ||| (BitVec.ofInt 64 ((128 : Nat) : Int))).toNat : Int) = _
  have e2 : 2 ^ 7 + n % 128 = 2 ^ 7 ||| n % 128 := by
    have := Nat.two_pow_add_eq_or_of_lt (i := 7) (b := n % 128) (by omega) 1
    simpa using this
  rw [BitVec.toNat_or, ofInt_nat _ (by omega), ofInt_nat 128 (by omega), Nat.or_comm, show (128 : Nat) = 2 ^ 7 by rfl, ← e2, i64_in _ (by omega)]
  omega
/-- A whole number's bytes: what is left, what stands. -/
def vp : Nat → Int → List (List D) → Int × List (List D)
  | 0, n, l => (n, l)
  | k + 1, n, l => if n ≥ 128 then vp k (n / 128) (l ++ [[.i .u8 (128 + n % 128)]]) else (n, l)
theorem isBytes_snoc : ∀ {l : List (List D)} {x : Int}, isBytes l = true → isBytes (l ++ [[.i .u8 x]]) = true
  | [], x, _ => rfl
  | r :: l, x, h => by
    unfold isBytes at h
    split at h
    · rename_i e; cases e
    · rename_i e; cases e; simp only [List.cons_append, isBytes]; exact isBytes_snoc h
    · cases h
theorem bytesD_len : ∀ (l : List (List D)), (bytesD l).length ≤ l.length
  | [] => by simp [bytesD]
  | r :: l => by
    unfold bytesD
    split
    · rename_i e; cases e; simpa using bytesD_len l
    · simp
theorem vp_is : ∀ (k : Nat) (n : Int) (l : List (List D)), isBytes l = true → isBytes (vp k n l).2 = true ∧ (vp k n l).2.length ≤ l.length + k
  | 0, n, l, h => ⟨h, Nat.le_refl _⟩
  | k + 1, n, l, h => by
    unfold vp
    split
    · have := vp_is k (n / 128) (l ++ [[.i .u8 (128 + n % 128)]]) (isBytes_snoc h)
      simp only [List.length_append, List.length_cons, List.length_nil] at this
      exact ⟨this.1, by omega⟩
    · exact ⟨h, by simp only; omega⟩
theorem tdiv_pos (n : Int) (h : 0 ≤ n) : n.tdiv 128 = n / 128 := Int.tdiv_eq_ediv_of_nonneg h
theorem tmod_pos (n : Int) (h : 0 ≤ n) : n.tmod 128 = n % 128 := Int.tmod_eq_emod_of_nonneg h
theorem spec_loop (q : Int → Bool → List (List D) → Rs) (s0 : ByteArray) (b0 : Bool) : ∀ (k m : Nat) (n : Int) (v : SV) (l : List (List D)), 0 ≤ n → n < 128 ^ (k + 1) → n < 4611686018427387904 → k < m → l.length + k < 1000 →
    l89o1 s0 b0 q m n v l = q (vp k n l).1 false (vp k n l).2 := by
  intro k
  induction k with
  | zero =>
    intro m n v l h0 h1 h2 h3 h4
    obtain ⟨m, rfl⟩ : ∃ m', m = m' + 1 := ⟨m - 1, by omega⟩
    have e : ¬ n ≥ 128 := by omega
    simp [l89o1, e, vp]
  | succ k ih =>
    intro m n v l h0 h1 h2 h3 h4
    obtain ⟨m, rfl⟩ : ∃ m', m = m' + 1 := ⟨m - 1, by omega⟩
    by_cases e : n ≥ 128
    · simp only [l89o1, vp, e, decide_true, if_true, tmod_pos n h0, tdiv_pos n h0]
      rw [w64_in (n / 128) (by omega), w64_in (128 + n % 128) (by omega), u8_in _ (by omega), chk_ok (by simp [flatR, allSc, isSc, lim]; omega)]
      refine ih m (n / 128) _ _ (by omega) ?_ (by omega) (by omega) (by simp; omega)
      rw [Int.ediv_lt_iff_lt_mul (by omega)]
      rw [Int.pow_succ] at h1
      exact h1
    · simp [l89o1, e, vp]
/-- A whole number as a text. -/
def varS (n : Int) : ByteArray := if 0 ≤ n ∧ n ≤ 562949953421311 then ⟨(bytesD ((vp 6 n []).2 ++ [[.i .u8 (IntKind.wrap .u8 (vp 6 n []).1)]])).toArray⟩ else ⟨#[]⟩
theorem varS_size (n : Int) : (varS n).size ≤ 10 := by
  unfold varS
  split
  · have h := (vp_is 6 n [] rfl).2
    have h2 := bytesD_len ((vp 6 n []).2 ++ [[.i .u8 (IntKind.wrap .u8 (vp 6 n []).1)]])
    simp only [List.length_append, List.length_cons, List.length_nil] at h h2
    show (List.toArray _).size ≤ 10
    simp only [List.size_toArray]
    omega
  · exact Nat.zero_le _
theorem var_spec (n : Int) : t89 n = some ([.one (.s (varS n))], []) := by
  unfold t89 varS
  simp only [in_eq, zr60, zo60]
  by_cases h : 0 ≤ n ∧ n ≤ 562949953421311
  · simp [h]
    rw [spec_loop _ _ _ 6 KK n .undef [] h.1 (by omega) (by omega) (by rw [KK_eq]; omega) (by simp)]
    have h1 := vp_is 6 n [] rfl
    simp only [List.length_nil] at h1
    rw [chk_ok (by simp [flatR, allSc, isSc, lim]; omega), chk_ok (isBytes_snoc h1.1)]
  · have : ((decide (0 ≤ n) && decide (n ≤ 562949953421311)) = false) := by simpa using h
    simp [h, this]
def zig (n : Int) : Int := if n < 0 then w64 (w64 (-2 * n) - 1) else w64 (2 * n)
def pieceS (s : ByteArray) : ByteArray := varS (s.size : Int) ++ s
theorem pieceS_size (s : ByteArray) : (pieceS s).size ≤ 10 + s.size := by
  unfold pieceS; rw [ByteArray.size_append]; have := varS_size (s.size : Int); omega
theorem piece_spec (s : ByteArray) (h : (s.size : Int) ≤ 1000000000) : t110 s = some ([.one (.s (pieceS s))], []) := by
  have := varS_size (s.size : Int)
  simp only [t110, var_spec, zr89, zo89, resC, nthR, cellsDV, nthD, asS, okR, isVs, isV, isD, isOs, Bool.and_true, chk_true]
  rw [chk_ok (decide_eq_true (by unfold lim; omega))]; rfl
theorem signed_spec (n : Int) : t111 n = some ([.one (.s (varS (zig n)))], []) := by
  by_cases h : n < 0 <;> simp [t111, var_spec, zr89, zo89, zig, h]
def callS (k : Int) (p t : ByteArray) (n m : Int) (d : ByteArray) : ByteArray :=
  if callOk k p t n m d then varS k ++ pieceS p ++ pieceS t ++ varS (zig n) ++ varS (zig m) ++ pieceS d else ⟨#[]⟩
theorem callOk_sizes {k : Int} {p t : ByteArray} {n m : Int} {d : ByteArray} (h : callOk k p t n m d = true) : (p.size : Int) ≤ 60 ∧ (t.size : Int) ≤ 60 ∧ (d.size : Int) ≤ 64 := by
  simp only [callOk, decide_eq_true_eq] at h; exact ⟨h.2.2.1, h.2.2.2.1, h.2.2.2.2.1⟩
theorem callS_size (k : Int) (p t : ByteArray) (n m : Int) (d : ByteArray) : (callS k p t n m d).size ≤ 1000 := by
  unfold callS
  split
  · rename_i h
    obtain ⟨h1, h2, h3⟩ := callOk_sizes h
    have := pieceS_size p; have := pieceS_size t; have := pieceS_size d; have := varS_size k; have := varS_size (zig n); have := varS_size (zig m)
    simp only [ByteArray.size_append]; omega
  · exact Nat.zero_le _
theorem showCall_spec (k : Int) (p t : ByteArray) (n m : Int) (d : ByteArray) : t69 k p t n m d = some ([.one (.s (callS k p t n m d))], []) := by
  cases hc : callOk k p t n m d
  · simp [t69, callOk_spec, hc, callS, zr61, zo61]
  · obtain ⟨h1, h2, h3⟩ := callOk_sizes hc
    have := pieceS_size p; have := pieceS_size t; have := pieceS_size d; have := varS_size k; have := varS_size (zig n); have := varS_size (zig m)
    simp [t69, callOk_spec, hc, callS, var_spec, signed_spec, piece_spec p (by omega), piece_spec t (by omega), piece_spec d (by omega), zr61, zo61, zr89, zo89, zr110, zo110, zr111, zo111, chk, lim]
    omega
end Go.Den.L12

/- Frames. -/
namespace Go.Den.L12
open Go
abbrev slotSh : List Sh := [.i .i64, .i .i64, .i .i64, .i .i64, .s, .s, .i .i64, .i .i64, .s]
theorem slot_row {r : List D} (h : typL slotSh r) : ∃ a b c k p t n m d, r = [.i .i64 a, .i .i64 b, .i .i64 c, .i .i64 k, .s p, .s t, .i .i64 n, .i .i64 m, .s d] := by
  obtain ⟨_, _, rfl, ⟨a, rfl, _⟩, ⟨_, _, rfl, ⟨b, rfl, _⟩, ⟨_, _, rfl, ⟨c, rfl, _⟩, ⟨_, _, rfl, ⟨k, rfl, _⟩, ⟨_, _, rfl, ⟨p, rfl, _⟩, ⟨_, _, rfl, ⟨t, rfl, _⟩, ⟨_, _, rfl, ⟨n, rfl, _⟩, ⟨_, _, rfl, ⟨m, rfl, _⟩, ⟨_, _, rfl, ⟨d, rfl, _⟩, rfl⟩⟩⟩⟩⟩⟩⟩⟩⟩ := h
  exact ⟨a, b, c, k, p, t, n, m, d, rfl⟩
theorem eqSlot_self (a b c k : Int) (p t : ByteArray) (n m : Int) (d : ByteArray) : t68 a b c k p t n m d a b c k p t n m d = some ([.one (.b true)], []) := by
  have : t65 k p t n m d k p t n m d = some ([.one (.b true)], []) := by simp [t65]
  simp [t68, this, zr65, zo65]
theorem eqSlotS_loop (b0 b1 : Bool) (q1 : Int → Bool → Bool → Rs) (q2 : Int → Bool → SV → Rs) (h2 : ∀ a b c, q2 a b c = some ([.one (.b true)], [])) (l : List (List D)) (h : ∀ r ∈ l, typL slotSh r) (hl : l.length < 4611686018427387904) : ∀ (k i m : Nat) (v w : SV), i + k = l.length → k < m →
    l32o1 l l b0 b1 q1 q2 m i v w = some ([.one (.b true)], []) := by
  intro k
  induction k with
  | zero =>
    intro i m v w e hm
    obtain ⟨m, rfl⟩ : ∃ m', m = m' + 1 := ⟨m - 1, by omega⟩
    have ei : decide ((i : Int) < (l.length : Int)) = false := by simp; omega
    simp only [l32o1, ei, h2]
    simp
  | succ k ih =>
    intro i m v w e hm
    obtain ⟨m, rfl⟩ : ∃ m', m = m' + 1 := ⟨m - 1, by omega⟩
    have hr := getD_row h (i := i) (by omega)
    obtain ⟨a, b, c, kk, p, t, x, y, d, er⟩ := slot_row hr
    have e1 : decide ((i : Int) < (l.length : Int)) = true := by simp; omega
    have e2 : decide ((0 : Int) ≤ (i : Int)) = true := by simp
    have ez : isRow z30 [.i .i64 a, .i .i64 b, .i .i64 c, .i .i64 kk, .s p, .s t, .i .i64 x, .i .i64 y, .s d] = true := rfl
    have ew : okR zr68 zo68 (some ([.one (.b true)], [])) = true := rfl
    simp only [l32o1, e1, e2, Int.toNat_natCast, er, ez, eqSlot_self, nthD, asI, asS, asB, resC, nthR, cellsDV, ew, Bool.and_true, chk_true, if_true, Bool.not_true, Bool.false_eq_true, if_false]
    rw [w64_succ i (by omega)]
    exact ih (i + 1) m _ _ (by omega) (by omega)
theorem eqSlotS_self (l : List (List D)) (h : ∀ r ∈ l, typL slotSh r) (hl : l.length ≤ 1048576) : t32 l l = some ([.one (.b true)], []) := by
  unfold t32
  have := eqSlotS_loop false false (fun _ _ _ => some ([.one (.b false)], [])) (fun _ _ _ => some ([.one (.b true)], [])) (fun _ _ _ => rfl) l h (by omega) l.length 0 KK .undef .undef (by omega) (by rw [KK_eq]; omega)
  simpa using this
def rowOk (r : List D) : Bool := slotOk (asI (nthD r 0)) (asI (nthD r 1)) (asI (nthD r 2)) (asI (nthD r 3)) (asS (nthD r 4)) (asS (nthD r 5)) (asI (nthD r 6)) (asI (nthD r 7)) (asS (nthD r 8))
def tn (l : List (List D)) (i : Nat) : Int := asI (nthD (l.getD i []) 0)
theorem row_ok (l : List (List D)) (h : ∀ r ∈ l, typL slotSh r) (i : Nat) (hi : i < l.length) : isRow z30 (l.getD i []) = true := by
  obtain ⟨a, b, c, kk, p, t, x, y, d, er⟩ := slot_row (getD_row h hi)
  rw [er]; rfl
def sbad (l : List (List D)) (i : Nat) : Bool := !rowOk (l.getD i []) || (decide (1 ≤ i) && decide (tn l (i - 1) > tn l i)) || (decide (2 ≤ i) && decide (tn l (i - 2) = tn l i))
theorem spec_step (l : List (List D)) (h : ∀ r ∈ l, typL slotSh r) (hl : l.length ≤ 1048576) (b0 : Bool) (q1 : Int → Bool → Bool → Rs) (q2 : Int → Bool → SV → Rs) (i m : Nat) (v w : SV) (hi : i < l.length) :
    l66o0 l 2 b0 q1 q2 (m + 1) i v w = if sbad l i then q1 i true true else l66o0 l 2 b0 q1 q2 m ((i + 1 : Nat) : Int) (.d (.b true)) (.d (.b false)) := by
  have e1 := nat_in hi
  have hi0 := row_ok l h i hi
  have hw := w64_succ i (by omega)
  have ew : ∀ b, okR zr16 zo16 (some ([.one (.b b)], [])) = true := fun _ => rfl
  have er : ∀ r : List D, t16 (asI (nthD r 0)) (asI (nthD r 1)) (asI (nthD r 2)) (asI (nthD r 3)) (asS (nthD r 4)) (asS (nthD r 5)) (asI (nthD r 6)) (asI (nthD r 7)) (asS (nthD r 8)) = some ([.one (.b (rowOk r))], []) := fun r => slotOk_spec _ _ _ _ _ _ _ _ _
  have eb : ∀ b, asB (resC (some ([.one (.b b)], [])) 0 0) = b := fun _ => rfl
  simp only [l66o0, e1, nat_pos, Int.toNat_natCast, hi0, er, ew, eb, Bool.and_true, Bool.true_or, chk_true, if_true, hw]
  by_cases h1 : 1 ≤ i
  · obtain ⟨j, hj⟩ : ∃ j, j + 1 = i := ⟨i - 1, by omega⟩
    have g0 : decide ((i : Int) > 0) = true := by simp; omega
    have e4 : w64 ((i : Int) - 1) = (j : Int) := by rw [w64_in _ (by omega)]; omega
    have f1 := row_ok l h j (by omega)
    have f0 := nat_in (i := j) (n := l.length) (by omega)
    have k1 : decide (1 ≤ i) = true := by simpa using h1
    have j1 : i - 1 = j := by omega
    by_cases h2 : 2 ≤ i
    · obtain ⟨k, hk⟩ : ∃ k, k + 2 = i := ⟨i - 2, by omega⟩
      have g1 : decide ((i : Int) ≥ 2) = true := by simp; omega
      have e5 : w64 ((i : Int) - 2) = (k : Int) := by rw [w64_in _ (by omega)]; omega
      have f2 := row_ok l h k (by omega)
      have f3 := nat_in (i := k) (n := l.length) (by omega)
      have k2 : decide (2 ≤ i) = true := by simpa using h2
      have j2 : i - 2 = k := by omega
      have e : sbad l i = (!rowOk (l.getD i []) || decide (asI (nthD (l.getD j []) 0) > asI (nthD (l.getD i []) 0)) || asI (nthD (l.getD k []) 0) == asI (nthD (l.getD i []) 0)) := by
        simp only [sbad, k1, k2, j1, j2, Bool.true_and, tn]; rfl
      simp only [e4, e5, Int.toNat_natCast, f0, f1, f2, f3, g0, g1, nat_pos, Bool.and_true, Bool.true_or, Bool.true_and, chk_true]
      rw [← e]; cases sbad l i <;> rfl
    · have g1 : decide ((i : Int) ≥ 2) = false := by simp; omega
      have k2 : decide (2 ≤ i) = false := by simpa using h2
      have e : sbad l i = (!rowOk (l.getD i []) || decide (asI (nthD (l.getD j []) 0) > asI (nthD (l.getD i []) 0))) := by
        simp only [sbad, k1, k2, j1, Bool.true_and, Bool.false_and, Bool.or_false, tn]
      simp only [e4, Int.toNat_natCast, f0, f1, g0, g1, nat_pos, Bool.and_true, Bool.true_or, Bool.true_and, Bool.and_false, Bool.not_false, Bool.or_true, Bool.false_and, Bool.or_false, chk_true]
      rw [← e]; cases sbad l i <;> rfl
  · have g0 : decide ((i : Int) > 0) = false := by simp; omega
    have g1 : decide ((i : Int) ≥ 2) = false := by simp; omega
    have k1 : decide (1 ≤ i) = false := by simpa using h1
    have k2 : decide (2 ≤ i) = false := by simp; omega
    have e : sbad l i = !rowOk (l.getD i []) := by simp only [sbad, k1, k2, Bool.false_and, Bool.or_false]
    simp only [g0, g1, Bool.and_false, Bool.not_false, Bool.or_true, chk_true, Bool.false_and, Bool.or_false]
    rw [← e]; cases sbad l i <;> rfl
def ic (l : List (List D)) (i : Nat) (r : Int) : Int := if (decide (1 ≤ i) && (tn l (i - 1) != tn l i)) = true then 1 else r + 1
def ib (l : List (List D)) (i : Nat) (r : Int) : Bool := (!rowOk (l.getD i []) || (decide (1 ≤ i) && decide (tn l (i - 1) > tn l i))) || decide (ic l i r > 2)
theorem impl_step (l : List (List D)) (h : ∀ r ∈ l, typL slotSh r) (hl : l.length ≤ 1048576) (b0 : Bool) (q1 : Int → Int → Bool → Bool → Bool → Int → Int → Int → Int → ByteArray → ByteArray → Int → Int → ByteArray → Rs) (q2 : Int → SV → Int → Bool → SV → SV → Rs)
    (hq : ∀ a b c d e f g h i j k l m n, q1 a b c d e f g h i j k l m n = some ([.one (.b false)], [])) (i m : Nat) (r : Int) (hr : 0 ≤ r ∧ r ≤ 2) (v w x y : SV) (hi : i < l.length) :
    (ib l i r = true → l67o0 l 2 b0 l (l.length : Int) q1 q2 (m + 1) r v i w x y = some ([.one (.b false)], [])) ∧
    (ib l i r = false → ∃ v' w' x' y', l67o0 l 2 b0 l (l.length : Int) q1 q2 (m + 1) r v i w x y = l67o0 l 2 b0 l (l.length : Int) q1 q2 m (ic l i r) v' ((i + 1 : Nat) : Int) w' x' y') := by
  have e1 := nat_in hi
  have hi0 := row_ok l h i hi
  have hw := w64_succ i (by omega)
  have hr1 : w64 (r + 1) = r + 1 := w64_in _ (by omega)
  have ew : ∀ b, okR zr18 zo18 (some ([.one (.b b)], [])) = true := fun _ => rfl
  have er : ∀ r : List D, t18 (asI (nthD r 0)) (asI (nthD r 1)) (asI (nthD r 2)) (asI (nthD r 3)) (asS (nthD r 4)) (asS (nthD r 5)) (asI (nthD r 6)) (asI (nthD r 7)) (asS (nthD r 8)) = some ([.one (.b (rowOk r))], []) := fun r => slotOk_impl _ _ _ _ _ _ _ _ _
  have eb : ∀ b, asB (resC (some ([.one (.b b)], [])) 0 0) = b := fun _ => rfl
  have fin : ∀ (bb cc : Bool) (A : Rs) (B : SV → SV → SV → SV → Rs) (v w x y : SV), bb = cc → A = some ([.one (.b false)], []) → (cc = true → (if bb = true then A else B v w x y) = some ([.one (.b false)], [])) ∧ (cc = false → ∃ v' w' x' y', (if bb = true then A else B v w x y) = B v' w' x' y') := by
    intro bb cc A B v w x y hb hA
    subst hb
    exact ⟨fun hh => by rw [if_pos hh, hA], fun hh => ⟨v, w, x, y, by rw [if_neg (by simp [hh])]⟩⟩
  simp only [l67o0, e1, nat_pos, Int.toNat_natCast, hi0, er, ew, eb, Bool.and_true, Bool.true_or, chk_true, if_true, hw, hr1]
  by_cases h1 : 1 ≤ i
  · obtain ⟨j, hj⟩ : ∃ j, j + 1 = i := ⟨i - 1, by omega⟩
    have g0 : decide ((i : Int) > 0) = true := by simp; omega
    have e4 : w64 ((i : Int) - 1) = (j : Int) := by rw [w64_in _ (by omega)]; omega
    have f1 := row_ok l h j (by omega)
    have f0 := nat_in (i := j) (n := l.length) (by omega)
    have k1 : decide (1 ≤ i) = true := by simpa using h1
    have j1 : i - 1 = j := by omega
    have c1 : ic l i r = if (asI (nthD (l.getD j []) 0) != asI (nthD (l.getD i []) 0)) = true then 1 else r + 1 := by
      simp only [ic, k1, j1, Bool.true_and, tn]
    have c2 : ib l i r = ((!rowOk (l.getD i []) || decide (asI (nthD (l.getD j []) 0) > asI (nthD (l.getD i []) 0))) || decide (ic l i r > 2)) := by
      simp only [ib, k1, j1, Bool.true_and, tn]
    simp only [e4, Int.toNat_natCast, f0, f1, g0, nat_pos, Bool.and_true, Bool.true_or, Bool.true_and, chk_true]
    cases hb : (asI (nthD (l.getD j []) 0) != asI (nthD (l.getD i []) 0))
    · rw [hb] at c1
      simp only [Bool.false_eq_true, if_false] at c1 ⊢
      rw [c1] at c2 ⊢
      exact fin _ _ _ (fun v' w' x' y' => l67o0 l 2 b0 l (l.length : Int) q1 q2 m (r + 1) v' ((i + 1 : Nat) : Int) w' x' y') _ _ _ _ c2.symm (hq _ _ _ _ _ _ _ _ _ _ _ _ _ _)
    · rw [hb] at c1
      simp only [if_true] at c1 ⊢
      rw [c1] at c2 ⊢
      exact fin _ _ _ (fun v' w' x' y' => l67o0 l 2 b0 l (l.length : Int) q1 q2 m 1 v' ((i + 1 : Nat) : Int) w' x' y') _ _ _ _ c2.symm (hq _ _ _ _ _ _ _ _ _ _ _ _ _ _)
  · have g0 : decide ((i : Int) > 0) = false := by simp; omega
    have k1 : decide (1 ≤ i) = false := by simpa using h1
    have c1 : ic l i r = r + 1 := by simp only [ic, k1, Bool.false_and, Bool.false_eq_true, if_false]
    have c2 : ib l i r = (!rowOk (l.getD i []) || decide (ic l i r > 2)) := by simp only [ib, k1, Bool.false_and, Bool.or_false]
    simp only [g0, Bool.and_false, Bool.not_false, Bool.or_true, chk_true, Bool.false_and, Bool.or_false, Bool.false_eq_true, if_false]
    rw [c1] at c2 ⊢
    exact fin _ _ _ (fun v' w' x' y' => l67o0 l 2 b0 l (l.length : Int) q1 q2 m (r + 1) v' ((i + 1 : Nat) : Int) w' x' y') _ _ _ _ c2.symm (hq _ _ _ _ _ _ _ _ _ _ _ _ _ _)
theorem frame_joint (l : List (List D)) (h : ∀ r ∈ l, typL slotSh r) (hl : l.length ≤ 1048576) (b0 b1 : Bool) (q1 : Int → Bool → Bool → Rs) (q2 : Int → Bool → SV → Rs) (p1 : Int → Int → Bool → Bool → Bool → Int → Int → Int → Int → ByteArray → ByteArray → Int → Int → ByteArray → Rs) (p2 : Int → SV → Int → Bool → SV → SV → Rs)
    (hq1 : ∀ a b c, q1 a b c = some ([.one (.b false)], [])) (hq2 : ∀ a b c, q2 a b c = some ([.one (.b true)], [])) (hp1 : ∀ a b c d e f g h i j k l m n, p1 a b c d e f g h i j k l m n = some ([.one (.b false)], [])) (hp2 : ∀ a b c d e f, p2 a b c d e f = some ([.one (.b true)], [])) :
    ∀ (k i m : Nat) (r : Int) (v w v' w' x' y' : SV), i + k = l.length → k < m → 0 ≤ r → r ≤ 2 → (r = 0 ↔ i = 0) → (r = 2 ↔ 2 ≤ i ∧ tn l (i - 2) = tn l (i - 1)) → (2 ≤ i → tn l (i - 2) ≤ tn l (i - 1)) →
    ∃ b, l66o0 l 2 b0 q1 q2 m i v w = some ([.one (.b b)], []) ∧ l67o0 l 2 b1 l (l.length : Int) p1 p2 m r v' i w' x' y' = some ([.one (.b b)], []) := by
  intro k
  induction k with
  | zero =>
    intro i m r v w v' w' x' y' e hm _ _ _ _ _
    obtain ⟨m, rfl⟩ : ∃ m', m = m' + 1 := ⟨m - 1, by omega⟩
    have ei : decide ((i : Int) < (l.length : Int)) = false := by simp; omega
    refine ⟨true, ?_, ?_⟩
    · simp only [l66o0, ei, hq2]; simp
    · simp only [l67o0, ei, hp2]; simp
  | succ k ih =>
    intro i m r v w v' w' x' y' e hm h0 h2 hz ht hs
    obtain ⟨m, rfl⟩ : ∃ m', m = m' + 1 := ⟨m - 1, by omega⟩
    have hcv : ((1 ≤ i ∧ tn l (i - 1) ≠ tn l i) ∧ ic l i r = 1) ∨ (¬(1 ≤ i ∧ tn l (i - 1) ≠ tn l i) ∧ ic l i r = r + 1) := by
      by_cases hcc : 1 ≤ i ∧ tn l (i - 1) ≠ tn l i
      · exact Or.inl ⟨hcc, by unfold ic; rw [if_pos (by simp only [Bool.and_eq_true, decide_eq_true_eq, bne_iff_ne]; exact hcc)]⟩
      · exact Or.inr ⟨hcc, by unfold ic; rw [if_neg (by simp only [Bool.and_eq_true, decide_eq_true_eq, bne_iff_ne]; exact hcc)]⟩
    have hsb : sbad l i = true ↔ (rowOk (l.getD i []) = false ∨ (1 ≤ i ∧ tn l (i - 1) > tn l i)) ∨ (2 ≤ i ∧ tn l (i - 2) = tn l i) := by
      simp only [sbad, Bool.or_eq_true, Bool.and_eq_true, decide_eq_true_eq, Bool.not_eq_true']
    have hib : ib l i r = true ↔ (rowOk (l.getD i []) = false ∨ (1 ≤ i ∧ tn l (i - 1) > tn l i)) ∨ ic l i r > 2 := by
      simp only [ib, Bool.or_eq_true, Bool.and_eq_true, decide_eq_true_eq, Bool.not_eq_true']
    have key : sbad l i = ib l i r := by
      rw [Bool.eq_iff_iff, hsb, hib]
      by_cases hro : rowOk (l.getD i []) = false
      · simp only [hro, true_or]
      · have g1 : (rowOk (l.getD i []) = false) = False := eq_false hro
        rw [g1]
        constructor
        · rintro ((hx | hx) | hx)
          · exact hx.elim
          · exact .inl (.inr hx)
          · by_cases hg : tn l (i - 1) > tn l i
            · exact .inl (.inr ⟨by omega, hg⟩)
            · exact .inr (by omega)
        · rintro ((hx | hx) | hx)
          · exact hx.elim
          · exact .inl (.inr hx)
          · by_cases hg : 1 ≤ i ∧ tn l (i - 1) > tn l i
            · exact .inl (.inr hg)
            · exact .inr (by omega)
    have hc : ib l i r = false → (ic l i r = 2 ↔ 2 ≤ i + 1 ∧ tn l (i - 1) = tn l i) ∧ 1 ≤ ic l i r ∧ ic l i r ≤ 2 ∧ (2 ≤ i + 1 → tn l (i - 1) ≤ tn l i) := by
      intro hb
      have hn := mt hib.2 (by rw [hb]; simp)
      have n1 : ¬(1 ≤ i ∧ tn l (i - 1) > tn l i) := fun x => hn (.inl (.inr x))
      have n2 : ¬ ic l i r > 2 := fun x => hn (.inr x)
      refine ⟨?_, ?_, ?_, ?_⟩ <;> omega
    obtain ⟨s1, s2⟩ := impl_step l h hl b1 p1 p2 hp1 i m r ⟨h0, h2⟩ v' w' x' y' (by omega)
    rw [spec_step l h hl b0 q1 q2 i m v w (by omega), key]
    cases hb : ib l i r
    · obtain ⟨v1, w1, x1, y1, e1⟩ := s2 hb
      obtain ⟨c1, c2, c3, c4⟩ := hc hb
      rw [e1]
      have a1 : i + 1 - 2 = i - 1 := by omega
      have a2 : i + 1 - 1 = i := by omega
      have := ih (i + 1) m (ic l i r) (.d (.b true)) (.d (.b false)) v1 w1 x1 y1 (by omega) (by omega) (by omega) c3 (by omega) (by rw [a1, a2]; exact c1) (by rw [a1, a2]; exact c4)
      simpa using this
    · exact ⟨false, by rw [if_pos rfl, hq1], s1 hb⟩
theorem frameOk_both (l : List (List D)) (h : ∀ r ∈ l, typL slotSh r) (hl : l.length ≤ 1048576) : ∃ b, t29 l = some ([.one (.b b)], []) ∧ t31 l = some ([.one (.b b)], []) := by
  obtain ⟨b, e1, e2⟩ := frame_joint l h hl false false (fun _ _ _ => some ([.one (.b false)], [])) (fun _ _ _ => some ([.one (.b true)], [])) (fun _ _ _ _ _ _ _ _ _ _ _ _ _ _ => some ([.one (.b false)], [])) (fun _ _ _ _ _ _ => some ([.one (.b true)], []))
    (fun _ _ _ => rfl) (fun _ _ _ => rfl) (fun _ _ _ _ _ _ _ _ _ _ _ _ _ _ => rfl) (fun _ _ _ _ _ _ => rfl) l.length 0 KK 0 .undef .undef .undef .undef .undef .undef (by omega) (by rw [KK_eq]; omega) (by omega) (by omega) (by simp) (by simp) (by simp)
  refine ⟨b, ?_, ?_⟩
  · have : t66 l 2 = some ([.one (.b b)], []) := e1
    simp [t29, this, zr66, zo66]
  · have : t67 l 2 = some ([.one (.b b)], []) := e2
    simp [t31, this, zr67, zo67]
end Go.Den.L12

/- Frames as texts. -/
namespace Go.Den.L12
open Go
def slotS (r : List D) : ByteArray := varS (asI (nthD r 0)) ++ varS (asI (nthD r 1)) ++ varS (asI (nthD r 2)) ++ pieceS (callS (asI (nthD r 3)) (asS (nthD r 4)) (asS (nthD r 5)) (asI (nthD r 6)) (asI (nthD r 7)) (asS (nthD r 8)))
theorem slotS_size (r : List D) : (slotS r).size ≤ 1040 := by
  unfold slotS
  have := varS_size (asI (nthD r 0)); have := varS_size (asI (nthD r 1)); have := varS_size (asI (nthD r 2))
  have := callS_size (asI (nthD r 3)) (asS (nthD r 4)) (asS (nthD r 5)) (asI (nthD r 6)) (asI (nthD r 7)) (asS (nthD r 8))
  have := pieceS_size (callS (asI (nthD r 3)) (asS (nthD r 4)) (asS (nthD r 5)) (asI (nthD r 6)) (asI (nthD r 7)) (asS (nthD r 8)))
  simp only [ByteArray.size_append]; omega
theorem l11Slot_eq (r : List D) : t81 (asI (nthD r 0)) (asI (nthD r 1)) (asI (nthD r 2)) (asI (nthD r 3)) (asS (nthD r 4)) (asS (nthD r 5)) (asI (nthD r 6)) (asI (nthD r 7)) (asS (nthD r 8)) = some ([.one (.s (slotS r))], []) := by
  unfold slotS
  generalize asI (nthD r 0) = a; generalize asI (nthD r 1) = b; generalize asI (nthD r 2) = c; generalize asI (nthD r 3) = k; generalize asS (nthD r 4) = p; generalize asS (nthD r 5) = t; generalize asI (nthD r 6) = n; generalize asI (nthD r 7) = m; generalize asS (nthD r 8) = d
  have h1 := varS_size a; have h2 := varS_size b; have h3 := varS_size c; have h4 := callS_size k p t n m d; have h5 := pieceS_size (callS k p t n m d)
  have e1 : (varS a).size + (varS b).size ≤ lim := by unfold lim; omega
  have e2 : (varS a).size + (varS b).size + (varS c).size ≤ lim := by unfold lim; omega
  have e3 : (varS a).size + (varS b).size + (varS c).size + (pieceS (callS k p t n m d)).size ≤ lim := by unfold lim; omega
  simp [t81, var_spec, showCall_spec, piece_spec (callS k p t n m d) (by omega), e1, e2, e3, zr89, zo89, zr69, zo69, zr110, zo110]
def frS (l : List (List D)) : Nat → Nat → ByteArray → ByteArray
  | 0, _, s => s
  | k + 1, i, s => frS l k (i + 1) (s ++ slotS (l.getD i []))
theorem showF_spec (l : List (List D)) (h : ∀ r ∈ l, typL slotSh r) (hl : l.length ≤ 1048576) (s0 : ByteArray) (b0 : Bool) (q : ByteArray → Int → Bool → Rs) (hq : ∀ s a b, q s a b = some ([.one (.s s)], [])) : ∀ (k i m : Nat) (s : ByteArray) (v : SV), i + k = l.length → k < m → s.size ≤ 1 + i * 1040 →
    l41o1 l s0 b0 q m s i v = some ([.one (.s (frS l k i s))], []) := by
  intro k
  induction k with
  | zero =>
    intro i m s v e hm hs
    obtain ⟨m, rfl⟩ : ∃ m', m = m' + 1 := ⟨m - 1, by omega⟩
    have ei : decide ((i : Int) < (l.length : Int)) = false := by simp; omega
    simp only [l41o1, ei, hq, frS]; simp
  | succ k ih =>
    intro i m s v e hm hs
    obtain ⟨m, rfl⟩ : ∃ m', m = m' + 1 := ⟨m - 1, by omega⟩
    have e1 := nat_in (i := i) (n := l.length) (by omega)
    have hi0 := row_ok l h i (by omega)
    have hw := w64_succ i (by omega)
    have ew : ∀ x, okR zr81 zo81 (some ([.one (.s x)], [])) = true := fun _ => rfl
    have eb : ∀ x, asS (resC (some ([.one (.s x)], [])) 0 0) = x := fun _ => rfl
    have z := slotS_size (l.getD i [])
    have ez : decide (s.size + (slotS (l.getD i [])).size ≤ lim) = true := decide_eq_true (by unfold lim; omega)
    simp only [l41o1, e1, nat_pos, Int.toNat_natCast, hi0, l11Slot_eq, ew, eb, ez, Bool.and_true, chk_true, if_true, hw, frS]
    exact ih (i + 1) m _ _ (by omega) (by omega) (by rw [ByteArray.size_append]; omega)
end Go.Den.L12

/- Whole numbers read from bytes. -/
namespace Go.Den.L12
open Go Go.IntWalk
def val : List UInt8 → Nat | [] => 0 | b :: t => b.toNat % 128 + 128 * val t
def enc : Nat → Nat → List UInt8
  | 0, n => [UInt8.ofNat n]
  | k + 1, n => if n ≥ 128 then UInt8.ofNat (128 + n % 128) :: enc k (n / 128) else [UInt8.ofNat n]
def good : List UInt8 → Bool
  | [] => false
  | [b] => decide (b.toNat < 128)
  | b :: c :: t => decide (b.toNat ≥ 128) && (decide (0 < val (c :: t)) && good (c :: t))
theorem ofNat_is (x : Nat) (b : UInt8) (hx : x < 256) : UInt8.ofNat x = b ↔ x = b.toNat := by
  constructor
  · intro h; subst h; simp; omega
  · intro h; subst h; simp
theorem enc_good : ∀ (t : List UInt8) (k : Nat), t.length ≤ k + 1 → (enc k (val t) = t ↔ good t = true)
  | [], k, _ => by
    cases k <;> simp [enc, val, good]
  | [b], k, _ => by
    have hb := b.toNat_lt
    have e : enc k (b.toNat % 128 + 128 * 0) = [UInt8.ofNat (b.toNat % 128)] := by
      cases k with
      | zero => rfl
      | succ k => simp only [enc]; rw [if_neg (by omega)]; simp
    simp only [val, e, good, List.cons.injEq, and_true, decide_eq_true_eq]
    rw [ofNat_is _ _ (by omega)]
    omega
  | b :: c :: t, k, h => by
    have hb := b.toNat_lt
    obtain ⟨k, rfl⟩ : ∃ k', k = k' + 1 := ⟨k - 1, by simp at h; omega⟩
    have ih := enc_good (c :: t) k (by simp at h ⊢; omega)
    have e : val (b :: c :: t) = b.toNat % 128 + 128 * val (c :: t) := rfl
    generalize hv : val (c :: t) = v at *
    simp only [good, hv, Bool.and_eq_true, decide_eq_true_eq]
    rw [e]
    simp only [enc]
    by_cases hz : v = 0
    · rw [if_neg (by omega)]
      simp; omega
    · rw [if_pos (by omega), show (b.toNat % 128 + 128 * v) / 128 = v by omega, show (b.toNat % 128 + 128 * v) % 128 = b.toNat % 128 by omega]
      simp only [List.cons.injEq, ih]
      rw [ofNat_is _ _ (by omega)]
      constructor
      · rintro ⟨h1, h2⟩; exact ⟨by omega, by omega, h2⟩
      · rintro ⟨h1, h2, h3⟩; exact ⟨by omega, h3⟩
theorem val_take : ∀ (bs : List UInt8) (i : Nat), i < bs.length → val (bs.take (i + 1)) = val (bs.take i) + 128 ^ i * ((bs.getD i 0).toNat % 128)
  | [], i, h => by simp at h
  | b :: t, 0, _ => by simp [val]
  | b :: t, i + 1, h => by
    have ih := val_take t i (by simpa using h)
    simp only [List.take_succ_cons, val, ih, List.getD_cons_succ]
    rw [Nat.pow_succ, Nat.mul_add, Nat.mul_comm (128 ^ i) 128, Nat.mul_assoc]
    omega
theorem val_lt : ∀ (t : List UInt8), val t < 128 ^ t.length
  | [] => by simp [val]
  | b :: t => by
    have := val_lt t
    simp only [val, List.length_cons, Nat.pow_succ]
    omega
theorem good_take : ∀ (bs : List UInt8) (i : Nat), i < bs.length → (∀ j, j < i → (bs.getD j 0).toNat ≥ 128) → (good (bs.take (i + 1)) = true ↔ (bs.getD i 0).toNat < 128 ∧ (i = 0 ∨ (bs.getD i 0).toNat ≠ 0))
  | [], i, h, _ => by simp at h
  | b :: t, 0, _, _ => by simp [good]
  | b :: t, i + 1, h, hj => by
    have hi : i < t.length := by simpa using h
    have ih := good_take t i hi (fun j hj' => by simpa using hj (j + 1) (by omega))
    have hb : b.toNat ≥ 128 := by simpa using hj 0 (by omega)
    have hv := val_take t i hi
    obtain ⟨c, t', ht⟩ : ∃ c t', t.take (i + 1) = c :: t' := by
      cases t with
      | nil => simp at hi
      | cons c t => exact ⟨c, _, rfl⟩
    simp only [List.take_succ_cons, List.getD_cons_succ]
    rw [ht] at ih hv ⊢
    simp only [good, Bool.and_eq_true, decide_eq_true_eq, ih]
    have hp : 0 < 128 ^ i := Nat.pow_pos (by omega)
    constructor
    · rintro ⟨_, h2, h3, h4⟩
      refine ⟨h3, .inr ?_⟩
      rcases h4 with rfl | h4
      · intro hz
        rw [hz] at hv
        simp at hv
        have h0 : val ([] : List UInt8) = 0 := rfl
        omega
      · exact h4
    · rintro ⟨h1, h2⟩
      have h2 : (t.getD i 0).toNat ≠ 0 := by rcases h2 with h2 | h2; omega; exact h2
      refine ⟨hb, ?_, h1, .inr h2⟩
      have : 0 < 128 ^ i * ((t.getD i 0).toNat % 128) := Nat.mul_pos hp (by omega)
      omega
theorem good_in : ∀ (t : List UInt8), good t = true → ∀ j, j + 1 < t.length → (t.getD j 0).toNat ≥ 128
  | [], h, _, _ => by simp [good] at h
  | [b], _, j, hj => by simp at hj
  | b :: c :: t, h, j, hj => by
    simp only [good, Bool.and_eq_true, decide_eq_true_eq] at h
    cases j with
    | zero => simpa using h.1
    | succ j => simpa using good_in (c :: t) h.2.2 j (by simpa using hj)
theorem bytesD_snoc : ∀ {l : List (List D)} {x : Int}, isBytes l = true → bytesD (l ++ [[.i .u8 x]]) = bytesD l ++ [UInt8.ofNat x.toNat]
  | [], x, _ => rfl
  | r :: l, x, h => by
    unfold isBytes at h
    split at h
    · rename_i e; cases e
    · rename_i e; cases e; simp only [List.cons_append, bytesD]; rw [bytesD_snoc h]
    · cases h
theorem vp_enc : ∀ (k : Nat) (n : Int) (l : List (List D)), isBytes l = true → 0 ≤ n → n < 128 ^ (k + 1) → bytesD ((vp k n l).2 ++ [[.i .u8 (IntKind.wrap .u8 (vp k n l).1)]]) = bytesD l ++ enc k n.toNat
  | 0, n, l, h, h0, h1 => by
    simp only [vp, enc]
    rw [u8_in _ (by omega), bytesD_snoc h]
  | k + 1, n, l, h, h0, h1 => by
    unfold vp
    by_cases g : n ≥ 128
    · rw [if_pos g, vp_enc k (n / 128) _ (isBytes_snoc h) (by omega) (by
        rw [Int.ediv_lt_iff_lt_mul (by omega)]; rw [Int.pow_succ] at h1; exact h1), bytesD_snoc h]
      simp only [enc]
      rw [if_pos (by omega), List.append_assoc, show (128 + n % 128).toNat = 128 + n.toNat % 128 by omega, show (n / 128).toNat = n.toNat / 128 by omega]
      rfl
    · rw [if_neg g]
      simp only
      rw [u8_in _ (by omega), bytesD_snoc h]
      simp only [enc]
      rw [if_neg (by omega)]
theorem varS_enc (n : Int) (h0 : 0 ≤ n) (h1 : n ≤ 562949953421311) : (varS n).toList = enc 6 n.toNat := by
  unfold varS
  rw [if_pos ⟨h0, h1⟩, ByteArray.toList_eq]
  simp only [vp_enc 6 n [] rfl h0 (by omega), bytesD, List.nil_append]
/-- What is read from the bytes behind the i-th, those before it being 128 and more. -/
def rdL (bs : List UInt8) : Nat → Nat → Int × Int
  | 0, _ => (0, 0)
  | f + 1, i => if i < bs.length ∧ i < 7 then
      (if (bs.getD i 0).toNat ≥ 128 then rdL bs f (i + 1) else if (bs.getD i 0).toNat = 0 ∧ i > 0 then (0, 0) else (((val (bs.take (i + 1)) : Nat) : Int), ((i + 1 : Nat) : Int)))
    else (0, 0)
def rdV (s : ByteArray) : Int × Int := rdL s.data.toList 8 0
theorem get_is (s : ByteArray) (i : Nat) (h : i < s.size) : s.get! i = s.data.toList.getD i 0 := by
  have h' : i < s.data.size := h
  show s.data[i]! = _
  rw [getElem!_pos s.data i h']
  simp [List.getD, List.getElem?_eq_getElem (show i < s.data.toList.length by simpa using h')]
theorem extract_is (s : ByteArray) (a b : Nat) : (s.extract a b).toList = (s.data.toList.take b).drop a := by
  rw [ByteArray.toList_eq, ByteArray.data_extract, Array.toList_extract]
  simp [List.extract, List.drop_take]
theorem rdL_is (bs : List UInt8) : ∀ (f i : Nat), f + i = 8 → (∀ j, j < i → (bs.getD j 0).toNat ≥ 128) → rdL bs f i = (0, 0) ∨ ∃ k : Nat, 1 ≤ k ∧ k ≤ 7 ∧ k ≤ bs.length ∧ rdL bs f i = (((val (bs.take k) : Nat) : Int), (k : Int)) ∧ good (bs.take k) = true
  | 0, i, _, _ => .inl rfl
  | f + 1, i, e, hj => by
    unfold rdL
    by_cases h : i < bs.length ∧ i < 7
    · rw [if_pos h]
      by_cases g : (bs.getD i 0).toNat ≥ 128
      · rw [if_pos g]
        exact rdL_is bs f (i + 1) (by omega) (fun j hj' => by
          by_cases e' : j = i
          · subst e'; exact g
          · exact hj j (by omega))
      · rw [if_neg g]
        by_cases g2 : (bs.getD i 0).toNat = 0 ∧ i > 0
        · rw [if_pos g2]; exact .inl rfl
        · rw [if_neg g2]
          exact .inr ⟨i + 1, by omega, by omega, by omega, rfl, (good_take bs i h.1 hj).2 ⟨by omega, by omega⟩⟩
    · rw [if_neg h]; exact .inl rfl
theorem rdV_is (s : ByteArray) : rdV s = (0, 0) ∨ ∃ k : Nat, 1 ≤ k ∧ k ≤ 7 ∧ k ≤ s.size ∧ rdV s = (((val (s.data.toList.take k) : Nat) : Int), (k : Int)) ∧ good (s.data.toList.take k) = true := by
  have := rdL_is s.data.toList 8 0 rfl (by omega)
  have e : s.data.toList.length = s.size := by simp
  rw [e] at this
  exact this
theorem val_le (bs : List UInt8) (k : Nat) (h : k ≤ 7) : val (bs.take k) ≤ 562949953421311 := by
  have h1 := val_lt (bs.take k)
  have h2 : 128 ^ (bs.take k).length ≤ 128 ^ 7 := Nat.pow_le_pow_right (by omega) (by simp; omega)
  omega
/-- What was read is shown so again. -/
theorem rdV_back (s : ByteArray) (h : (rdV s).2 ≠ 0) : varS (rdV s).1 = s.extract 0 (rdV s).2.toNat := by
  rcases rdV_is s with h0 | ⟨k, h1, h2, h3, h4, h5⟩
  · rw [h0] at h; exact absurd rfl h
  · rw [h4]
    have hv := val_le s.data.toList k h2
    have e1 := varS_enc (val (s.data.toList.take k) : Nat) (by omega) (by omega)
    have e2 := (enc_good (s.data.toList.take k) 6 (by simp; omega)).2 h5
    have e3 := extract_is s 0 k
    simp only [Int.toNat_natCast] at e1 ⊢
    rw [e2] at e1
    simp only [List.drop_zero] at e3
    rw [← e1, ByteArray.toList_eq, ByteArray.toList_eq] at e3
    exact ByteArray.ext (Array.ext' e3.symm)
theorem rdV_rng (s : ByteArray) : 0 ≤ (rdV s).1 ∧ (rdV s).1 ≤ 562949953421311 ∧ 0 ≤ (rdV s).2 ∧ (rdV s).2 ≤ 7 ∧ (rdV s).2 ≤ (s.size : Int) := by
  rcases rdV_is s with h0 | ⟨k, h1, h2, h3, h4, h5⟩
  · rw [h0]; simp
  · have := val_le s.data.toList k h2
    rw [h4]; simp only; omega
theorem or_add (n b i : Nat) (hn : n < 2 ^ (7 * i)) (hb : b < 128) (hi : i ≤ 6) : bitOr .i64 (n : Int) ((b * 2 ^ (7 * i) : Nat) : Int) = ((n + b * 2 ^ (7 * i) : Nat) : Int) := by
  have h7 : 2 ^ (7 * i) ≤ 2 ^ 42 := Nat.pow_le_pow_right (by omega) (by omega)
  have h8 : b * 2 ^ (7 * i) ≤ 127 * 2 ^ 42 := Nat.mul_le_mul (by omega) h7
  have h9 : 2 ^ (7 * i) * b = b * 2 ^ (7 * i) := Nat.mul_comm _ _
  unfold bitOr
  show IntKind.wrap .i64 (((BitVec.ofInt 64 (n : Int)) ||| (BitVec.ofInt 64 ((b * 2 ^ (7 * i) : Nat) : Int))).toNat : Int) = _
  have e2 : 2 ^ (7 * i) * b + n = 2 ^ (7 * i) * b ||| n := Nat.two_pow_add_eq_or_of_lt hn b
  rw [BitVec.toNat_or, ofInt_nat _ (by omega), ofInt_nat _ (by omega), Nat.or_comm, ← h9, ← e2, i64_in _ (by omega), h9]
  omega
theorem and127 (n : Nat) (h : n < 256) : bitAnd .i64 (n : Int) 127 = ((n % 128 : Nat) : Int) := by
  unfold bitAnd
  show IntKind.wrap .i64 (((BitVec.ofInt 64 (n : Int)) &&& (BitVec.ofInt 64 ((127 : Nat) : Int))).toNat : Int) = _
  rw [BitVec.toNat_and, ofInt_nat n (by omega), ofInt_nat 127 (by omega), show (127 : Nat) = 2 ^ 7 - 1 by rfl, Nat.and_two_pow_sub_one_eq_mod, i64_in _ (by omega)]
theorem rdI_loop (s : ByteArray) (n8 n9 : Int) (q1 : Int → Int → Int → Int → Int → Bool → Bool → Bool → Rs) (q2 : Int → Int → SV → Bool → SV → Rs)
    (h1 : ∀ a b c d e f g h, q1 a b c d e f g h = some ([.one (.i .i64 a), .one (.i .i64 b)], [])) (h2 : ∀ a b c d e, q2 a b c d e = some ([.one (.i .i64 0), .one (.i .i64 0)], [])) :
    ∀ (f i m : Nat) (u v w : SV), f + i = 8 → 8 < m + i → (∀ j, j < i → (s.data.toList.getD j 0).toNat ≥ 128) →
    l86o0 s n8 n9 q1 q2 m ((val (s.data.toList.take i) : Nat) : Int) i u v w = some ([.one (.i .i64 (rdL s.data.toList f i).1), .one (.i .i64 (rdL s.data.toList f i).2)], []) := by
  have e0 : s.data.toList.length = s.size := by simp
  intro f
  induction f with
  | zero =>
    intro i m u v w e hm hj
    obtain ⟨m, rfl⟩ : ∃ m', m = m' + 1 := ⟨m - 1, by omega⟩
    have ei : decide ((i : Int) < 7) = false := by simp; omega
    simp only [l86o0, ei, Bool.and_false, Bool.false_eq_true, if_false, h2, rdL]
  | succ f ih =>
    intro i m u v w e hm hj
    obtain ⟨m, rfl⟩ : ∃ m', m = m' + 1 := ⟨m - 1, by omega⟩
    by_cases h : i < s.data.toList.length ∧ i < 7
    · have a1 : decide ((i : Int) < (s.size : Int)) = true := by rw [e0] at h; simp; omega
      have a2 : decide ((i : Int) < 7) = true := by simp; omega
      have a3 : decide ((0 : Int) ≤ (i : Int) ∧ (i : Int) < (s.size : Int)) = true := by rw [e0] at h; simp; omega
      have a4 : w64 (7 * (i : Int)) = ((7 * i : Nat) : Int) := by rw [w64_in _ (by omega)]; omega
      have a5 : decide ((0 : Int) ≤ ((7 * i : Nat) : Int)) = true := decide_eq_true (by omega)
      have hb := (s.data.toList.getD i 0).toNat_lt
      have hg := get_is s i (by omega)
      have hv := val_take s.data.toList i h.1
      have hlt := val_lt (s.data.toList.take i)
      have hl' : (s.data.toList.take i).length = i := by simp only [List.length_take]; omega
      rw [hl'] at hlt
      have e128 : (128 : Nat) ^ i = 2 ^ (7 * i) := by rw [show (128 : Nat) = 2 ^ 7 from rfl, ← Nat.pow_mul]
      have h7 : 2 ^ (7 * i) ≤ 2 ^ 42 := Nat.pow_le_pow_right (by omega) (by omega)
      generalize hbb : (s.data.toList.getD i 0).toNat = b at *
      have a6 : w64 (b : Int) = (b : Int) := w64_in _ (by omega)
      have a7 : min (7 * i) (IntKind.bits .i64) = 7 * i := Nat.min_eq_left (by show 7 * i ≤ 64; omega)
      have h8 : b % 128 * 2 ^ (7 * i) ≤ 127 * 2 ^ 42 := Nat.mul_le_mul (by omega) h7
      have a8 : w64 (((b % 128 : Nat) : Int) * 2 ^ (7 * i)) = ((b % 128 * 2 ^ (7 * i) : Nat) : Int) := by
        have : ((b % 128 : Nat) : Int) * 2 ^ (7 * i) = ((b % 128 * 2 ^ (7 * i) : Nat) : Int) := by simp
        rw [this, w64_in _ (by omega)]
      have a9 : bitOr .i64 ((val (s.data.toList.take i) : Nat) : Int) ((b % 128 * 2 ^ (7 * i) : Nat) : Int) = ((val (s.data.toList.take (i + 1)) : Nat) : Int) := by
        rw [or_add _ _ i (by omega) (by omega) (by omega), hv, e128, Nat.mul_comm (b % 128)]
      simp only [l86o0, a1, a2, a3, a4, a5, Int.toNat_natCast, hg, hbb, a6, and127 b hb, a7, a8, a9, Bool.and_true, chk_true, if_true, rdL]
      rw [if_pos h]
      by_cases g : b ≥ 128
      · have g' : decide ((b : Int) > 127) = true := by simp; omega
        simp only [g', if_true, hbb, if_pos g]
        rw [w64_succ i (by omega)]
        exact ih (i + 1) m _ _ _ (by omega) (by omega) (fun j hj' => by
          by_cases e' : j = i
          · subst e'; omega
          · exact hj j (by omega))
      · have g' : decide ((b : Int) > 127) = false := by simp; omega
        simp only [g', Bool.false_eq_true, if_false, hbb, if_neg g]
        by_cases g2 : b = 0 ∧ i > 0
        · have g3 : (((b : Int) == 0) && decide ((i : Int) > 0)) = true := by simp; omega
          simp only [g3, if_true, h1, if_pos g2]
        · have g3 : (((b : Int) == 0) && decide ((i : Int) > 0)) = false := by
            rw [Bool.eq_false_iff]; simp; omega
          simp only [g3, Bool.false_eq_true, if_false, h1, if_neg g2, w64_succ i (by omega)]
    · have a1 : (decide ((i : Int) < (s.size : Int)) && decide ((i : Int) < 7)) = false := by
        rw [e0] at h; rw [Bool.eq_false_iff]; simp; omega
      simp only [l86o0, a1, Bool.false_eq_true, if_false, h2, rdL, if_neg h]
theorem readVar_impl (s : ByteArray) : t86 s = some ([.one (.i .i64 (rdV s).1), .one (.i .i64 (rdV s).2)], []) :=
  rdI_loop s 0 0 (fun n36 n37 _ _ _ _ _ _ => some ([.one (.i .i64 n36), .one (.i .i64 n37)], [])) (fun _ _ _ _ _ => some ([.one (.i .i64 0), .one (.i .i64 0)], [])) (fun _ _ _ _ _ _ _ _ => rfl) (fun _ _ _ _ _ => rfl) 8 0 KK .undef .undef .undef rfl (by rw [KK_eq]; omega) (by omega)
theorem rdS_in (s : ByteArray) (n54 n55 n56 : Int) (b59 : Bool) (q : Int → Int → Bool → SV → Rs) (k : Nat) (hk : k ≤ 7) (hks : k ≤ s.size) : ∀ (j m n : Nat) (v w : SV), j ≤ k → j < m → n < 128 ^ (k - j) →
    ∃ d, l84o2 s n54 n55 n56 b59 q m (n : Int) ((j : Int) - 1) v w = q ((n * 128 ^ j + val (s.data.toList.take j) : Nat) : Int) (-1) false d := by
  intro j
  induction j with
  | zero =>
    intro m n v w hj hm hn
    obtain ⟨m, rfl⟩ : ∃ m', m = m' + 1 := ⟨m - 1, by omega⟩
    exact ⟨_, by simp [l84o2, val]; rfl⟩
  | succ j ih =>
    intro m n v w hj hm hn
    obtain ⟨m, rfl⟩ : ∃ m', m = m' + 1 := ⟨m - 1, by omega⟩
    have e0 : s.data.toList.length = s.size := by simp
    have a0 : (((j + 1 : Nat) : Int) - 1) = (j : Int) := by omega
    have a1 : decide ((j : Int) ≥ 0) = true := by simp
    have a3 : decide ((0 : Int) ≤ (j : Int) ∧ (j : Int) < (s.size : Int)) = true := by simp; omega
    have hg := get_is s j (by omega)
    have hv := val_take s.data.toList j (by omega)
    have hb := (s.data.toList.getD j 0).toNat_lt
    generalize hbb : (s.data.toList.getD j 0).toNat = b at *
    have hn7 : 128 ^ (k - (j + 1)) ≤ 128 ^ 6 := Nat.pow_le_pow_right (by omega) (by omega)
    have hp : n * 128 < 128 ^ (k - j) := by rw [show k - j = (k - (j + 1)) + 1 by omega, Nat.pow_succ]; omega
    have a6 : w64 (b : Int) = (b : Int) := w64_in _ (by omega)
    have a7 : w64 (w64 ((n : Int) * 128) + ((b : Int)).tmod 128) = ((n * 128 + b % 128 : Nat) : Int) := by
      rw [Int.tmod_eq_emod_of_nonneg (by omega), w64_in ((n : Int) * 128) (by omega), w64_in _ (by omega)]; omega
    have a8 : w64 ((j : Int) - 1) = (j : Int) - 1 := w64_in _ (by omega)
    have hq : (n * 128 + b % 128) < 128 ^ (k - j) := by
      rw [show k - j = (k - (j + 1)) + 1 by omega, Nat.pow_succ] at hp ⊢; omega
    obtain ⟨d, hd⟩ := ih m (n * 128 + b % 128) (.d (.b true)) (keepV [] w) (by omega) (by omega) hq
    refine ⟨d, ?_⟩
    simp only [l84o2, a0, a1, a3, Int.toNat_natCast, hg, hbb, a6, a7, a8, chk_true, if_true]
    rw [hd]
    congr 2
    rw [hv, Nat.add_mul, Nat.pow_succ, Nat.mul_assoc, Nat.mul_comm 128 (128 ^ j), Nat.mul_comm (b % 128)]
    omega
theorem rdS_step (s : ByteArray) (n36 n37 : Int) (q1 : Int → Int → Int → Bool → Bool → Bool → Rs) (q2 : Int → SV → SV → Bool → SV → SV → Rs) (k m : Nat) (v1 v2 v3 v4 v5 : SV) (h1 : 1 ≤ k) (h7 : k ≤ 7) (hs : k ≤ s.size) :
    l84o0 s n36 n37 q1 q2 (m + 1) k v1 v2 v3 v4 v5 = if good (s.data.toList.take k) = true then q1 ((val (s.data.toList.take k) : Nat) : Int) k (-1) true false true else l84o0 s n36 n37 q1 q2 m ((k + 1 : Nat) : Int) (.d (.i .i64 ((val (s.data.toList.take k) : Nat) : Int))) (.d (.i .i64 (-1))) (.d (.b true)) (.d (.b false)) (.d (.b false)) := by
  have a1 : (decide ((k : Int) ≤ 7) && decide ((k : Int) ≤ (s.size : Int))) = true := by simp; omega
  have a2 : w64 ((k : Int) - 1) = (k : Int) - 1 := w64_in _ (by omega)
  have a3 : decide ((0 : Int) ≤ 0 ∧ (0 : Int) ≤ (k : Int) ∧ (k : Int) ≤ (s.size : Int)) = true := by simp; omega
  have e0 : s.data.toList.length = s.size := by simp
  simp only [l84o0, a1, if_true, a2]
  obtain ⟨d, hd⟩ := rdS_in s n36 n37 k true (fun n75 n76 b77 v78 =>
       chk (okR zr89 zo89 (t89 n75)) <|
       chk (decide ((0 : Int) ≤ 0 ∧ (0 : Int) ≤ (k : Int) ∧ (k : Int) ≤ (s.size : Int))) <|
       if ((asS (resC (t89 n75) 0 0)).toList == (s.extract (0 : Int).toNat (k : Int).toNat).toList) = true then
        q1 n75 k n76 true b77 ((asS (resC (t89 n75) 0 0)).toList == (s.extract (0 : Int).toNat (k : Int).toNat).toList)
       else
        l84o0 s n36 n37 q1 q2 m (w64 ((k : Int) + 1)) (.d (.i .i64 n75)) (.d (.i .i64 n76)) (.d (.b true)) (.d (.b b77)) (.d (.b ((asS (resC (t89 n75) 0 0)).toList == (s.extract (0 : Int).toNat (k : Int).toNat).toList)))) k h7 hs k KK 0 v4 v5 (Nat.le_refl _) (by rw [KK_eq]; omega) (by simp)
  refine Eq.trans hd ?_
  have ew : ∀ x, okR zr89 zo89 (some ([.one (.s x)], [])) = true := fun _ => rfl
  have eb : ∀ x, asS (resC (some ([.one (.s x)], [])) 0 0) = x := fun _ => rfl
  have hv := val_le s.data.toList k h7
  have ec : ((varS ((val (s.data.toList.take k) : Nat) : Int)).toList == (s.extract (0 : Int).toNat (k : Int).toNat).toList) = good (s.data.toList.take k) := by
    rw [varS_enc _ (by omega) (by omega), extract_is, Int.toNat_natCast, Int.toNat_natCast, Bool.eq_iff_iff, beq_iff_eq, show (0 : Int).toNat = 0 from rfl, List.drop_zero]
    exact enc_good _ 6 (by simp; omega)
  simp only [var_spec, ew, eb, a3, chk_true, Nat.zero_mul, Nat.zero_add, ec, w64_succ k (by omega)]
  cases good (s.data.toList.take k) <;> rfl
theorem rdS_end (s : ByteArray) (n36 n37 : Int) (q1 : Int → Int → Int → Bool → Bool → Bool → Rs) (q2 : Int → SV → SV → Bool → SV → SV → Rs) (h2 : ∀ a b c d e f, q2 a b c d e f = some ([.one (.i .i64 0), .one (.i .i64 0)], [])) (k m : Nat) (v1 v2 v3 v4 v5 : SV) (h : ¬ (k ≤ 7 ∧ k ≤ s.size)) :
    l84o0 s n36 n37 q1 q2 (m + 1) k v1 v2 v3 v4 v5 = some ([.one (.i .i64 0), .one (.i .i64 0)], []) := by
  have a1 : (decide ((k : Int) ≤ 7) && decide ((k : Int) ≤ (s.size : Int))) = false := by rw [Bool.eq_false_iff]; simp; omega
  simp only [l84o0, a1, Bool.false_eq_true, if_false, h2]
theorem rdS_dead (s : ByteArray) (n36 n37 : Int) (q1 : Int → Int → Int → Bool → Bool → Bool → Rs) (q2 : Int → SV → SV → Bool → SV → SV → Rs) (h2 : ∀ a b c d e f, q2 a b c d e f = some ([.one (.i .i64 0), .one (.i .i64 0)], [])) (j : Nat) (hj : (s.data.toList.getD j 0).toNat < 128) :
    ∀ (f k m : Nat) (v1 v2 v3 v4 v5 : SV), f + k = 9 → 9 < m + k → j + 1 < k → l84o0 s n36 n37 q1 q2 m k v1 v2 v3 v4 v5 = some ([.one (.i .i64 0), .one (.i .i64 0)], []) := by
  have e0 : s.data.toList.length = s.size := by simp
  intro f
  induction f with
  | zero =>
    intro k m v1 v2 v3 v4 v5 e hm hk
    obtain ⟨m, rfl⟩ : ∃ m', m = m' + 1 := ⟨m - 1, by omega⟩
    exact rdS_end s n36 n37 q1 q2 h2 k m _ _ _ _ _ (by omega)
  | succ f ih =>
    intro k m v1 v2 v3 v4 v5 e hm hk
    obtain ⟨m, rfl⟩ : ∃ m', m = m' + 1 := ⟨m - 1, by omega⟩
    by_cases h : k ≤ 7 ∧ k ≤ s.size
    · rw [rdS_step s n36 n37 q1 q2 k m _ _ _ _ _ (by omega) h.1 h.2, if_neg]
      · exact ih (k + 1) m _ _ _ _ _ (by omega) (by omega) (by omega)
      · intro hg
        have hl' : (s.data.toList.take k).length = k := by simp only [List.length_take]; omega
        have := good_in _ hg j (by omega)
        have e1 : (s.data.toList.take k).getD j 0 = s.data.toList.getD j 0 := by simp [List.getD, List.getElem?_take, show j < k by omega]
        rw [e1] at this
        omega
    · exact rdS_end s n36 n37 q1 q2 h2 k m _ _ _ _ _ h
theorem rdS_loop (s : ByteArray) (n36 n37 : Int) (q1 : Int → Int → Int → Bool → Bool → Bool → Rs) (q2 : Int → SV → SV → Bool → SV → SV → Rs) (h1 : ∀ a b c d e f, q1 a b c d e f = some ([.one (.i .i64 a), .one (.i .i64 b)], [])) (h2 : ∀ a b c d e f, q2 a b c d e f = some ([.one (.i .i64 0), .one (.i .i64 0)], [])) :
    ∀ (f i m : Nat) (v1 v2 v3 v4 v5 : SV), f + i = 8 → 9 < m + i → (∀ j, j < i → (s.data.toList.getD j 0).toNat ≥ 128) →
    l84o0 s n36 n37 q1 q2 m ((i + 1 : Nat) : Int) v1 v2 v3 v4 v5 = some ([.one (.i .i64 (rdL s.data.toList f i).1), .one (.i .i64 (rdL s.data.toList f i).2)], []) := by
  have e0 : s.data.toList.length = s.size := by simp
  intro f
  induction f with
  | zero =>
    intro i m v1 v2 v3 v4 v5 e hm hj
    obtain ⟨m, rfl⟩ : ∃ m', m = m' + 1 := ⟨m - 1, by omega⟩
    exact rdS_end s n36 n37 q1 q2 h2 (i + 1) m _ _ _ _ _ (by omega)
  | succ f ih =>
    intro i m v1 v2 v3 v4 v5 e hm hj
    obtain ⟨m, rfl⟩ : ∃ m', m = m' + 1 := ⟨m - 1, by omega⟩
    unfold rdL
    by_cases h : i < s.data.toList.length ∧ i < 7
    · rw [if_pos h, rdS_step s n36 n37 q1 q2 (i + 1) m _ _ _ _ _ (by omega) (by omega) (by omega)]
      have hgt := good_take s.data.toList i h.1 hj
      by_cases g : (s.data.toList.getD i 0).toNat ≥ 128
      · rw [if_pos g, if_neg (by rw [hgt]; omega)]
        exact ih (i + 1) m _ _ _ _ _ (by omega) (by omega) (fun j hj' => by
          by_cases e' : j = i
          · subst e'; exact g
          · exact hj j (by omega))
      · rw [if_neg g]
        by_cases g2 : (s.data.toList.getD i 0).toNat = 0 ∧ i > 0
        · rw [if_pos g2, if_neg (by rw [hgt]; omega)]
          exact rdS_dead s n36 n37 q1 q2 h2 i (by omega) (7 - i) (i + 1 + 1) m _ _ _ _ _ (by omega) (by omega) (by omega)
        · rw [if_neg g2, if_pos (hgt.2 ⟨by omega, by omega⟩), h1]
    · rw [if_neg h]
      exact rdS_end s n36 n37 q1 q2 h2 (i + 1) m _ _ _ _ _ (by omega)
theorem readVar_spec (s : ByteArray) : t84 s = some ([.one (.i .i64 (rdV s).1), .one (.i .i64 (rdV s).2)], []) :=
  rdS_loop s 0 0 (fun n36 n37 _ _ _ _ => some ([.one (.i .i64 n36), .one (.i .i64 n37)], [])) (fun _ _ _ _ _ _ => some ([.one (.i .i64 0), .one (.i .i64 0)], [])) (fun _ _ _ _ _ _ => rfl) (fun _ _ _ _ _ _ => rfl) 8 0 KK .undef .undef .undef .undef .undef rfl (by rw [KK_eq]; omega) (by omega)
end Go.Den.L12

/- Results read; what a client hears. -/
namespace Go.Den.L12
open Go
theorem extract_all (s : ByteArray) : s.extract 0 s.size = s := by
  apply ByteArray.ext
  rw [ByteArray.data_extract]
  exact Array.extract_size
theorem extract_join (s : ByteArray) (k : Nat) (h : k ≤ s.size) : s.extract 0 k ++ s.extract k s.size = s := by
  apply ByteArray.ext
  rw [ByteArray.data_append, ByteArray.data_extract, ByteArray.data_extract, Array.extract_append_extract]
  have e : max k s.size = s.data.size := by have : s.size = s.data.size := rfl; omega
  have e0 : min 0 k = 0 := by omega
  rw [e, e0]
  exact Array.extract_size
theorem extract_sz (s : ByteArray) (a : Nat) : (s.extract a s.size).size = s.size - a := by
  rw [ByteArray.size_extract]; omega
end Go.Den.L12

/- Readers. -/
namespace Go.Den.L12
open Go
theorem ext_join (s : ByteArray) (p q r : Nat) (h1 : p ≤ q) (h2 : q ≤ r) (h3 : r ≤ s.size) : s.extract p q ++ s.extract q r = s.extract p r := by
  apply ByteArray.ext
  rw [ByteArray.data_append, ByteArray.data_extract, ByteArray.data_extract, ByteArray.data_extract, Array.extract_append_extract]
  have e : max q r = r := by omega
  have e0 : min p q = p := by omega
  rw [e, e0]
theorem ext_ext (s : ByteArray) (p a b : Nat) (h : p + b ≤ s.size) : (s.extract p s.size).extract a b = s.extract (p + a) (p + b) := by
  apply ByteArray.ext
  rw [ByteArray.data_extract, ByteArray.data_extract, ByteArray.data_extract, Array.extract_extract]
  congr 1; omega
theorem ext_end (s : ByteArray) (p a : Nat) (h : p + a ≤ s.size) : (s.extract p s.size).extract a (s.extract p s.size).size = s.extract (p + a) s.size := by
  rw [extract_sz, ext_ext s p a _ (by omega)]
  congr 1; omega
theorem varS_size7 (n : Int) : (varS n).size ≤ 7 := by
  unfold varS
  split
  · have h := (vp_is 6 n [] rfl).2
    have h2 := bytesD_len ((vp 6 n []).2 ++ [[.i .u8 (IntKind.wrap .u8 (vp 6 n []).1)]])
    simp only [List.length_append, List.length_cons, List.length_nil] at h h2
    show (List.toArray _).size ≤ 7
    simp only [List.size_toArray]
    omega
  · exact Nat.zero_le _
def pos : Option Nat → Int | none => -1 | some p => (p : Int)
theorem pos_some (p : Nat) : pos (some p) = (p : Int) := rfl
def inB (s : ByteArray) (o : Option Nat) : Prop := ∀ p, o = some p → p ≤ s.size
/-- A whole number read: it, and where it ends. -/
def numA (s : ByteArray) : Option Nat → Int × Option Nat
  | none => (0, none)
  | some p => if (rdV (s.extract p s.size)).2 = 0 then (0, none) else ((rdV (s.extract p s.size)).1, some (p + (rdV (s.extract p s.size)).2.toNat))
def numsA (s : ByteArray) : Nat → Option Nat → List (List D) → List (List D) × Option Nat
  | 0, o, l => (l, o)
  | n + 1, o, l => if (numA s o).2 = none then (l, none) else numsA s n (numA s o).2 (l ++ [[.i .i64 (numA s o).1]])
def takeA (s : ByteArray) (o : Option Nat) : ByteArray × Option Nat :=
  match (numA s o).2 with
  | none => (⟨#[]⟩, none)
  | some q => if (numA s o).1 > (s.size : Int) - q then (⟨#[]⟩, none) else (s.extract q (q + (numA s o).1.toNat), some (q + (numA s o).1.toNat))
theorem numA_is (s : ByteArray) (o : Option Nat) (h : inB s o) : ((numA s o).1 = 0 ∧ (numA s o).2 = none) ∨ ∃ p q, o = some p ∧ (numA s o).2 = some q ∧ p < q ∧ q ≤ p + 7 ∧ q ≤ s.size ∧ 0 ≤ (numA s o).1 ∧ (numA s o).1 ≤ 562949953421311 ∧ s.extract p q = varS (numA s o).1 := by
  cases o with
  | none => exact .inl ⟨rfl, rfl⟩
  | some p =>
    have hp := h p rfl
    have hr := rdV_rng (s.extract p s.size)
    have hb := rdV_back (s.extract p s.size)
    have hz := extract_sz s p
    unfold numA
    by_cases e : (rdV (s.extract p s.size)).2 = 0
    · simp only [e, if_true]; exact .inl ⟨trivial, trivial⟩
    · simp only [e, if_false]
      refine .inr ⟨p, _, rfl, rfl, by omega, by omega, by omega, hr.1, hr.2.1, ?_⟩
      rw [hb e, ext_ext s p 0 _ (by omega)]
      rfl
theorem takeA_is (s : ByteArray) (o : Option Nat) (h : inB s o) : ((takeA s o).1 = ⟨#[]⟩ ∧ (takeA s o).2 = none) ∨ ∃ p q, o = some p ∧ (takeA s o).2 = some q ∧ p < q ∧ q ≤ s.size ∧ s.extract p q = pieceS (takeA s o).1 ∧ (takeA s o).1.size ≤ s.size := by
  rcases numA_is s o h with ⟨e1, e2⟩ | ⟨p, q, rfl, e2, h1, h2, h3, h4, h5, h6⟩
  · refine .inl ?_
    unfold takeA; rw [e2]; exact ⟨rfl, rfl⟩
  · unfold takeA; rw [e2]
    by_cases g : (numA s (some p)).1 > (s.size : Int) - q
    · simp only [g, if_true]; exact .inl ⟨trivial, trivial⟩
    · simp only [g, if_false]
      refine .inr ⟨p, _, rfl, rfl, by omega, by omega, ?_, by rw [ByteArray.size_extract]; omega⟩
      have e7 : (((s.extract q (q + (numA s (some p)).1.toNat)).size : Nat) : Int) = (numA s (some p)).1 := by
        rw [ByteArray.size_extract]; omega
      unfold pieceS
      rw [e7, ← h6, ext_join s _ _ _ (by omega) (by omega) (by omega)]
theorem inB_num (s : ByteArray) (o : Option Nat) (h : inB s o) : inB s (numA s o).2 := by
  intro p hp
  rcases numA_is s o h with ⟨_, e2⟩ | ⟨_, q, _, e2, _, _, h3, _⟩
  · rw [e2] at hp; cases hp
  · rw [e2] at hp; cases hp; exact h3
theorem inB_take (s : ByteArray) (o : Option Nat) (h : inB s o) : inB s (takeA s o).2 := by
  intro p hp
  rcases takeA_is s o h with ⟨_, e2⟩ | ⟨_, q, _, e2, _, h3, _⟩
  · rw [e2] at hp; cases hp
  · rw [e2] at hp; cases hp; exact h3
theorem numsA_snd (s : ByteArray) (o : Option Nat) : ∀ (l : List (List D)), (numsA s 2 o l).2 = (numA s (numA s o).2).2 := by
  intro l
  simp only [numsA]
  by_cases h : (numA s o).2 = none
  · rw [if_pos h, h]; rfl
  · rw [if_neg h]
    by_cases h' : (numA s (numA s o).2).2 = none
    · rw [if_pos h', h']
    · rw [if_neg h']
theorem numsA_snd3 (s : ByteArray) (o : Option Nat) (l : List (List D)) : (numsA s 3 o l).2 = (numA s (numA s (numA s o).2).2).2 := by
  show (if (numA s o).2 = none then (l, none) else numsA s 2 (numA s o).2 (l ++ [[.i .i64 (numA s o).1]])).2 = _
  by_cases h : (numA s o).2 = none
  · rw [if_pos h, h]; rfl
  · rw [if_neg h, numsA_snd]
theorem nums_loop (s : ByteArray) (hs : s.size ≤ 4000000000000000000) (n : Nat) (hn : n < 1000) (x13 : Int) (q1 : Int → Int → SV → SV → Bool → Bool → SV → List (List D) → Rs) (q2 : Int → Int → Int → Int → Bool → Bool → Bool → List (List D) → Rs) (q3 : Int → Int → SV → SV → Bool → SV → SV → List (List D) → Rs)
    (h1 : ∀ a b c d e f g l, q1 a b c d e f g l = some ([.one (.l l), .one (.i .i64 (-1))], [])) (h2 : ∀ a b c d e f g l, q2 a b c d e f g l = some ([.one (.l l), .one (.i .i64 (-1))], [])) (h3 : ∀ a b c d e f g l, q3 a b c d e f g l = some ([.one (.l l), .one (.i .i64 a)], [])) :
    ∀ (k i m : Nat) (o : Option Nat) (v1 v2 v3 v4 v5 : SV) (l : List (List D)), i + k = n → k < m → inB s o → l.length + k ≤ lim →
    l92o0 s n x13 q1 q2 q3 m (pos o) i v1 v2 v3 v4 v5 l = some ([.one (.l (numsA s k o l).1), .one (.i .i64 (pos (numsA s k o l).2))], []) := by
  intro k
  induction k with
  | zero =>
    intro i m o v1 v2 v3 v4 v5 l e hm hb hl
    obtain ⟨m, rfl⟩ : ∃ m', m = m' + 1 := ⟨m - 1, by omega⟩
    have ei : decide ((i : Int) < (n : Int)) = false := by simp; omega
    simp only [l92o0, ei, h3, numsA]; simp
  | succ k ih =>
    intro i m o v1 v2 v3 v4 v5 l e hm hb hl
    obtain ⟨m, rfl⟩ : ∃ m', m = m' + 1 := ⟨m - 1, by omega⟩
    have ei : decide ((i : Int) < (n : Int)) = true := by simp; omega
    cases o with
    | none =>
      have a1 : (decide (pos none < (0 : Int)) || decide (pos none > (s.size : Int))) = true := by simp [pos]
      simp only [l92o0, ei, if_true, a1, h1, numsA, numA]
      rfl
    | some p =>
      have hp := hb p rfl
      have hr := rdV_rng (s.extract p s.size)
      have hz := extract_sz s p
      have a1 : (decide (pos (some p) < (0 : Int)) || decide (pos (some p) > (s.size : Int))) = false := by
        rw [pos_some, decide_eq_false (by omega), decide_eq_false (by omega)]; rfl
      have a2 : decide (0 ≤ pos (some p) ∧ pos (some p) ≤ (s.size : Int)) = true := decide_eq_true (by rw [pos_some]; omega)
      have ex : (pos (some p)).toNat = p := by simp [pos]
      have ew : ∀ x y, okR zr84 zo84 (some ([.one (.i .i64 x), .one (.i .i64 y)], [])) = true := fun _ _ => rfl
      have e0 : ∀ x y, asI (resC (some ([.one (.i .i64 x), .one (.i .i64 y)], [])) 0 0) = x := fun _ _ => rfl
      have e1 : ∀ x y, asI (resC (some ([.one (.i .i64 x), .one (.i .i64 y)], [])) 1 0) = y := fun _ _ => rfl
      have hw := w64_succ i (by omega)
      simp only [l92o0, ei, if_true, a1, a2, ex, readVar_spec, ew, e0, e1, chk_true, Bool.false_eq_true, if_false, hw]
      by_cases g : (rdV (s.extract p s.size)).2 = 0
      · have g' : ((rdV (s.extract p s.size)).2 == 0) = true := by simpa using g
        have : (numA s (some p)).2 = none := by simp [numA, g]
        simp only [g', if_true, h2, numsA, this, pos]
      · have g' : ((rdV (s.extract p s.size)).2 == 0) = false := by simpa using g
        have f2 : (numA s (some p)).2 = some (p + (rdV (s.extract p s.size)).2.toNat) := by simp [numA, g]
        have f1 : (numA s (some p)).1 = (rdV (s.extract p s.size)).1 := by simp [numA, g]
        have a6 : w64 (pos (some p) + (rdV (s.extract p s.size)).2) = pos (some (p + (rdV (s.extract p s.size)).2.toNat)) := by
          simp only [pos]; rw [w64_in _ (by omega)]; omega
        simp only [g', Bool.false_eq_true, if_false, a6]
        have hk : ((flatR 1 [[D.i .i64 (rdV (s.extract p s.size)).1]]) && decide (l.length + [[D.i .i64 (rdV (s.extract p s.size)).1]].length ≤ lim)) = true := by
          have : l.length + 1 ≤ lim := by omega
          simpa [flatR, allSc, isSc] using this
        rw [chk_ok hk]
        rw [ih (i + 1) m _ _ _ _ _ _ _ (by omega) (by omega) (by intro q hq; cases hq; omega) (by simp; omega)]
        simp only [numsA, f1, f2]
        simp
theorem nums_spec (s : ByteArray) (hs : s.size ≤ 4000000000000000000) (n : Nat) (hn : n < 1000) (o : Option Nat) (hb : inB s o) : t92 s (pos o) n = some ([.one (.l (numsA s n o []).1), .one (.i .i64 (pos (numsA s n o []).2))], []) :=
  nums_loop s hs n hn 0 (fun _ _ _ _ _ _ _ l63 => some ([.one (.l l63), .one (.i .i64 (-1 : Int))], [])) (fun _ _ _ _ _ _ _ l63 => some ([.one (.l l63), .one (.i .i64 (-1 : Int))], [])) (fun n72 _ _ _ _ _ _ l79 => some ([.one (.l l79), .one (.i .i64 n72)], []))
    (fun _ _ _ _ _ _ _ _ => rfl) (fun _ _ _ _ _ _ _ _ => rfl) (fun _ _ _ _ _ _ _ _ => rfl) n 0 KK o _ _ _ _ _ [] (by omega) (by rw [KK_eq]; omega) hb (by simp [lim]; omega)
theorem take_spec (s : ByteArray) (hs : s.size ≤ 4000000000000000000) (o : Option Nat) (hb : inB s o) : t93 s (pos o) = some ([.one (.s (takeA s o).1), .one (.i .i64 (pos (takeA s o).2))], []) := by
  have hn := nums_spec s hs 1 (by omega) o hb
  have ew : ∀ x y, okR zr92 zo92 (some ([.one (.l x), .one (.i .i64 y)], [])) = true := fun _ _ => rfl
  have e0 : ∀ x y, asL (resC (some ([.one (.l x), .one (.i .i64 y)], [])) 0 0) = x := fun _ _ => rfl
  have e1 : ∀ x y, asI (resC (some ([.one (.l x), .one (.i .i64 y)], [])) 1 0) = y := fun _ _ => rfl
  have hn : t92 s (pos o) 1 = _ := hn
  simp only [t93, hn, ew, e0, e1, chk_true]
  rcases numA_is s o hb with ⟨f1, f2⟩ | ⟨p, q, rfl, f2, h1, h2, h3, h4, h5, h6⟩
  · have ft : takeA s o = (⟨#[]⟩, none) := by simp [takeA, f2]
    have fn : numsA s 1 o [] = ([], none) := by simp [numsA, f2]
    simp only [ft, fn]
    rfl
  · have fn : numsA s 1 (some p) [] = ([[.i .i64 (numA s (some p)).1]], some q) := by simp [numsA, f2]
    simp only [fn]
    have p1 : pos (some q) = (q : Int) := rfl
    have b1 : decide ((q : Int) < 0) = false := by simp
    have z1 : (decide ((0 : Int) ≤ 0) && decide ((0 : Int) < ([[D.i .i64 (numA s (some p)).1]].length : Int))) = true := rfl
    have z2 : [[D.i .i64 (numA s (some p)).1]].getD ((0 : Int).toNat) [] = [D.i .i64 (numA s (some p)).1] := rfl
    have z3 : (decide (1 ≤ [D.i .i64 (numA s (some p)).1].length) && isF z3 0 [D.i .i64 (numA s (some p)).1]) = true := rfl
    have z4 : asI (nthD [D.i .i64 (numA s (some p)).1] 0) = (numA s (some p)).1 := rfl
    have w1 : w64 ((s.size : Int) - (q : Int)) = (s.size : Int) - q := w64_in _ (by omega)
    simp only [p1, b1, z1, z2, z3, z4, w1, Bool.true_or, Bool.false_or, chk_true]
    by_cases g : (numA s (some p)).1 > (s.size : Int) - q
    · have g' : decide ((numA s (some p)).1 > (s.size : Int) - q) = true := decide_eq_true g
      have ft : takeA s (some p) = (⟨#[]⟩, none) := by simp only [takeA, f2, if_pos g]
      simp only [g', if_true, ft]
      rfl
    · have g' : decide ((numA s (some p)).1 > (s.size : Int) - q) = false := decide_eq_false g
      have ft : takeA s (some p) = (s.extract q (q + (numA s (some p)).1.toNat), some (q + (numA s (some p)).1.toNat)) := by simp only [takeA, f2, if_neg g]
      have w2 : w64 ((q : Int) + (numA s (some p)).1) = ((q + (numA s (some p)).1.toNat : Nat) : Int) := by rw [w64_in _ (by omega)]; omega
      have a3 : decide (0 ≤ (q : Int) ∧ (q : Int) ≤ ((q + (numA s (some p)).1.toNat : Nat) : Int) ∧ ((q + (numA s (some p)).1.toNat : Nat) : Int) ≤ (s.size : Int)) = true := decide_eq_true (by omega)
      simp only [g', Bool.false_eq_true, if_false, w2, a3, chk_true, Int.toNat_natCast, ft, pos]
/-- How a reader stands that has come to a place. -/
def St (s : ByteArray) (o : Option Nat) (r : ByteArray) (b : Bool) : Prop := match o with | none => b = true | some p => b = false ∧ r = s.extract p s.size ∧ p ≤ s.size
theorem St_inB {s : ByteArray} {o : Option Nat} {r : ByteArray} {b : Bool} (h : St s o r b) : inB s o := by
  intro p hp; subst hp; exact h.2.2
theorem St_none {s : ByteArray} {o : Option Nat} {r : ByteArray} {b : Bool} (h : St s o r b) : b = decide (o = none) := by
  cases o with
  | none => have : b = true := h; simp [this]
  | some p => have : b = false := h.1; simp [this]
theorem num_impl (s : ByteArray) (o : Option Nat) (r : ByteArray) (b : Bool) (h : St s o r b) : ∃ r' b', t95 r b = some ([.one (.i .i64 (numA s o).1)], [[.s r', .b b']]) ∧ St s (numA s o).2 r' b' := by
  have ew : ∀ x y, okR zr86 zo86 (some ([.one (.i .i64 x), .one (.i .i64 y)], [])) = true := fun _ _ => rfl
  have e0 : ∀ x y, asI (resC (some ([.one (.i .i64 x), .one (.i .i64 y)], [])) 0 0) = x := fun _ _ => rfl
  have e1 : ∀ x y, asI (resC (some ([.one (.i .i64 x), .one (.i .i64 y)], [])) 1 0) = y := fun _ _ => rfl
  simp only [t95, readVar_impl, ew, e0, e1, chk_true]
  cases o with
  | none =>
    have hb : b = true := h
    subst hb
    exact ⟨r, true, by simp [numA], rfl⟩
  | some p =>
    obtain ⟨rfl, rfl, hp⟩ := h
    have hr := rdV_rng (s.extract p s.size)
    have hz := extract_sz s p
    by_cases g : (rdV (s.extract p s.size)).2 = 0
    · refine ⟨s.extract p s.size, true, ?_, ?_⟩
      · simp [numA, g]
      · simp [numA, g, St]
    · have g' : ((rdV (s.extract p s.size)).2 == 0) = false := by simpa using g
      have a1 : decide (0 ≤ (rdV (s.extract p s.size)).2 ∧ (rdV (s.extract p s.size)).2 ≤ ((s.extract p s.size).size : Int)) = true := decide_eq_true (by omega)
      have f2 : numA s (some p) = ((rdV (s.extract p s.size)).1, some (p + (rdV (s.extract p s.size)).2.toNat)) := by simp [numA, g]
      refine ⟨s.extract (p + (rdV (s.extract p s.size)).2.toNat) s.size, false, ?_, ?_⟩
      · simp only [g', Bool.or_self, Bool.false_eq_true, if_false, a1, chk_true, f2, ext_end s p _ (show p + (rdV (s.extract p s.size)).2.toNat ≤ s.size by omega)]
      · rw [f2]; exact ⟨rfl, rfl, by omega⟩
theorem rdPiece_impl (s : ByteArray) (o : Option Nat) (r : ByteArray) (b : Bool) (h : St s o r b) : ∃ r' b', t97 r b = some ([.one (.s (takeA s o).1)], [[.s r', .b b']]) ∧ St s (takeA s o).2 r' b' := by
  obtain ⟨r1, b1, e1, h1⟩ := num_impl s o r b h
  have ew : ∀ x y z, okR zr95 zo95 (some ([.one (.i .i64 x)], [[.s y, .b z]])) = true := fun _ _ _ => rfl
  have ew2 : ∀ x y z, okR zr121 zo121 (some ([.one (.s x)], [[.s y, .b z]])) = true := fun _ _ _ => rfl
  have f0 : ∀ x y z, asI (resC (some ([.one (.i .i64 x)], [[.s y, .b z]])) 0 0) = x := fun _ _ _ => rfl
  have f1 : ∀ x y z, asS (outC (some ([.one x], [[.s y, .b z]])) 0 0) = y := fun _ _ _ => rfl
  have f2 : ∀ x y z, asB (outC (some ([.one x], [[.s y, .b z]])) 0 1) = z := fun _ _ _ => rfl
  have f3 : ∀ x y z, asS (resC (some ([.one (.s x)], [[.s y, .b z]])) 0 0) = x := fun _ _ _ => rfl
  simp only [t97, e1, ew, f0, f1, f2, chk_true]
  have hb0 := St_inB h
  rcases numA_is s o hb0 with ⟨g1, g2⟩ | ⟨p, q, rfl, g2, k1, k2, k3, k4, k5, k6⟩
  · rw [g2] at h1
    have hb : b1 = true := h1
    subst hb
    have ft : takeA s o = (⟨#[]⟩, none) := by simp [takeA, g2]
    refine ⟨r1, true, ?_, ?_⟩
    · simp only [t121, Bool.true_or, if_true, ew2, f1, f2, f3, chk_true, ft]
    · rw [ft]; rfl
  · rw [g2] at h1
    obtain ⟨rfl, rfl, hq⟩ := h1
    have hz := extract_sz s q
    by_cases g : (numA s (some p)).1 > (s.size : Int) - q
    · have g' : decide ((numA s (some p)).1 > ((s.extract q s.size).size : Int)) = true := decide_eq_true (by omega)
      have ft : takeA s (some p) = (⟨#[]⟩, none) := by simp only [takeA, g2, if_pos g]
      refine ⟨s.extract q s.size, true, ?_, ?_⟩
      · simp only [t121, g', Bool.or_true, if_true, ew2, f1, f2, f3, chk_true, ft]
      · rw [ft]; rfl
    · have g' : decide ((numA s (some p)).1 > ((s.extract q s.size).size : Int)) = false := decide_eq_false (by omega)
      have ft : takeA s (some p) = (s.extract q (q + (numA s (some p)).1.toNat), some (q + (numA s (some p)).1.toNat)) := by simp only [takeA, g2, if_neg g]
      have a1 : decide (0 ≤ (0 : Int) ∧ (0 : Int) ≤ (numA s (some p)).1 ∧ (numA s (some p)).1 ≤ ((s.extract q s.size).size : Int)) = true := decide_eq_true (by omega)
      have a2 : decide (0 ≤ (numA s (some p)).1 ∧ (numA s (some p)).1 ≤ ((s.extract q s.size).size : Int)) = true := decide_eq_true (by omega)
      refine ⟨s.extract (q + (numA s (some p)).1.toNat) s.size, false, ?_, ?_⟩
      · simp only [t121, g', Bool.or_self, Bool.false_eq_true, if_false, a1, a2, ew2, f1, f2, f3, chk_true, ft, ext_end s q _ (show q + (numA s (some p)).1.toNat ≤ s.size by omega)]
        rw [ext_ext s q _ _ (by omega)]
        rfl
      · rw [ft]; exact ⟨rfl, rfl, by omega⟩
end Go.Den.L12

/- Calls read. -/
namespace Go.Den.L12
open Go
theorem toList_inj (a b : ByteArray) : (a.toList == b.toList) = true ↔ a = b := by
  rw [beq_iff_eq]
  constructor
  · intro h
    rw [ByteArray.toList_eq, ByteArray.toList_eq] at h
    exact ByteArray.ext (Array.ext' h)
  · intro h; rw [h]
theorem ext_whole (s : ByteArray) (q : Nat) (h : q ≤ s.size) : s.extract 0 q = s ↔ q = s.size := by
  constructor
  · intro e
    have := congrArg ByteArray.size e
    rw [ByteArray.size_extract] at this; omega
  · intro e; subst e; exact extract_all s
theorem ext_empty (s : ByteArray) (q : Nat) (h : q ≤ s.size) : s.extract q s.size = ⟨#[]⟩ ↔ q = s.size := by
  constructor
  · intro e
    have := congrArg ByteArray.size e
    rw [ByteArray.size_extract] at this
    have e0 : (⟨#[]⟩ : ByteArray).size = 0 := rfl
    omega
  · intro e; subst e
    apply ByteArray.ext
    rw [ByteArray.data_extract]
    simp
def unz (z : Int) : Int := if z % 2 = 1 then -((z + 1) / 2) else z / 2
theorem zig_unz (z : Int) (h0 : 0 ≤ z) (h1 : z ≤ 562949953421311) : zig (unz z) = z := by
  unfold zig unz
  by_cases h : z % 2 = 1
  · simp only [if_pos h]
    rw [if_pos (by omega), w64_in (-2 * _) (by omega), w64_in _ (by omega)]
    omega
  · simp only [if_neg h]
    rw [if_neg (by omega), w64_in _ (by omega)]
    omega
theorem unz_rng (z : Int) (h0 : 0 ≤ z) (h1 : z ≤ 562949953421311) : -562949953421311 ≤ unz z ∧ unz z ≤ 562949953421311 := by
  unfold unz; split <;> omega
theorem number_spec (z : Int) (h0 : 0 ≤ z) (h1 : z ≤ 562949953421311) : t119 z = some ([.one (.i .i64 (unz z))], []) := by
  unfold t119 unz
  rw [Int.tmod_eq_emod_of_nonneg h0]
  by_cases h : z % 2 = 1
  · have h' : (z % 2 == 1) = true := by simpa using h
    have e : (-(z + 1)).tdiv 2 = -((z + 1) / 2) := by rw [Int.neg_tdiv, Int.tdiv_eq_ediv_of_nonneg (by omega)]
    simp only [h', if_true, if_pos h]
    rw [w64_in (z + 1) (by omega), w64_in (-(z + 1)) (by omega), e, w64_in _ (by omega)]
  · have h' : (z % 2 == 1) = false := by simpa using h
    simp only [h', Bool.false_eq_true, if_false, if_neg h]
    rw [Int.tdiv_eq_ediv_of_nonneg h0, w64_in _ (by omega)]
theorem number_impl (z : Int) (h0 : 0 ≤ z) (h1 : z ≤ 562949953421311) : t120 z = some ([.one (.i .i64 (unz z))], []) := by
  unfold t120 unz
  rw [Int.tmod_eq_emod_of_nonneg h0]
  by_cases h : z % 2 = 1
  · have h' : (z % 2 == 1) = true := by simpa using h
    have e : (-(z + 1)).tdiv 2 = -((z + 1) / 2) := by rw [Int.neg_tdiv, Int.tdiv_eq_ediv_of_nonneg (by omega)]
    simp only [h', if_true, if_pos h]
    rw [w64_in (z + 1) (by omega), w64_in (-(z + 1)) (by omega), e, w64_in _ (by omega)]
  · have h' : (z % 2 == 1) = false := by simpa using h
    simp only [h', Bool.false_eq_true, if_false, if_neg h]
    rw [Int.tdiv_eq_ediv_of_nonneg h0, w64_in _ (by omega)]
theorem numA_rng (s : ByteArray) (o : Option Nat) (h : inB s o) : 0 ≤ (numA s o).1 ∧ (numA s o).1 ≤ 562949953421311 := by
  rcases numA_is s o h with ⟨e1, e2⟩ | ⟨p, q, _, _, _, _, _, h4, h5, _⟩
  · rw [e1]; omega
  · exact ⟨h4, h5⟩
theorem numA_some (s : ByteArray) (o : Option Nat) (h : inB s o) (q : Nat) (e : (numA s o).2 = some q) : ∃ p, o = some p ∧ p < q ∧ q ≤ s.size ∧ s.extract p q = varS (numA s o).1 := by
  rcases numA_is s o h with ⟨e1, e2⟩ | ⟨p, q', e1, e2, h1, h2, h3, _, _, h6⟩
  · rw [e2] at e; cases e
  · rw [e2] at e; cases e; exact ⟨p, e1, h1, h3, h6⟩
theorem takeA_some (s : ByteArray) (o : Option Nat) (h : inB s o) (q : Nat) (e : (takeA s o).2 = some q) : ∃ p, o = some p ∧ p < q ∧ q ≤ s.size ∧ s.extract p q = pieceS (takeA s o).1 := by
  rcases takeA_is s o h with ⟨e1, e2⟩ | ⟨p, q', e1, e2, h1, h2, h3, _⟩
  · rw [e2] at e; cases e
  · rw [e2] at e; cases e; exact ⟨p, e1, h1, h2, h3⟩
theorem takeA_size (s : ByteArray) (o : Option Nat) (h : inB s o) : (takeA s o).1.size ≤ s.size := by
  rcases takeA_is s o h with ⟨e1, _⟩ | ⟨_, _, _, _, _, _, _, h4⟩
  · rw [e1]; exact Nat.zero_le _
  · exact h4
theorem inB0 (s : ByteArray) : inB s (some 0) := by intro p hp; cases hp; omega
def cK (s : ByteArray) := numA s (some 0)
def cP (s : ByteArray) := takeA s (cK s).2
def cT (s : ByteArray) := takeA s (cP s).2
def cN (s : ByteArray) := numA s (cT s).2
def cM (s : ByteArray) := numA s (cN s).2
def cD (s : ByteArray) := takeA s (cM s).2
def rdcOk (s : ByteArray) : Bool := decide ((cD s).2 = some s.size) && callOk (cK s).1 (cP s).1 (cT s).1 (unz (cN s).1) (unz (cM s).1) (cD s).1
theorem inK (s : ByteArray) : inB s (cK s).2 := inB_num s _ (inB0 s)
theorem inP (s : ByteArray) : inB s (cP s).2 := inB_take s _ (inK s)
theorem inT (s : ByteArray) : inB s (cT s).2 := inB_take s _ (inP s)
theorem inN (s : ByteArray) : inB s (cN s).2 := inB_num s _ (inT s)
theorem inM (s : ByteArray) : inB s (cM s).2 := inB_num s _ (inN s)
theorem call_chain (s : ByteArray) (q : Nat) (h : (cD s).2 = some q) : (∃ p1 p4 p5, (cK s).2 = some p1 ∧ (cN s).2 = some p4 ∧ (cM s).2 = some p5) ∧ 0 < q ∧ q ≤ s.size ∧ s.extract 0 q = varS (cK s).1 ++ pieceS (cP s).1 ++ pieceS (cT s).1 ++ varS (cN s).1 ++ varS (cM s).1 ++ pieceS (cD s).1 := by
  obtain ⟨p5, e5, a5, b5, c5⟩ := takeA_some s _ (inM s) q h
  obtain ⟨p4, e4, a4, b4, c4⟩ := numA_some s _ (inN s) p5 e5
  obtain ⟨p3, e3, a3, b3, c3⟩ := numA_some s _ (inT s) p4 e4
  obtain ⟨p2, e2, a2, b2, c2⟩ := takeA_some s _ (inP s) p3 e3
  obtain ⟨p1, e1, a1, b1, c1⟩ := takeA_some s _ (inK s) p2 e2
  obtain ⟨p0, e0, a0, b0, c0⟩ := numA_some s _ (inB0 s) p1 e1
  cases e0
  refine ⟨⟨p1, p4, p5, e1, e4, e5⟩, by omega, b5, ?_⟩
  show _ = varS (numA s _).1 ++ pieceS (takeA s _).1 ++ pieceS (takeA s _).1 ++ varS (numA s _).1 ++ varS (numA s _).1 ++ pieceS (takeA s _).1
  rw [← c0, ← c1, ← c2, ← c3, ← c4, ← c5, ext_join s _ _ _ (by omega) (by omega) (by omega), ext_join s _ _ _ (by omega) (by omega) (by omega), ext_join s _ _ _ (by omega) (by omega) (by omega), ext_join s _ _ _ (by omega) (by omega) (by omega), ext_join s _ _ _ (by omega) (by omega) (by omega)]
theorem call_back (s : ByteArray) (h : rdcOk s = true) : callS (cK s).1 (cP s).1 (cT s).1 (unz (cN s).1) (unz (cM s).1) (cD s).1 = s := by
  simp only [rdcOk, Bool.and_eq_true, decide_eq_true_eq] at h
  obtain ⟨_, _, _, e⟩ := call_chain s s.size h.1
  have rN := numA_rng s _ (inT s)
  have rM := numA_rng s _ (inN s)
  have zN : zig (unz (cN s).1) = (cN s).1 := zig_unz _ rN.1 rN.2
  have zM : zig (unz (cM s).1) = (cM s).1 := zig_unz _ rM.1 rM.2
  unfold callS
  rw [if_pos h.2, zN, zM, ← e, extract_all]
theorem numsA_one (s : ByteArray) (o : Option Nat) : (numsA s 1 o []).2 = (numA s o).2 := by
  simp only [numsA]
  by_cases h : (numA s o).2 = none
  · rw [if_pos h, h]
  · rw [if_neg h]
theorem call_rng (x : ByteArray) : (0 ≤ (cK x).1 ∧ (cK x).1 ≤ 562949953421311) ∧ (-562949953421311 ≤ unz (cN x).1 ∧ unz (cN x).1 ≤ 562949953421311) ∧ (-562949953421311 ≤ unz (cM x).1 ∧ unz (cM x).1 ≤ 562949953421311) ∧ (cP x).1.size ≤ x.size ∧ (cT x).1.size ≤ x.size ∧ (cD x).1.size ≤ x.size := by
  have r4 : 0 ≤ (cK x).1 ∧ (cK x).1 ≤ 562949953421311 := numA_rng x _ (inB0 x)
  have r5 : 0 ≤ (cN x).1 ∧ (cN x).1 ≤ 562949953421311 := numA_rng x _ (inT x)
  have r6 : 0 ≤ (cM x).1 ∧ (cM x).1 ≤ 562949953421311 := numA_rng x _ (inN x)
  exact ⟨r4, unz_rng _ r5.1 r5.2, unz_rng _ r6.1 r6.2, takeA_size x _ (inK x), takeA_size x _ (inP x), takeA_size x _ (inM x)⟩
def rdcD (s : ByteArray) : List DV := if rdcOk s then [.agg [.i .i64 (cK s).1, .s (cP s).1, .s (cT s).1, .i .i64 (unz (cN s).1), .i .i64 (unz (cM s).1), .s (cD s).1], .one (.b true)] else [.agg [.i .i64 0, .s ⟨#[]⟩, .s ⟨#[]⟩, .i .i64 0, .i .i64 0, .s ⟨#[]⟩], .one (.b false)]
theorem readCall_spec (s : ByteArray) (hs : s.size ≤ 4000000000000000000) : t94 s = some (rdcD s, []) := by
  have h1 : t92 s (0 : Int) (1 : Int) = some ([.one (.l (numsA s 1 (some 0) []).1), .one (.i .i64 (pos (cK s).2))], []) := by
    have := nums_spec s hs 1 (by omega) (some 0) (inB0 s)
    rw [numsA_one] at this
    exact this
  have h2 : t93 s (pos (cK s).2) = some ([.one (.s (cP s).1), .one (.i .i64 (pos (cP s).2))], []) := take_spec s hs _ (inK s)
  have h3 : t93 s (pos (cP s).2) = some ([.one (.s (cT s).1), .one (.i .i64 (pos (cT s).2))], []) := take_spec s hs _ (inP s)
  have h4 : t92 s (pos (cT s).2) (2 : Int) = some ([.one (.l (numsA s 2 (cT s).2 []).1), .one (.i .i64 (pos (cM s).2))], []) := by
    have := nums_spec s hs 2 (by omega) (cT s).2 (inT s)
    rw [numsA_snd] at this
    exact this
  have h5 : t93 s (pos (cM s).2) = some ([.one (.s (cD s).1), .one (.i .i64 (pos (cD s).2))], []) := take_spec s hs _ (inM s)
  have ew : ∀ x y, okR zr92 zo92 (some ([.one (.l x), .one (.i .i64 y)], [])) = true := fun _ _ => rfl
  have e0 : ∀ x y, asL (resC (some ([.one (.l x), .one (.i .i64 y)], [])) 0 0) = x := fun _ _ => rfl
  have ew2 : ∀ x y, okR zr93 zo93 (some ([.one (.s x), .one (.i .i64 y)], [])) = true := fun _ _ => rfl
  have e1 : ∀ x y, asI (resC (some ([x, .one (.i .i64 y)], [])) 1 0) = y := fun _ _ => rfl
  have e2 : ∀ x y, asS (resC (some ([.one (.s x), .one (.i .i64 y)], [])) 0 0) = x := fun _ _ => rfl
  simp only [t94, h1, h2, h3, h4, h5, ew, ew2, e0, e1, e2, chk_true]
  cases hq : (cD s).2 with
  | none =>
    have : rdcOk s = false := by simp [rdcOk, hq]
    simp only [rdcD, this]
    rfl
  | some q =>
    obtain ⟨⟨p1, p4, p5, g1, g4, g5⟩, hq0, hqs, hx⟩ := call_chain s q hq
    have rN := numA_rng s _ (inT s)
    have rM := numA_rng s _ (inN s)
    have f1 : (numsA s 1 (some 0) []).1 = [[.i .i64 (cK s).1]] := by
      show (if (cK s).2 = none then (([] : List (List D)), none) else _).1 = _
      rw [if_neg (by rw [g1]; simp)]; rfl
    have f2 : (numsA s 2 (cT s).2 []).1 = [[.i .i64 (cN s).1], [.i .i64 (cM s).1]] := by
      show (if (cN s).2 = none then (([] : List (List D)), none) else (if (cM s).2 = none then _ else _)).1 = _
      rw [if_neg (by rw [g4]; simp), if_neg (by rw [g5]; simp)]; rfl
    have b1 : decide (pos (some q) < 0) = false := by rw [pos_some]; simp
    have z1 : ∀ x : Int, (decide ((0 : Int) ≤ 0) && decide ((0 : Int) < ([[D.i .i64 x]].length : Int))) = true := fun _ => rfl
    have z2 : ∀ x : Int, [[D.i .i64 x]].getD ((0 : Int).toNat) [] = [D.i .i64 x] := fun _ => rfl
    have z3 : ∀ x : Int, (decide (1 ≤ [D.i .i64 x].length) && isF z3 0 [D.i .i64 x]) = true := fun _ => rfl
    have z4 : ∀ x : Int, asI (nthD [D.i .i64 x] 0) = x := fun _ => rfl
    have z5 : ∀ x y : Int, (decide ((0 : Int) ≤ 0) && decide ((0 : Int) < ([[D.i .i64 x], [D.i .i64 y]].length : Int))) = true := fun _ _ => rfl
    have z6 : ∀ x y : Int, [[D.i .i64 x], [D.i .i64 y]].getD ((0 : Int).toNat) [] = [D.i .i64 x] := fun _ _ => rfl
    have z7 : ∀ x y : Int, (decide ((0 : Int) ≤ 1) && decide ((1 : Int) < ([[D.i .i64 x], [D.i .i64 y]].length : Int))) = true := fun _ _ => rfl
    have z8 : ∀ x y : Int, [[D.i .i64 x], [D.i .i64 y]].getD ((1 : Int).toNat) [] = [D.i .i64 y] := fun _ _ => rfl
    have n1 : t119 (cN s).1 = some ([.one (.i .i64 (unz (cN s).1))], []) := number_spec _ rN.1 rN.2
    have n2 : t119 (cM s).1 = some ([.one (.i .i64 (unz (cM s).1))], []) := number_spec _ rM.1 rM.2
    have ew3 : ∀ x, okR zr119 zo119 (some ([.one (.i .i64 x)], [])) = true := fun _ => rfl
    have e3 : ∀ x, asI (resC (some ([.one (.i .i64 x)], [])) 0 0) = x := fun _ => rfl
    have ew4 : ∀ x, okR zr69 zo69 (some ([.one (.s x)], [])) = true := fun _ => rfl
    have e4 : ∀ x, asS (resC (some ([.one (.s x)], [])) 0 0) = x := fun _ => rfl
    simp only [b1, Bool.false_eq_true, if_false, f1, f2, z1, z2, z3, z4, z5, z6, z7, z8, n1, n2, ew3, e3, chk_true, showCall_spec, ew4, e4]
    have key : ((callS (cK s).1 (cP s).1 (cT s).1 (unz (cN s).1) (unz (cM s).1) (cD s).1).toList == s.toList) = rdcOk s := by
      rw [Bool.eq_iff_iff, toList_inj]
      constructor
      · intro h
        unfold callS at h
        split at h
        · rename_i hc
          have zN : zig (unz (cN s).1) = (cN s).1 := zig_unz _ rN.1 rN.2
          have zM : zig (unz (cM s).1) = (cM s).1 := zig_unz _ rM.1 rM.2
          rw [zN, zM, ← hx, ext_whole s q hqs] at h
          simp only [rdcOk, hq, hc, h, Bool.and_true, decide_true]
        · have := congrArg ByteArray.size h
          have e0 : (⟨#[]⟩ : ByteArray).size = 0 := rfl
          omega
      · exact call_back s
    rw [key]
    unfold rdcD
    cases rdcOk s <;> rfl
theorem readCall_impl (s : ByteArray) : t96 s = some (rdcD s, []) := by
  have h0 : St s (some 0) s false := ⟨rfl, (extract_all s).symm, Nat.zero_le _⟩
  obtain ⟨r1, b1, k1, s1⟩ := num_impl s _ _ _ h0
  obtain ⟨r2, b2, k2, s2⟩ := rdPiece_impl s _ _ _ s1
  obtain ⟨r3, b3, k3, s3⟩ := rdPiece_impl s _ _ _ s2
  obtain ⟨r4, b4, k4, s4⟩ := num_impl s _ _ _ s3
  obtain ⟨r5, b5, k5, s5⟩ := num_impl s _ _ _ s4
  obtain ⟨r6, b6, k6, s6⟩ := rdPiece_impl s _ _ _ s5
  have rN := numA_rng s _ (inT s)
  have rM := numA_rng s _ (inN s)
  have n1 : t120 (cN s).1 = some ([.one (.i .i64 (unz (cN s).1))], []) := number_impl _ rN.1 rN.2
  have n2 : t120 (cM s).1 = some ([.one (.i .i64 (unz (cM s).1))], []) := number_impl _ rM.1 rM.2
  have ew : ∀ x y z, okR zr95 zo95 (some ([.one (.i .i64 x)], [[.s y, .b z]])) = true := fun _ _ _ => rfl
  have ew2 : ∀ x y z, okR zr97 zo97 (some ([.one (.s x)], [[.s y, .b z]])) = true := fun _ _ _ => rfl
  have f0 : ∀ x y z, asI (resC (some ([.one (.i .i64 x)], [[.s y, .b z]])) 0 0) = x := fun _ _ _ => rfl
  have f1 : ∀ x y z, asS (outC (some ([.one x], [[.s y, .b z]])) 0 0) = y := fun _ _ _ => rfl
  have f2 : ∀ x y z, asB (outC (some ([.one x], [[.s y, .b z]])) 0 1) = z := fun _ _ _ => rfl
  have f3 : ∀ x y z, asS (resC (some ([.one (.s x)], [[.s y, .b z]])) 0 0) = x := fun _ _ _ => rfl
  have ew3 : ∀ x, okR zr120 zo120 (some ([.one (.i .i64 x)], [])) = true := fun _ => rfl
  have e3 : ∀ x, asI (resC (some ([.one (.i .i64 x)], [])) 0 0) = x := fun _ => rfl
  have ew4 : ∀ x, okR zr63 zo63 (some ([.one (.b x)], [])) = true := fun _ => rfl
  have e4 : ∀ x, asB (resC (some ([.one (.b x)], [])) 0 0) = x := fun _ => rfl
  change t95 r3 b3 = some ([.one (.i .i64 (cN s).1)], _) at k4
  change t95 r4 b4 = some ([.one (.i .i64 (cM s).1)], _) at k5
  change St s (cD s).2 r6 b6 at s6
  simp only [t96, k1, k2, k3, k4, k5, k6, ew, ew2, f0, f1, f2, f3, chk_true, n1, n2, ew3, e3, callOk_impl, ew4, e4, Bool.true_or]
  have key : (b6 || !(r6.toList == (⟨#[]⟩ : ByteArray).toList)) = !decide ((cD s).2 = some s.size) := by
    cases hq : (cD s).2 with
    | none => rw [hq] at s6; have : b6 = true := s6; simp [this]
    | some q =>
      rw [hq] at s6
      obtain ⟨rfl, rfl, hqs⟩ := s6
      have : ((s.extract q s.size).toList == (⟨#[]⟩ : ByteArray).toList) = decide (q = s.size) := by
        rw [Bool.eq_iff_iff, toList_inj, ext_empty s q hqs]; simp
      rw [this]; simp
  rw [key]
  have e5 : (!decide ((cD s).2 = some s.size) || !callOk (cK s).1 (cP s).1 (cT s).1 (unz (cN s).1) (unz (cM s).1) (cD s).1) = !rdcOk s := by
    unfold rdcOk; rw [Bool.not_and]
  refine Eq.trans (b := if (!rdcOk s) = true then _ else _) (by rw [← e5]; rfl) ?_
  unfold rdcD
  cases rdcOk s <;> rfl
end Go.Den.L12

/- Frames read. -/
namespace Go.Den.L12
open Go
attribute [local irreducible] numA takeA rdV cK cP cT cN cM cD unz rdcOk varS pieceS callS
def sA (s : ByteArray) (p : Nat) := numA s (some p)
def sB (s : ByteArray) (p : Nat) := numA s (sA s p).2
def sC (s : ByteArray) (p : Nat) := numA s (sB s p).2
def sX (s : ByteArray) (p : Nat) := takeA s (sC s p).2
def rowA (s : ByteArray) (p : Nat) : List D := [.i .i64 (sA s p).1, .i .i64 (sB s p).1, .i .i64 (sC s p).1, .i .i64 (cK (sX s p).1).1, .s (cP (sX s p).1).1, .s (cT (sX s p).1).1, .i .i64 (unz (cN (sX s p).1).1), .i .i64 (unz (cM (sX s p).1).1), .s (cD (sX s p).1).1]
def rdF (s : ByteArray) : Nat → Nat → List (List D) → Option (List (List D))
  | 0, _, _ => none
  | f + 1, p, l => if p < s.size then (match (sX s p).2 with | none => none | some q => if rdcOk (sX s p).1 then rdF s f q (l ++ [rowA s p]) else none) else some l
def R0 : Rs := some ([.one (.l ([] : List (List D))), .one (.b false)], [])
theorem slot_chain (s : ByteArray) (p q : Nat) (hp : p ≤ s.size) (h : (sX s p).2 = some q) : (∃ p1 p2 p3, (sA s p).2 = some p1 ∧ (sB s p).2 = some p2 ∧ (sC s p).2 = some p3) ∧ p < q ∧ q ≤ s.size ∧ s.extract p q = varS (sA s p).1 ++ varS (sB s p).1 ++ varS (sC s p).1 ++ pieceS (sX s p).1 := by
  have i0 : inB s (some p) := by intro x hx; cases hx; exact hp
  have i1 : inB s (sA s p).2 := inB_num s _ i0
  have i2 : inB s (sB s p).2 := inB_num s _ i1
  have i3 : inB s (sC s p).2 := inB_num s _ i2
  obtain ⟨p3, e3, a3, b3, c3⟩ := takeA_some s _ i3 q h
  obtain ⟨p2, e2, a2, b2, c2⟩ := numA_some s _ i2 p3 e3
  obtain ⟨p1, e1, a1, b1, c1⟩ := numA_some s _ i1 p2 e2
  obtain ⟨p0, e0, a0, b0, c0⟩ := numA_some s _ i0 p1 e1
  cases e0
  refine ⟨⟨p1, p2, p3, e1, e2, e3⟩, by omega, b3, ?_⟩
  show _ = varS (numA s _).1 ++ varS (numA s _).1 ++ varS (numA s _).1 ++ pieceS (takeA s _).1
  rw [← c0, ← c1, ← c2, ← c3, ext_join s _ _ _ (by omega) (by omega) (by omega), ext_join s _ _ _ (by omega) (by omega) (by omega), ext_join s _ _ _ (by omega) (by omega) (by omega)]
def catS : List (List D) → ByteArray | [] => ⟨#[]⟩ | r :: t => slotS r ++ catS t
theorem empty_app (s : ByteArray) : (⟨#[]⟩ : ByteArray) ++ s = s := ByteArray.empty_append
theorem app_empty (s : ByteArray) : s ++ (⟨#[]⟩ : ByteArray) = s := ByteArray.append_empty
theorem frS_cat (l : List (List D)) : ∀ (k i : Nat) (a : ByteArray), i + k = l.length → frS l k i a = a ++ catS (l.drop i)
  | 0, i, a, h => by rw [List.drop_of_length_le (by omega)]; simp only [frS, catS, app_empty]
  | k + 1, i, a, h => by
    rw [List.drop_eq_getElem_cons (show i < l.length by omega)]
    simp only [frS, catS]
    rw [frS_cat l k (i + 1) _ (by omega), getD_in (show i < l.length by omega), ByteArray.append_assoc]
theorem wf64 (n : Int) (h : -9223372036854775808 ≤ n ∧ n ≤ 9223372036854775807) : (Lit.int .i64 n).wf = true := by
  have : IntKind.wrap .i64 n = n := w64_in n h
  simp [Lit.wf, this]
  exact h
theorem slot_typ (a b c k n m : Int) (p t d : ByteArray) (ha : -9223372036854775808 ≤ a ∧ a ≤ 9223372036854775807) (hb : -9223372036854775808 ≤ b ∧ b ≤ 9223372036854775807) (hc : -9223372036854775808 ≤ c ∧ c ≤ 9223372036854775807) (hk : -9223372036854775808 ≤ k ∧ k ≤ 9223372036854775807) (hn : -9223372036854775808 ≤ n ∧ n ≤ 9223372036854775807) (hm : -9223372036854775808 ≤ m ∧ m ≤ 9223372036854775807) (hp : p.size ≤ maxLen) (ht : t.size ≤ maxLen) (hd : d.size ≤ maxLen) :
    typL slotSh [.i .i64 a, .i .i64 b, .i .i64 c, .i .i64 k, .s p, .s t, .i .i64 n, .i .i64 m, .s d] :=
  ⟨_, _, rfl, ⟨a, rfl, wf64 _ ha⟩, _, _, rfl, ⟨b, rfl, wf64 _ hb⟩, _, _, rfl, ⟨c, rfl, wf64 _ hc⟩, _, _, rfl, ⟨k, rfl, wf64 _ hk⟩, _, _, rfl, ⟨p, rfl, hp⟩, _, _, rfl, ⟨t, rfl, ht⟩, _, _, rfl, ⟨n, rfl, wf64 _ hn⟩, _, _, rfl, ⟨m, rfl, wf64 _ hm⟩, _, _, rfl, ⟨d, rfl, hd⟩, rfl⟩
theorem slotS_mk (a b c k n m : Int) (p t d : ByteArray) : slotS [.i .i64 a, .i .i64 b, .i .i64 c, .i .i64 k, .s p, .s t, .i .i64 n, .i .i64 m, .s d] = varS a ++ varS b ++ varS c ++ pieceS (callS k p t n m d) := rfl
theorem rowA_typ (s : ByteArray) (p : Nat) (hp : p ≤ s.size) (hs : s.size ≤ 1048576) : typL slotSh (rowA s p) := by
  have i0 : inB s (some p) := by intro x hx; cases hx; exact hp
  have i1 : inB s (sA s p).2 := inB_num s _ i0
  have i2 : inB s (sB s p).2 := inB_num s _ i1
  have i3 : inB s (sC s p).2 := inB_num s _ i2
  have r1 : 0 ≤ (sA s p).1 ∧ (sA s p).1 ≤ 562949953421311 := numA_rng s _ i0
  have r2 : 0 ≤ (sB s p).1 ∧ (sB s p).1 ≤ 562949953421311 := numA_rng s _ i1
  have r3 : 0 ≤ (sC s p).1 ∧ (sC s p).1 ≤ 562949953421311 := numA_rng s _ i2
  have hx : (sX s p).1.size ≤ s.size := takeA_size s _ i3
  obtain ⟨r4, u5, u6, t1, t2, t3⟩ := call_rng (sX s p).1
  have hm : 1048576 ≤ maxLen := by decide
  exact slot_typ _ _ _ _ _ _ _ _ _ (by omega) (by omega) (by omega) (by omega) (by omega) (by omega) (by omega) (by omega) (by omega)
theorem rowA_slot (s : ByteArray) (p q : Nat) (hp : p ≤ s.size) (h : (sX s p).2 = some q) (ho : rdcOk (sX s p).1 = true) : slotS (rowA s p) = s.extract p q := by
  obtain ⟨_, _, _, e⟩ := slot_chain s p q hp h
  have := call_back _ ho
  unfold rowA
  rw [slotS_mk, this, e]
theorem rdF_sound (s : ByteArray) (hs : s.size ≤ 1048576) : ∀ (f p : Nat) (l l' : List (List D)), p ≤ s.size → rdF s f p l = some l' → ∃ t, l' = l ++ t ∧ (∀ r ∈ t, typL slotSh r) ∧ catS t = s.extract p s.size ∧ t.length + p ≤ s.size
  | 0, p, l, l', _, h => by simp [rdF] at h
  | f + 1, p, l, l', hp, h => by
    unfold rdF at h
    by_cases hlt : p < s.size
    · rw [if_pos hlt] at h
      cases hq : (sX s p).2 with
      | none => rw [hq] at h; cases h
      | some q =>
        rw [hq] at h
        by_cases ho : rdcOk (sX s p).1 = true
        · simp only [ho, if_true] at h
          obtain ⟨_, hpq, hqs, _⟩ := slot_chain s p q hp hq
          obtain ⟨t, e1, e2, e3, e4⟩ := rdF_sound s hs f q _ l' hqs h
          refine ⟨rowA s p :: t, by rw [e1]; simp, ?_, ?_, by simp only [List.length_cons]; omega⟩
          · intro r hr
            rcases List.mem_cons.1 hr with rfl | hr
            · exact rowA_typ s p hp hs
            · exact e2 r hr
          · simp only [catS]
            rw [e3, rowA_slot s p q hp hq ho, ext_join s _ _ _ (by omega) (by omega) (Nat.le_refl _)]
        · simp only [ho] at h; cases h
    · rw [if_neg hlt] at h
      cases h
      have : p = s.size := by omega
      exact ⟨[], by simp, by simp, by rw [this]; exact ((ext_empty s s.size (Nat.le_refl _)).2 rfl).symm, by simp; omega⟩
theorem rf_spec (s : ByteArray) (hs : s.size ≤ 1048576) (b8 b13 : Bool) (q1 : Int → Int → ByteArray → Bool → Bool → Bool → List (List D) → List (List D) → Int → ByteArray → ByteArray → Int → Int → ByteArray → List (List D) → Rs) (q2 : Int → SV → SV → SV → Bool → SV → List (List D) → Rs)
    (Q : List (List D) → Rs) (h1 : ∀ a b c d e f g h i j k l m n, q1 a b c d e f g h i j k l m n [] = R0) (h2 : ∀ a b c d e f l, q2 a b c d e f l = Q l) :
    ∀ (f p m : Nat) (v10 v11 v12 v14 v15 : SV) (l : List (List D)), s.size < f + p → f ≤ m → p ≤ s.size → l.length + f ≤ lim →
    l50o1 s b8 b13 q1 q2 m p v10 v11 v12 v14 v15 l = (match rdF s f p l with | none => R0 | some l' => Q l') := by
  intro f
  induction f with
  | zero => intro p m v10 v11 v12 v14 v15 l e; omega
  | succ f ih =>
    intro p m v10 v11 v12 v14 v15 l e hm hp hl
    obtain ⟨m, rfl⟩ : ∃ m', m = m' + 1 := ⟨m - 1, by omega⟩
    by_cases hlt : p < s.size
    · have a1 : decide ((p : Int) < (s.size : Int)) = true := by simp; omega
      have i0 : inB s (some p) := by intro x hx; cases hx; exact hp
      have i1 : inB s (sA s p).2 := inB_num s _ i0
      have i2 : inB s (sB s p).2 := inB_num s _ i1
      have i3 : inB s (sC s p).2 := inB_num s _ i2
      have k1 : t92 s (p : Int) (3 : Int) = some ([.one (.l (numsA s 3 (some p) []).1), .one (.i .i64 (pos (sC s p).2))], []) := by
        have := nums_spec s (by omega) 3 (by omega) (some p) i0
        rw [numsA_snd3] at this
        exact this
      have k2 : t93 s (pos (sC s p).2) = some ([.one (.s (sX s p).1), .one (.i .i64 (pos (sX s p).2))], []) := take_spec s (by omega) _ i3
      have hx : (sX s p).1.size ≤ s.size := takeA_size s _ i3
      have k3 := readCall_spec (sX s p).1 (by omega)
      have ew : ∀ x y, okR zr92 zo92 (some ([.one (.l x), .one (.i .i64 y)], [])) = true := fun _ _ => rfl
      have e0 : ∀ x y, asL (resC (some ([.one (.l x), .one (.i .i64 y)], [])) 0 0) = x := fun _ _ => rfl
      have ew2 : ∀ x y, okR zr93 zo93 (some ([.one (.s x), .one (.i .i64 y)], [])) = true := fun _ _ => rfl
      have e1 : ∀ x y, asI (resC (some ([x, .one (.i .i64 y)], [])) 1 0) = y := fun _ _ => rfl
      have e2 : ∀ x y, asS (resC (some ([.one (.s x), .one (.i .i64 y)], [])) 0 0) = x := fun _ _ => rfl
      have ew3 : okR zr94 zo94 (some (rdcD (sX s p).1, [])) = true := by unfold rdcD; split <;> rfl
      have e3 : asB (resC (some (rdcD (sX s p).1, [])) 1 0) = rdcOk (sX s p).1 := by unfold rdcD; split <;> (rename_i h; simp [h])
      simp only [l50o1, a1, if_true, k1, k2, k3, ew, ew2, ew3, e0, e1, e2, e3, chk_true, rdF, if_pos hlt]
      cases hq : (sX s p).2 with
      | none =>
        have b1 : decide (pos none < 0) = true := rfl
        simp only [b1, Bool.true_or, if_true, h1]
      | some q =>
        have b1 : decide (pos (some q) < 0) = false := by rw [pos_some]; simp
        obtain ⟨⟨p1, p2, p3, g1, g2, g3⟩, hpq, hqs, _⟩ := slot_chain s p q hp hq
        have f1 : (numsA s 3 (some p) []).1 = [[.i .i64 (sA s p).1], [.i .i64 (sB s p).1], [.i .i64 (sC s p).1]] := by
          show (if (sA s p).2 = none then (([] : List (List D)), none) else (if (sB s p).2 = none then _ else (if (sC s p).2 = none then _ else _))).1 = _
          rw [if_neg (by rw [g1]; simp), if_neg (by rw [g2]; simp), if_neg (by rw [g3]; simp)]; rfl
        simp only [b1, Bool.false_or]
        cases ho : rdcOk (sX s p).1
        · simp only [Bool.not_false, if_true, h1, Bool.false_eq_true, if_false]
        · have e4 : rdcD (sX s p).1 = [.agg [.i .i64 (cK (sX s p).1).1, .s (cP (sX s p).1).1, .s (cT (sX s p).1).1, .i .i64 (unz (cN (sX s p).1).1), .i .i64 (unz (cM (sX s p).1).1), .s (cD (sX s p).1).1], .one (.b true)] := by unfold rdcD; rw [if_pos ho]
          simp only [Bool.not_true, Bool.false_eq_true, if_false, if_true, e4, f1]
          have y5 : ∀ x y z : Int, (decide ((0 : Int) ≤ 0) && decide ((0 : Int) < ([[D.i .i64 x], [D.i .i64 y], [D.i .i64 z]].length : Int))) = true := fun _ _ _ => rfl
          have y6 : ∀ x y z : Int, (decide ((0 : Int) ≤ 1) && decide ((1 : Int) < ([[D.i .i64 x], [D.i .i64 y], [D.i .i64 z]].length : Int))) = true := fun _ _ _ => rfl
          have y7 : ∀ x y z : Int, (decide ((0 : Int) ≤ 2) && decide ((2 : Int) < ([[D.i .i64 x], [D.i .i64 y], [D.i .i64 z]].length : Int))) = true := fun _ _ _ => rfl
          have z5 : ∀ x y z : Int, [[D.i .i64 x], [D.i .i64 y], [D.i .i64 z]].getD ((0 : Int).toNat) [] = [D.i .i64 x] := fun _ _ _ => rfl
          have z6 : ∀ x y z : Int, [[D.i .i64 x], [D.i .i64 y], [D.i .i64 z]].getD ((1 : Int).toNat) [] = [D.i .i64 y] := fun _ _ _ => rfl
          have z7 : ∀ x y z : Int, [[D.i .i64 x], [D.i .i64 y], [D.i .i64 z]].getD ((2 : Int).toNat) [] = [D.i .i64 z] := fun _ _ _ => rfl
          have z3 : ∀ x : Int, (decide (1 ≤ [D.i .i64 x].length) && isF z3 0 [D.i .i64 x]) = true := fun _ => rfl
          have z4 : ∀ x : Int, asI (nthD [D.i .i64 x] 0) = x := fun _ => rfl
          simp only [y5, y6, y7, z5, z6, z7, z3, z4, chk_true]
          have hk : ∀ r : List D, flatR 9 [r] = true → ((flatR 9 [r]) && decide (l.length + [r].length ≤ lim)) = true := by
            intro r hr
            rw [hr, decide_eq_true (by simp only [List.length_cons, List.length_nil]; omega)]; rfl
          rw [chk_ok (hk _ rfl)]
          exact ih q m _ _ _ _ _ _ (by omega) (by omega) hqs (by simp; omega)
    · have a1 : decide ((p : Int) < (s.size : Int)) = false := by simp; omega
      simp only [l50o1, a1, Bool.false_eq_true, if_false, h2, rdF, if_neg hlt]
theorem rf_impl (s : ByteArray) (hs : s.size ≤ 1048576) (s8 : ByteArray) (b9 b11 : Bool) (q1 : SV → Bool → ByteArray → Bool → List (List D) → Rs)
    (Q : List (List D) → Rs) (h1 : ∀ a b c l, q1 a b c true l = R0) (h2 : ∀ a b c l, q1 a b c false l = Q l) :
    ∀ (f p m : Nat) (v10 v12 : SV) (l : List (List D)), s.size < f + p → f + 1 ≤ m → p ≤ s.size → l.length + f ≤ lim →
    l51o1 s8 b9 b11 q1 m v10 v12 (s.extract p s.size) false l = (match rdF s f p l with | none => R0 | some l' => Q l') := by
  intro f
  induction f with
  | zero => intro p m v10 v12 l e; omega
  | succ f ih =>
    intro p m v10 v12 l e hm hp hl
    obtain ⟨m, rfl⟩ : ∃ m', m = m' + 1 := ⟨m - 1, by omega⟩
    have hne : ((s.extract p s.size).toList == (⟨#[]⟩ : ByteArray).toList) = decide (p = s.size) := by
      rw [Bool.eq_iff_iff, toList_inj, ext_empty s p hp]; simp
    by_cases hlt : p < s.size
    · have a1 : (!((s.extract p s.size).toList == (⟨#[]⟩ : ByteArray).toList) && !false) = true := by
        rw [hne, decide_eq_false (by omega)]; rfl
      have i0 : inB s (some p) := by intro x hx; cases hx; exact hp
      have s0 : St s (some p) (s.extract p s.size) false := ⟨rfl, rfl, hp⟩
      obtain ⟨r1, b1, k1, s1⟩ := num_impl s _ _ _ s0
      obtain ⟨r2, b2, k2, s2⟩ := num_impl s _ _ _ s1
      obtain ⟨r3, b3, k3, s3⟩ := num_impl s _ _ _ s2
      obtain ⟨r4, b4, k4, s4⟩ := rdPiece_impl s _ _ _ s3
      change t95 _ _ = some ([.one (.i .i64 (sA s p).1)], _) at k1
      change t95 _ _ = some ([.one (.i .i64 (sB s p).1)], _) at k2
      change t95 _ _ = some ([.one (.i .i64 (sC s p).1)], _) at k3
      change t97 _ _ = some ([.one (.s (sX s p).1)], _) at k4
      change St s (sX s p).2 r4 b4 at s4
      have k5 := readCall_impl (sX s p).1
      have ew : ∀ x y z, okR zr95 zo95 (some ([.one (.i .i64 x)], [[.s y, .b z]])) = true := fun _ _ _ => rfl
      have ew2 : ∀ x y z, okR zr97 zo97 (some ([.one (.s x)], [[.s y, .b z]])) = true := fun _ _ _ => rfl
      have f0 : ∀ x y z, asI (resC (some ([.one (.i .i64 x)], [[.s y, .b z]])) 0 0) = x := fun _ _ _ => rfl
      have f1 : ∀ x y z, asS (outC (some ([.one x], [[.s y, .b z]])) 0 0) = y := fun _ _ _ => rfl
      have f2 : ∀ x y z, asB (outC (some ([.one x], [[.s y, .b z]])) 0 1) = z := fun _ _ _ => rfl
      have f3 : ∀ x y z, asS (resC (some ([.one (.s x)], [[.s y, .b z]])) 0 0) = x := fun _ _ _ => rfl
      have ew3 : okR zr96 zo96 (some (rdcD (sX s p).1, [])) = true := by unfold rdcD; split <;> rfl
      have e3 : asB (resC (some (rdcD (sX s p).1, [])) 1 0) = rdcOk (sX s p).1 := by unfold rdcD; split <;> (rename_i h; simp [h])
      simp only [l51o1, a1, if_true, k1, k2, k3, k4, k5, ew, ew2, ew3, f0, f1, f2, f3, e3, chk_true, rdF, if_pos hlt]
      have hk : ∀ r : List D, flatR 9 [r] = true → ((flatR 9 [r]) && decide (l.length + [r].length ≤ lim)) = true := by
        intro r hr
        rw [hr, decide_eq_true (by simp only [List.length_cons, List.length_nil]; omega)]; rfl
      rw [chk_ok (hk _ rfl)]
      have hbad : ∀ (m : Nat) (v w : SV) (r : ByteArray) (l : List (List D)), 0 < m → l51o1 s8 b9 b11 q1 m v w r true l = R0 := by
        intro m v w r l hm
        obtain ⟨m, rfl⟩ : ∃ m', m = m' + 1 := ⟨m - 1, by omega⟩
        simp only [l51o1, Bool.not_true, Bool.and_false, Bool.false_eq_true, if_false, h1]
      cases hq : (sX s p).2 with
      | none =>
        rw [hq] at s4
        have : b4 = true := s4
        subst this
        simp only [Bool.true_or]
        exact hbad _ _ _ _ _ (by omega)
      | some q =>
        rw [hq] at s4
        obtain ⟨rfl, rfl, hqs⟩ := s4
        obtain ⟨_, hpq, _, _⟩ := slot_chain s p q hp hq
        cases ho : rdcOk (sX s p).1
        · simp only [Bool.not_false, Bool.or_true, Bool.false_eq_true, if_false]
          exact hbad _ _ _ _ _ (by omega)
        · have e4 : rdcD (sX s p).1 = [.agg [.i .i64 (cK (sX s p).1).1, .s (cP (sX s p).1).1, .s (cT (sX s p).1).1, .i .i64 (unz (cN (sX s p).1).1), .i .i64 (unz (cM (sX s p).1).1), .s (cD (sX s p).1).1], .one (.b true)] := by unfold rdcD; rw [if_pos ho]
          simp only [Bool.not_true, Bool.or_self, e4]
          exact ih q m _ _ _ (by omega) (by omega) hqs (by simp; omega)
    · have a1 : (!((s.extract p s.size).toList == (⟨#[]⟩ : ByteArray).toList) && !false) = false := by
        rw [hne, decide_eq_true (by omega)]; rfl
      simp only [l51o1, a1, Bool.false_eq_true, if_false, h2, rdF, if_neg hlt]
end Go.Den.L12

/- Marks. -/
namespace Go.Den.L12
open Go
theorem markText_loop (s7 : ByteArray) (b9 : Bool) (q1 : Int → ByteArray → Bool → Rs) (h1 : ∀ n (s : ByteArray) b, s.size ≤ 1000 → ∃ x, q1 n s b = some ([.one (.s x)], [])) : ∀ (k m : Nat) (n : Int) (s : ByteArray) (v : SV), 0 ≤ n → n < 10 ^ k → n < 4611686018427387904 → k < m → s.size + k ≤ 1000 →
    ∃ x, l98o1 s7 b9 q1 m n s v = some ([.one (.s x)], []) := by
  intro k
  induction k with
  | zero =>
    intro m n s v h0 hn h2 hm hs
    obtain ⟨m, rfl⟩ : ∃ m', m = m' + 1 := ⟨m - 1, by omega⟩
    have e : decide (n > 0) = false := by simp; omega
    simp only [l98o1, e, Bool.false_eq_true, if_false]
    exact h1 _ _ _ (by omega)
  | succ k ih =>
    intro m n s v h0 hn h2 hm hs
    obtain ⟨m, rfl⟩ : ∃ m', m = m' + 1 := ⟨m - 1, by omega⟩
    by_cases e : n > 0
    · have e' : decide (n > 0) = true := decide_eq_true e
      have hb : ∀ x : Int, isBytes [[D.i .u8 x]] = true := fun _ => rfl
      have hz : ∀ x : Int, (⟨(bytesD [[D.i .u8 x]]).toArray⟩ : ByteArray).size = 1 := fun _ => rfl
      simp only [l98o1, e', if_true, hb, chk_true, hz]
      rw [chk_ok (decide_eq_true (by unfold lim; omega)), Int.tdiv_eq_ediv_of_nonneg h0, w64_in (n / 10) (by omega)]
      refine ih m (n / 10) _ _ (by omega) ?_ (by omega) (by omega) (by rw [ByteArray.size_append, hz]; omega)
      rw [Int.ediv_lt_iff_lt_mul (by omega)]
      rw [Int.pow_succ] at hn
      exact hn
    · have e' : decide (n > 0) = false := decide_eq_false e
      simp only [l98o1, e', Bool.false_eq_true, if_false]
      exact h1 _ _ _ (by omega)
noncomputable def mkT (k : Int) : ByteArray := asS (resC (t98 k) 0 0)
theorem markText_eq (k : Int) (h : k < 4611686018427387904) : t98 k = some ([.one (.s (mkT k))], []) := by
  have : ∃ x, t98 k = some ([.one (.s x)], []) := by
    unfold t98
    by_cases e : k ≤ 0
    · have e' : decide (k ≤ 0) = true := decide_eq_true e
      simp only [e', if_true]; exact ⟨_, rfl⟩
    · have e' : decide (k ≤ 0) = false := decide_eq_false e
      simp only [e', Bool.false_eq_true, if_false]
      refine markText_loop _ _ _ ?_ 20 KK k _ _ (by omega) (by omega) h (by rw [KK_eq]; omega) (by show 0 + 20 ≤ 1000; omega)
      intro n s b hs
      have e0 : (⟨#[109]⟩ : ByteArray).size = 1 := rfl
      simp only [e0]
      rw [chk_ok (decide_eq_true (by unfold lim; omega))]
      exact ⟨_, rfl⟩
  obtain ⟨x, hx⟩ := this
  have : mkT k = x := by unfold mkT; rw [hx]; rfl
  rw [this, hx]
theorem markText_w {x : ByteArray} : okR zr98 zo98 (some ([.one (.s x)], [])) = true := rfl
theorem markText_r {x : ByteArray} : asS (resC (some ([.one (.s x)], [])) 0 0) = x := rfl
theorem stR_mid (a b : List (List D)) (r ys : List D) (i off : Nat) (h : i = a.length) : stR (a ++ r :: b) i off ys = a ++ (r.take off ++ ys ++ r.drop (off + ys.length)) :: b := by
  subst h; unfold stR; exact modify_mid _ a r b
theorem getD_mid (a b : List (List D)) (r : List D) (i : Nat) (h : i = a.length) : (a ++ r :: b).getD i [] = r := by
  subst h; simp [List.getD]
theorem typL_len : ∀ (es : List Sh) (r : List D), typL es r → r.length = es.length
  | [], r, h => by rw [show r = [] from h]; rfl
  | e :: es, r, h => by
    obtain ⟨d, r', rfl, _, h⟩ := h
    simp only [List.length_cons, typL_len es r' h]
theorem snoc_app (a b : List (List D)) (r : List D) : a ++ r :: b = (a ++ [r]) ++ b := by simp
end Go.Den.L12

/- Marks laid and held. Printed by mark.py. -/
namespace Go.Den.L12
open Go
theorem st9_0 (a b : List (List D)) (i : Nat) (h : i = a.length) (c1 c2 c3 c4 c5 c6 c7 c8 c9 d : D) : stR (a ++ [c1, c2, c3, c4, c5, c6, c7, c8, c9] :: b) i 0 [d] = a ++ [d, c2, c3, c4, c5, c6, c7, c8, c9] :: b := stR_mid a b _ _ i 0 h
theorem st9_1 (a b : List (List D)) (i : Nat) (h : i = a.length) (c1 c2 c3 c4 c5 c6 c7 c8 c9 d : D) : stR (a ++ [c1, c2, c3, c4, c5, c6, c7, c8, c9] :: b) i 1 [d] = a ++ [c1, d, c3, c4, c5, c6, c7, c8, c9] :: b := stR_mid a b _ _ i 1 h
theorem st9_2 (a b : List (List D)) (i : Nat) (h : i = a.length) (c1 c2 c3 c4 c5 c6 c7 c8 c9 d : D) : stR (a ++ [c1, c2, c3, c4, c5, c6, c7, c8, c9] :: b) i 2 [d] = a ++ [c1, c2, d, c4, c5, c6, c7, c8, c9] :: b := stR_mid a b _ _ i 2 h
theorem st9_3 (a b : List (List D)) (i : Nat) (h : i = a.length) (c1 c2 c3 c4 c5 c6 c7 c8 c9 d : D) : stR (a ++ [c1, c2, c3, c4, c5, c6, c7, c8, c9] :: b) i 3 [d] = a ++ [c1, c2, c3, d, c5, c6, c7, c8, c9] :: b := stR_mid a b _ _ i 3 h
theorem st9_4 (a b : List (List D)) (i : Nat) (h : i = a.length) (c1 c2 c3 c4 c5 c6 c7 c8 c9 d : D) : stR (a ++ [c1, c2, c3, c4, c5, c6, c7, c8, c9] :: b) i 4 [d] = a ++ [c1, c2, c3, c4, d, c6, c7, c8, c9] :: b := stR_mid a b _ _ i 4 h
theorem st9_5 (a b : List (List D)) (i : Nat) (h : i = a.length) (c1 c2 c3 c4 c5 c6 c7 c8 c9 d : D) : stR (a ++ [c1, c2, c3, c4, c5, c6, c7, c8, c9] :: b) i 5 [d] = a ++ [c1, c2, c3, c4, c5, d, c7, c8, c9] :: b := stR_mid a b _ _ i 5 h
theorem st9_6 (a b : List (List D)) (i : Nat) (h : i = a.length) (c1 c2 c3 c4 c5 c6 c7 c8 c9 d : D) : stR (a ++ [c1, c2, c3, c4, c5, c6, c7, c8, c9] :: b) i 6 [d] = a ++ [c1, c2, c3, c4, c5, c6, d, c8, c9] :: b := stR_mid a b _ _ i 6 h
theorem st9_7 (a b : List (List D)) (i : Nat) (h : i = a.length) (c1 c2 c3 c4 c5 c6 c7 c8 c9 d : D) : stR (a ++ [c1, c2, c3, c4, c5, c6, c7, c8, c9] :: b) i 7 [d] = a ++ [c1, c2, c3, c4, c5, c6, c7, d, c9] :: b := stR_mid a b _ _ i 7 h
theorem st9_8 (a b : List (List D)) (i : Nat) (h : i = a.length) (c1 c2 c3 c4 c5 c6 c7 c8 c9 d : D) : stR (a ++ [c1, c2, c3, c4, c5, c6, c7, c8, c9] :: b) i 8 [d] = a ++ [c1, c2, c3, c4, c5, c6, c7, c8, d] :: b := stR_mid a b _ _ i 8 h
theorem len9 {r : List D} (h : r.length = 9) : ∃ c1 c2 c3 c4 c5 c6 c7 c8 c9, r = [c1, c2, c3, c4, c5, c6, c7, c8, c9] := by
  match r, h with
  | [c1, c2, c3, c4, c5, c6, c7, c8, c9], _ => exact ⟨c1, c2, c3, c4, c5, c6, c7, c8, c9, rfl⟩
noncomputable def rowMSlotS (k : Int) : List D := [.i .i64 (k), .i .i64 (k + 1), .i .i64 (k + 1 + 1), .i .i64 (k + 1 + 1 + 1), .s (mkT (k + 1 + 1 + 1 + 1)), .s (mkT (k + 1 + 1 + 1 + 1 + 1)), .i .i64 (k + 1 + 1 + 1 + 1 + 1 + 1), .i .i64 (k + 1 + 1 + 1 + 1 + 1 + 1 + 1), .s (mkT (k + 1 + 1 + 1 + 1 + 1 + 1 + 1 + 1))]
noncomputable def markedSlotS : Int → List (List D) → List (List D)
  | _, [] => []
  | k, _ :: b => rowMSlotS k :: markedSlotS (k + 1 + 1 + 1 + 1 + 1 + 1 + 1 + 1 + 1) b
theorem markedSlotS_len : ∀ (b : List (List D)) (k : Int), (markedSlotS k b).length = b.length
  | [], _ => rfl
  | _ :: b, k => by simp only [markedSlotS, List.length_cons, markedSlotS_len b]
theorem markSlotS_loop (n8 : Int) (q : Int → Int → Bool → List (List D) → Rs) (hq : ∀ a b c d, q a b c d = some ([.one (.i .i64 a)], [[.l d]])) : ∀ (b a : List (List D)) (m : Nat) (k : Int) (v10 : SV), (∀ r ∈ b, r.length = 9) → b.length < m → a.length + b.length ≤ 4000000 → 0 ≤ k → k + 9 * (b.length : Int) ≤ 4000000000000000000 →
    l52o0 n8 q m k (a.length : Int) v10 (a ++ b) = some ([.one (.i .i64 (k + 9 * (b.length : Int)))], [[.l (a ++ markedSlotS k b)]]) := by
  intro b
  induction b with
  | nil =>
    intro a m k v10 h hm hl h0 hk
    obtain ⟨m, rfl⟩ : ∃ m', m = m' + 1 := ⟨m - 1, by omega⟩
    have e : decide ((a.length : Int) < ((a ++ ([] : List (List D))).length : Int)) = false := by simp
    have e2 : k + 9 * ((([] : List (List D)).length : Nat) : Int) = k := by simp
    simp only [l52o0, e, Bool.false_eq_true, if_false, hq, e2, markedSlotS]
  | cons r b ih =>
    intro a m k v10 h hm hl h0 hk
    obtain ⟨m, rfl⟩ : ∃ m', m = m' + 1 := ⟨m - 1, by omega⟩
    simp only [List.length_cons] at hm hl hk
    obtain ⟨c1, c2, c3, c4, c5, c6, c7, c8, c9, rfl⟩ := len9 (h r (List.mem_cons_self ..))
    have hb : ∀ r ∈ b, r.length = 9 := fun r hr => h r (List.mem_cons_of_mem _ hr)
    have e1 : ∀ r : List D, decide ((a.length : Int) < ((a ++ r :: b).length : Int)) = true := fun r => decide_eq_true (by simp; omega)
    have e0 : decide (0 ≤ (a.length : Int)) = true := decide_eq_true (by omega)
    have p1 : ∀ r : List D, decide (1 ≤ 9 ∧ a.length < (a ++ r :: b).length) = true := fun r => decide_eq_true (by simp)
    have p2 : ∀ r : List D, decide (2 ≤ 9 ∧ a.length < (a ++ r :: b).length) = true := fun r => decide_eq_true (by simp)
    have p3 : ∀ r : List D, decide (3 ≤ 9 ∧ a.length < (a ++ r :: b).length) = true := fun r => decide_eq_true (by simp)
    have p4 : ∀ r : List D, decide (4 ≤ 9 ∧ a.length < (a ++ r :: b).length) = true := fun r => decide_eq_true (by simp)
    have p5 : ∀ r : List D, decide (5 ≤ 9 ∧ a.length < (a ++ r :: b).length) = true := fun r => decide_eq_true (by simp)
    have p6 : ∀ r : List D, decide (6 ≤ 9 ∧ a.length < (a ++ r :: b).length) = true := fun r => decide_eq_true (by simp)
    have p7 : ∀ r : List D, decide (7 ≤ 9 ∧ a.length < (a ++ r :: b).length) = true := fun r => decide_eq_true (by simp)
    have p8 : ∀ r : List D, decide (8 ≤ 9 ∧ a.length < (a ++ r :: b).length) = true := fun r => decide_eq_true (by simp)
    have p9 : ∀ r : List D, decide (9 ≤ 9 ∧ a.length < (a ++ r :: b).length) = true := fun r => decide_eq_true (by simp)
    have u1 : w64 (k + 1) = k + 1 := w64_in _ (by omega)
    have u2 : w64 (k + 1 + 1) = k + 1 + 1 := w64_in _ (by omega)
    have u3 : w64 (k + 1 + 1 + 1) = k + 1 + 1 + 1 := w64_in _ (by omega)
    have u4 : w64 (k + 1 + 1 + 1 + 1) = k + 1 + 1 + 1 + 1 := w64_in _ (by omega)
    have u5 : w64 (k + 1 + 1 + 1 + 1 + 1) = k + 1 + 1 + 1 + 1 + 1 := w64_in _ (by omega)
    have u6 : w64 (k + 1 + 1 + 1 + 1 + 1 + 1) = k + 1 + 1 + 1 + 1 + 1 + 1 := w64_in _ (by omega)
    have u7 : w64 (k + 1 + 1 + 1 + 1 + 1 + 1 + 1) = k + 1 + 1 + 1 + 1 + 1 + 1 + 1 := w64_in _ (by omega)
    have u8 : w64 (k + 1 + 1 + 1 + 1 + 1 + 1 + 1 + 1) = k + 1 + 1 + 1 + 1 + 1 + 1 + 1 + 1 := w64_in _ (by omega)
    have u9 : w64 (k + 1 + 1 + 1 + 1 + 1 + 1 + 1 + 1 + 1) = k + 1 + 1 + 1 + 1 + 1 + 1 + 1 + 1 + 1 := w64_in _ (by omega)
    have t4 := markText_eq (k + 1 + 1 + 1 + 1) (by omega)
    have t5 := markText_eq (k + 1 + 1 + 1 + 1 + 1) (by omega)
    have t8 := markText_eq (k + 1 + 1 + 1 + 1 + 1 + 1 + 1 + 1) (by omega)
    have hw := w64_succ a.length (by omega)
    simp only [l52o0, e1, e0, if_true, Int.toNat_natCast, p1, p2, p3, p4, p5, p6, p7, p8, p9, u1, u2, u3, u4, u5, u6, u7, u8, u9, t4, t5, t8, markText_w, markText_r, st9_0 a b _ rfl, st9_1 a b _ rfl, st9_2 a b _ rfl, st9_3 a b _ rfl, st9_4 a b _ rfl, st9_5 a b _ rfl, st9_6 a b _ rfl, st9_7 a b _ rfl, st9_8 a b _ rfl, Bool.and_true, chk_true, hw]
    have := fun (z0 : SV) => ih (a ++ [rowMSlotS k]) m (k + 1 + 1 + 1 + 1 + 1 + 1 + 1 + 1 + 1) z0 hb (by omega) (by simp; omega) (by omega) (by omega)
    have e3 : (a ++ [rowMSlotS k]).length = a.length + 1 := by simp
    simp only [e3, List.append_assoc] at this
    have e4 : k + 9 * ((([c1, c2, c3, c4, c5, c6, c7, c8, c9] :: b).length : Nat) : Int) = k + 1 + 1 + 1 + 1 + 1 + 1 + 1 + 1 + 1 + 9 * (b.length : Int) := by simp only [List.length_cons]; omega
    have e5 : a ++ markedSlotS k ([c1, c2, c3, c4, c5, c6, c7, c8, c9] :: b) = (a ++ [rowMSlotS k]) ++ markedSlotS (k + 1 + 1 + 1 + 1 + 1 + 1 + 1 + 1 + 1) b := by simp [markedSlotS]
    rw [e4, e5, List.append_assoc]
    exact this _
theorem markSlotS_eq (l : List (List D)) (h : ∀ r ∈ l, r.length = 9) (hl : l.length ≤ 4000000) (k : Int) (h0 : 0 ≤ k) (hk : k + 9 * (l.length : Int) ≤ 4000000000000000000) : t52 l k = some ([.one (.i .i64 (k + 9 * (l.length : Int)))], [[.l (markedSlotS k l)]]) := by
  unfold t52
  exact markSlotS_loop _ _ (fun _ _ _ _ => rfl) l [] KK k _ h (by rw [KK_eq]; omega) (by simpa using hl) h0 hk
theorem heldSlotS_loop (n9 : Int) (q1 : Int → Int → Bool → Bool → SV → SV → SV → SV → SV → SV → SV → SV → Rs) (q2 : Int → Int → Bool → Bool → Bool → SV → SV → SV → SV → SV → SV → SV → Rs) (q3 : Int → Int → Bool → Bool → Bool → Bool → SV → SV → SV → SV → SV → SV → Rs) (q4 : Int → Int → Bool → Bool → Bool → Bool → Bool → SV → SV → SV → SV → SV → Rs) (q5 : Int → Int → Bool → Bool → Bool → Bool → Bool → Bool → SV → SV → SV → SV → Rs) (q6 : Int → Int → Bool → Bool → Bool → Bool → Bool → Bool → Bool → SV → SV → SV → Rs) (q7 : Int → Int → Bool → Bool → Bool → Bool → Bool → Bool → Bool → Bool → SV → SV → Rs) (q8 : Int → Int → Bool → Bool → Bool → Bool → Bool → Bool → Bool → Bool → Bool → SV → Rs) (q9 : Int → Int → Bool → Bool → Bool → Bool → Bool → Bool → Bool → Bool → Bool → Bool → Rs) (q10 : Int → Int → Bool → SV → SV → SV → SV → SV → SV → SV → SV → SV → Rs) (hq : ∀ x0 x1 x2 x3 x4 x5 x6 x7 x8 x9 x10 x11, q10 x0 x1 x2 x3 x4 x5 x6 x7 x8 x9 x10 x11 = some ([.one (.i .i64 x0)], [])) : ∀ (b a : List (List D)) (m : Nat) (k : Int) (v11 v12 v13 v14 v15 v16 v17 v18 v19 v20 : SV) (L : List (List D)) (i : Int), L = a ++ markedSlotS k b → i = (a.length : Int) → b.length < m → a.length + b.length ≤ 4000000 → 0 ≤ k → k + 9 * (b.length : Int) ≤ 4000000000000000000 →
    l53o0 L n9 q1 q2 q3 q4 q5 q6 q7 q8 q9 q10 m k i v11 v12 v13 v14 v15 v16 v17 v18 v19 v20 = some ([.one (.i .i64 (k + 9 * (b.length : Int)))], []) := by
  intro b
  induction b with
  | nil =>
    intro a m k v11 v12 v13 v14 v15 v16 v17 v18 v19 v20 L i hL hi hm hl h0 hk
    subst hL hi
    obtain ⟨m, rfl⟩ : ∃ m', m = m' + 1 := ⟨m - 1, by omega⟩
    have e : decide ((a.length : Int) < ((a ++ ([] : List (List D))).length : Int)) = false := by simp
    have e2 : k + 9 * ((([] : List (List D)).length : Nat) : Int) = k := by simp
    rw [show markedSlotS k [] = [] from rfl]
    simp only [l53o0, e, Bool.false_eq_true, if_false, hq, e2]
  | cons r b ih =>
    intro a m k v11 v12 v13 v14 v15 v16 v17 v18 v19 v20 L i hL hi hm hl h0 hk
    subst hL hi
    obtain ⟨m, rfl⟩ : ∃ m', m = m' + 1 := ⟨m - 1, by omega⟩
    simp only [List.length_cons] at hm hl hk
    have e1 : ∀ (r : List D) (b : List (List D)), decide ((a.length : Int) < ((a ++ r :: b).length : Int)) = true := fun r b => decide_eq_true (by simp; omega)
    have e0 : decide (0 ≤ (a.length : Int)) = true := decide_eq_true (by omega)
    have eg : ∀ (r : List D) (b : List (List D)), (a ++ r :: b).getD a.length [] = r := fun r b => getD_mid a b r _ rfl
    have u1 : w64 (k + 1) = k + 1 := w64_in _ (by omega)
    have u2 : w64 (k + 1 + 1) = k + 1 + 1 := w64_in _ (by omega)
    have u3 : w64 (k + 1 + 1 + 1) = k + 1 + 1 + 1 := w64_in _ (by omega)
    have u4 : w64 (k + 1 + 1 + 1 + 1) = k + 1 + 1 + 1 + 1 := w64_in _ (by omega)
    have u5 : w64 (k + 1 + 1 + 1 + 1 + 1) = k + 1 + 1 + 1 + 1 + 1 := w64_in _ (by omega)
    have u6 : w64 (k + 1 + 1 + 1 + 1 + 1 + 1) = k + 1 + 1 + 1 + 1 + 1 + 1 := w64_in _ (by omega)
    have u7 : w64 (k + 1 + 1 + 1 + 1 + 1 + 1 + 1) = k + 1 + 1 + 1 + 1 + 1 + 1 + 1 := w64_in _ (by omega)
    have u8 : w64 (k + 1 + 1 + 1 + 1 + 1 + 1 + 1 + 1) = k + 1 + 1 + 1 + 1 + 1 + 1 + 1 + 1 := w64_in _ (by omega)
    have u9 : w64 (k + 1 + 1 + 1 + 1 + 1 + 1 + 1 + 1 + 1) = k + 1 + 1 + 1 + 1 + 1 + 1 + 1 + 1 + 1 := w64_in _ (by omega)
    have t4 := markText_eq (k + 1 + 1 + 1 + 1) (by omega)
    have t5 := markText_eq (k + 1 + 1 + 1 + 1 + 1) (by omega)
    have t8 := markText_eq (k + 1 + 1 + 1 + 1 + 1 + 1 + 1 + 1) (by omega)
    have hw := w64_succ a.length (by omega)
    have this := fun (z0 : SV) (z1 : SV) (z2 : SV) (z3 : SV) (z4 : SV) (z5 : SV) (z6 : SV) (z7 : SV) (z8 : SV) (z9 : SV) => ih (a ++ [rowMSlotS k]) m (k + 1 + 1 + 1 + 1 + 1 + 1 + 1 + 1 + 1) z0 z1 z2 z3 z4 z5 z6 z7 z8 z9 _ _ rfl rfl (by omega) (by simp; omega) (by omega) (by omega)
    have e3 : (a ++ [rowMSlotS k]).length = a.length + 1 := by simp
    simp only [e3, List.append_assoc] at this
    have e4 : k + 9 * (((r :: b).length : Nat) : Int) = k + 1 + 1 + 1 + 1 + 1 + 1 + 1 + 1 + 1 + 9 * (b.length : Int) := by simp only [List.length_cons]; omega
    have e5 : a ++ markedSlotS k (r :: b) = a ++ rowMSlotS k :: markedSlotS (k + 1 + 1 + 1 + 1 + 1 + 1 + 1 + 1 + 1) b := rfl
    rw [e5]
    have ez : isRow z30 (rowMSlotS k) = true := rfl
    have d0 : asI (nthD (rowMSlotS k) 0) = k := rfl
    have d1 : asI (nthD (rowMSlotS k) 1) = k + 1 := rfl
    have d2 : asI (nthD (rowMSlotS k) 2) = k + 1 + 1 := rfl
    have d3 : asI (nthD (rowMSlotS k) 3) = k + 1 + 1 + 1 := rfl
    have d4 : asS (nthD (rowMSlotS k) 4) = mkT (k + 1 + 1 + 1 + 1) := rfl
    have d5 : asS (nthD (rowMSlotS k) 5) = mkT (k + 1 + 1 + 1 + 1 + 1) := rfl
    have d6 : asI (nthD (rowMSlotS k) 6) = k + 1 + 1 + 1 + 1 + 1 + 1 := rfl
    have d7 : asI (nthD (rowMSlotS k) 7) = k + 1 + 1 + 1 + 1 + 1 + 1 + 1 := rfl
    have d8 : asS (nthD (rowMSlotS k) 8) = mkT (k + 1 + 1 + 1 + 1 + 1 + 1 + 1 + 1) := rfl
    simp only [l53o0, e1, e0, if_true, Int.toNat_natCast, eg, ez, d0, d1, d2, d3, d4, d5, d6, d7, d8, u1, u2, u3, u4, u5, u6, u7, u8, u9, t4, t5, t8, markText_w, markText_r, bne_self_eq_false, beq_self_eq_true, Bool.not_true, Bool.false_eq_true, if_false, Bool.and_true, chk_true, hw]
    rw [e4]
    exact this _ _ _ _ _ _ _ _ _ _
theorem heldSlotS_eq (l : List (List D)) (hl : l.length ≤ 4000000) (k : Int) (h0 : 0 ≤ k) (hk : k + 9 * (l.length : Int) ≤ 4000000000000000000) : t53 (markedSlotS k l) k = some ([.one (.i .i64 (k + 9 * (l.length : Int)))], []) := by
  unfold t53
  exact heldSlotS_loop _ _ _ _ _ _ _ _ _ _ _ (fun _ _ _ _ _ _ _ _ _ _ _ _ => rfl) l [] KK k _ _ _ _ _ _ _ _ _ _ _ _ rfl rfl (by rw [KK_eq]; omega) (by simpa using hl) h0 hk
end Go.Den.L12

/- Frames read, both ways. -/
namespace Go.Den.L12
open Go
theorem callS_size7 (k : Int) (p t : ByteArray) (n m : Int) (d : ByteArray) : (callS k p t n m d).size ≤ 226 := by
  unfold callS
  split
  · rename_i h
    obtain ⟨h1, h2, h3⟩ := callOk_sizes h
    have := varS_size7 k; have := varS_size7 (zig n); have := varS_size7 (zig m)
    have e : ∀ s : ByteArray, (pieceS s).size ≤ 7 + s.size := fun s => by unfold pieceS; rw [ByteArray.size_append]; have := varS_size7 (s.size : Int); omega
    have := e p; have := e t; have := e d
    simp only [ByteArray.size_append]; omega
  · exact Nat.zero_le _
theorem slotS_size7 (r : List D) : (slotS r).size ≤ 254 := by
  unfold slotS
  have := varS_size7 (asI (nthD r 0)); have := varS_size7 (asI (nthD r 1)); have := varS_size7 (asI (nthD r 2))
  have e : ∀ s : ByteArray, (pieceS s).size ≤ 7 + s.size := fun s => by unfold pieceS; rw [ByteArray.size_append]; have := varS_size7 (s.size : Int); omega
  have := e (callS (asI (nthD r 3)) (asS (nthD r 4)) (asS (nthD r 5)) (asI (nthD r 6)) (asI (nthD r 7)) (asS (nthD r 8)))
  have := callS_size7 (asI (nthD r 3)) (asS (nthD r 4)) (asS (nthD r 5)) (asI (nthD r 6)) (asI (nthD r 7)) (asS (nthD r 8))
  simp only [ByteArray.size_append]; omega
theorem catS_size : ∀ l : List (List D), (catS l).size ≤ 254 * l.length
  | [] => Nat.zero_le _
  | r :: l => by
    have := slotS_size7 r
    have := catS_size l
    simp only [catS, ByteArray.size_append, List.length_cons]; omega
theorem frame_good (l : List (List D)) (h : ∀ r ∈ l, typL slotSh r) (hl : l.length ≤ 1048576) (b0 : Bool) (q1 : Int → Bool → Bool → Rs) (q2 : Int → Bool → SV → Rs) (h1 : ∀ a b c, q1 a b c = some ([.one (.b false)], [])) : ∀ (k i m : Nat) (v w : SV), i + k = l.length → k < m →
    l66o0 l 2 b0 q1 q2 m i v w = some ([.one (.b true)], []) → ∀ j, i ≤ j → j < l.length → sbad l j = false := by
  intro k
  induction k with
  | zero => intro i m v w e hm _ j h1 h2; omega
  | succ k ih =>
    intro i m v w e hm hh j hj1 hj2
    obtain ⟨m, rfl⟩ : ∃ m', m = m' + 1 := ⟨m - 1, by omega⟩
    rw [spec_step l h hl b0 q1 q2 i m v w (by omega)] at hh
    cases hb : sbad l i
    · rw [hb] at hh
      simp only [Bool.false_eq_true, if_false] at hh
      by_cases hji : j = i
      · rw [hji]; exact hb
      · exact ih (i + 1) m _ _ (by omega) (by omega) hh j (by omega) hj2
    · rw [hb] at hh
      simp only [if_true, h1] at hh
      simp at hh
theorem frame_small (l : List (List D)) (h : ∀ r ∈ l, typL slotSh r) (hl : l.length ≤ 1048576) (hf : t29 l = some ([.one (.b true)], [])) : l.length ≤ 6 := by
  have hg : ∀ j, j < l.length → sbad l j = false := by
    obtain ⟨b, e1, _⟩ := frame_joint l h hl false false (fun _ _ _ => some ([.one (.b false)], [])) (fun _ _ _ => some ([.one (.b true)], [])) (fun _ _ _ _ _ _ _ _ _ _ _ _ _ _ => some ([.one (.b false)], [])) (fun _ _ _ _ _ _ => some ([.one (.b true)], []))
      (fun _ _ _ => rfl) (fun _ _ _ => rfl) (fun _ _ _ _ _ _ _ _ _ _ _ _ _ _ => rfl) (fun _ _ _ _ _ _ => rfl) l.length 0 KK 0 .undef .undef .undef .undef .undef .undef (by omega) (by rw [KK_eq]; omega) (by omega) (by omega) (by simp) (by simp) (by simp)
    have e2 : t66 l 2 = some ([.one (.b b)], []) := e1
    have e3 : b = true := by
      simp [t29, e2, zr66, zo66] at hf
      exact hf
    subst e3
    intro j hj
    exact frame_good l h hl false _ _ (fun _ _ _ => rfl) l.length 0 KK _ _ (by omega) (by rw [KK_eq]; omega) e1 j (by omega) hj
  have ht : ∀ j, j < l.length → 0 ≤ tn l j ∧ tn l j ≤ 2 := by
    intro j hj
    have := hg j hj
    simp only [sbad, Bool.or_eq_false_iff, Bool.not_eq_false'] at this
    have hr := this.1.1
    simp only [rowOk, slotOk, Bool.and_eq_true, decide_eq_true_eq] at hr
    exact ⟨hr.1.1, hr.1.2.1⟩
  have hs : ∀ j, j + 2 < l.length → tn l j + 1 ≤ tn l (j + 2) := by
    intro j hj
    have a1 := hg (j + 1) (by omega)
    have a2 := hg (j + 2) (by omega)
    simp only [sbad, Bool.or_eq_false_iff, Bool.and_eq_false_iff, decide_eq_false_iff_not, show j + 1 - 1 = j by omega, show j + 2 - 1 = j + 1 by omega, show j + 2 - 2 = j by omega] at a1 a2
    have b1 := a1.1.2
    have b2 := a2.1.2
    have b3 := a2.2
    omega
  by_cases h7 : l.length ≤ 6
  · exact h7
  · have a0 := ht 0 (by omega); have a6 := ht 6 (by omega)
    have s0 : tn l 0 + 1 ≤ tn l 2 := hs 0 (by omega)
    have s2 : tn l 2 + 1 ≤ tn l 4 := hs 2 (by omega)
    have s4 : tn l 4 + 1 ≤ tn l 6 := hs 4 (by omega)
    omega
theorem showFrame_spec (l : List (List D)) (h : ∀ r ∈ l, typL slotSh r) (hl : l.length ≤ 1048576) (b : Bool) (k1 : t29 l = some ([.one (.b b)], [])) : t41 l = some ([.one (.s (if b then ⟨#[102]⟩ ++ catS l else ⟨#[]⟩))], []) := by
  have e0 : (⟨#[102]⟩ : ByteArray).size = 1 := rfl
  cases b
  · simp [t41, k1, zr29, zo29]
  · have := showF_spec l h hl ⟨#[]⟩ false (fun s _ _ => some ([.one (.s s)], [])) (fun _ _ _ => rfl) l.length 0 KK ⟨#[102]⟩ .undef (by omega) (by rw [KK_eq]; omega) (by rw [e0]; omega)
    rw [frS_cat l l.length 0 _ (by omega), List.drop_zero] at this
    simpa [t41, k1, zr29, zo29] using this
theorem readFrame_both (s : ByteArray) (hs : s.size ≤ 1048576) : ∃ (l : List (List D)) (b : Bool), t50 s = some ([.one (.l l), .one (.b b)], []) ∧ t51 s = some ([.one (.l l), .one (.b b)], []) ∧ (∀ r ∈ l, typL slotSh r) ∧ l.length ≤ 1048576 := by
  have fin : ∀ A B : Rs, A = R0 → B = R0 → ∃ (l : List (List D)) (b : Bool), A = some ([.one (.l l), .one (.b b)], []) ∧ B = some ([.one (.l l), .one (.b b)], []) ∧ (∀ r ∈ l, typL slotSh r) ∧ l.length ≤ 1048576 := fun A B hA hB => ⟨[], false, hA, hB, by simp, by simp⟩
  by_cases h0 : s.size = 0
  · have e1 : ((s.size : Int) == 0) = true := by rw [h0]; rfl
    have e2 : (s.toList == (⟨#[]⟩ : ByteArray).toList) = true := by
      rw [toList_inj]; exact ByteArray.ext (Array.eq_empty_of_size_eq_zero h0)
    refine fin _ _ ?_ ?_
    · simp only [t50, e1, Bool.true_or, if_true]; rfl
    · simp only [t51, e2, Bool.true_or, Bool.not_true, Bool.not_false, Bool.or_true, chk_true, if_true]; rfl
  have n1 : ((s.size : Int) == 0) = false := by rw [beq_eq_false_iff_ne]; omega
  have n2 : (s.toList == (⟨#[]⟩ : ByteArray).toList) = false := by
    rw [Bool.eq_false_iff]; intro h
    have := congrArg ByteArray.size ((toList_inj _ _).1 h)
    exact h0 this
  have n3 : decide ((0 : Int) ≤ 0 ∧ (0 : Int) < (s.size : Int)) = true := decide_eq_true (by omega)
  have n4 : decide ((0 : Int) ≤ 1 ∧ (1 : Int) ≤ (s.size : Int)) = true := decide_eq_true (by omega)
  -- what both read
  have hi := rf_impl s hs s false ((((s.get! (0 : Int).toNat).toNat) : Int) != (102 : Int)) (fun (v29 : SV) (b30 : Bool) (s31 : ByteArray) (b32 : Bool) (l33 : List (List D)) =>
     chk ((okR zr31 zo31 (t31 l33)) || !(!b32)) <|
     if b32 || (!(asB (resC (t31 l33) 0 0))) then
      some ([.one (.l ([] : List (List D))), .one (.b false)], [])
     else
      some ([.one (.l l33), .one (.b true)], []))
    (fun l33 => chk (okR zr31 zo31 (t31 l33)) <| if (!(asB (resC (t31 l33) 0 0))) then R0 else some ([.one (.l l33), .one (.b true)], []))
    (fun _ _ _ _ => by simp only [Bool.not_true, Bool.not_false, Bool.or_true, chk_true, Bool.true_or, if_true]; rfl) (fun _ _ _ _ => by simp only [Bool.not_false, Bool.not_true, Bool.or_false, Bool.false_or]; rfl)
    (s.size + 1) 1 KK .undef .undef [] (by omega) (by rw [KK_eq]; omega) (by omega) (by simp only [List.length_nil]; unfold lim; omega)
  have hsp := rf_spec s hs false (((s.size : Int) == 0) || decide ((s.size : Int) > 1600)) (fun _ _ _ _ _ _ _ _ _ _ _ _ _ _ (l63 : List (List D)) => some ([.one (.l l63), .one (.b false)], []))
    (fun _ _ _ _ _ _ (l70 : List (List D)) =>
     chk (okR zr41 zo41 (t41 l70)) <|
     if !((asS (resC (t41 l70) 0 0)).toList == s.toList) then
      some ([.one (.l ([] : List (List D))), .one (.b false)], [])
     else
      some ([.one (.l l70), .one (.b true)], []))
    (fun l70 => chk (okR zr41 zo41 (t41 l70)) <|
     if !((asS (resC (t41 l70) 0 0)).toList == s.toList) then R0 else some ([.one (.l l70), .one (.b true)], []))
    (fun _ _ _ _ _ _ _ _ _ _ _ _ _ _ => rfl) (fun _ _ _ _ _ _ _ => rfl) (s.size + 1) 1 KK .undef .undef .undef .undef .undef [] (by omega) (by rw [KK_eq]; omega) (by omega) (by simp only [List.length_nil]; unfold lim; omega)
  -- its first byte
  have g0 : s.get! 0 = s.data.toList.getD 0 0 := get_is s 0 (by omega)
  have e102 : ∀ x : ByteArray, (⟨#[102]⟩ : ByteArray) ++ x = s → ((((s.get! (0 : Int).toNat).toNat) : Int) != (102 : Int)) = false := by
    intro x hx
    have : s.data.toList = 102 :: x.data.toList := by rw [← hx, ByteArray.data_append, Array.toList_append]; rfl
    show ((((s.get! 0).toNat) : Int) != (102 : Int)) = false
    rw [g0, this]; rfl
  have r102 : ((((s.get! (0 : Int).toNat).toNat) : Int) != (102 : Int)) = false → (⟨#[102]⟩ : ByteArray) ++ s.extract 1 s.size = s := by
    intro h
    have h' : ((((s.get! 0).toNat) : Int) != (102 : Int)) = false := h
    rw [g0, bne_eq_false_iff_eq] at h'
    have e : s.extract 0 1 = (⟨#[102]⟩ : ByteArray) := by
      have e1 := extract_is s 0 1
      have hl : 0 < s.data.toList.length := by have : s.data.toList.length = s.size := by simp
                                               omega
      cases hd : s.data.toList with
      | nil => rw [hd] at hl; simp at hl
      | cons c t =>
        rw [hd] at h' e1
        have hc : c = 102 := by
          have h2 : ((c.toNat : Nat) : Int) = 102 := by simpa using h'
          have : c.toNat = 102 := by omega
          exact UInt8.toNat_inj.1 this
        subst hc
        rw [ByteArray.toList_eq] at e1
        exact ByteArray.ext (Array.ext' e1)
    rw [← e]; exact extract_join s 1 (by omega)
  have wf1 : ∀ b, okR zr31 zo31 (some ([.one (.b b)], [])) = true := fun _ => rfl
  have wf2 : ∀ b, asB (resC (some ([.one (.b b)], [])) 0 0) = b := fun _ => rfl
  have wf3 : ∀ x, okR zr41 zo41 (some ([.one (.s x)], [])) = true := fun _ => rfl
  have wf4 : ∀ x, asS (resC (some ([.one (.s x)], [])) 0 0) = x := fun _ => rfl
  have hne : ((⟨#[]⟩ : ByteArray).toList == s.toList) = false := by
    rw [Bool.eq_false_iff]; intro h
    have := congrArg ByteArray.size ((toList_inj _ _).1 h)
    exact h0 this.symm
  have hspec : t50 s = if decide ((s.size : Int) > 1600) = true then R0 else (match rdF s (s.size + 1) 1 [] with | none => R0 | some l70 => chk (okR zr41 zo41 (t41 l70)) <| if !((asS (resC (t41 l70) 0 0)).toList == s.toList) then R0 else some ([.one (.l l70), .one (.b true)], [])) := by
    rw [← hsp]
    cases hg : decide ((s.size : Int) > 1600)
    · rw [hg] at hsp
      simp only [t50, n1, hg, Bool.false_or, Bool.false_eq_true, if_false]; rfl
    · simp only [t50, n1, hg, Bool.false_or, if_true]; rfl
  have himpl : t51 s = if ((((s.get! (0 : Int).toNat).toNat) : Int) != (102 : Int)) = true then R0 else (match rdF s (s.size + 1) 1 [] with | none => R0 | some l33 => chk (okR zr31 zo31 (t31 l33)) <| if (!(asB (resC (t31 l33) 0 0))) then R0 else some ([.one (.l l33), .one (.b true)], [])) := by
    rw [← hi]
    simp only [t51, n2, n3, n4, Bool.not_false, Bool.not_true, Bool.or_false, Bool.false_or, Bool.or_true, Bool.true_or, chk_true]
    rfl
  cases hm : rdF s (s.size + 1) 1 [] with
  | none =>
    rw [hm] at hspec himpl
    refine fin _ _ ?_ ?_
    · rw [hspec]; split <;> rfl
    · rw [himpl]; split <;> rfl
  | some l =>
    rw [hm] at hspec himpl
    obtain ⟨t, e1, e2, e3, e4⟩ := rdF_sound s hs _ 1 [] l (by omega) hm
    rw [List.nil_append] at e1
    subst e1
    have hl : l.length ≤ 1048576 := by omega
    obtain ⟨b, k1, k2⟩ := frameOk_both l e2 hl
    have k3 := showFrame_spec l e2 hl b k1
    simp only [k3, wf3, wf4, chk_true] at hspec
    simp only [k2, wf1, wf2, chk_true] at himpl
    cases b
    · simp only [Bool.false_eq_true, if_false, hne, Bool.not_false, if_true] at hspec himpl
      refine fin _ _ ?_ ?_
      · rw [hspec]; split <;> rfl
      · rw [himpl]; split <;> rfl
    · have hsm := frame_small l e2 hl k1
      have hcz := catS_size l
      simp only [if_true] at hspec
      cases hc : ((((s.get! (0 : Int).toNat).toNat) : Int) != (102 : Int))
      · have hjoin := r102 hc
        rw [← e3] at hjoin
        have hz : s.size ≤ 1525 := by
          rw [← hjoin, ByteArray.size_append]
          have : (⟨#[102]⟩ : ByteArray).size = 1 := rfl
          omega
        have d0 : decide ((s.size : Int) > 1600) = false := decide_eq_false (by omega)
        have d1 : (((⟨#[102]⟩ : ByteArray) ++ catS l).toList == s.toList) = true := by rw [hjoin]; exact beq_self_eq_true _
        simp only [d0, d1, Bool.false_eq_true, if_false, Bool.not_true] at hspec
        simp only [hc, Bool.false_eq_true, if_false, Bool.not_true] at himpl
        exact ⟨l, true, hspec, himpl, e2, hl⟩
      · have d1 : (((⟨#[102]⟩ : ByteArray) ++ catS l).toList == s.toList) = false := by
          rw [Bool.eq_false_iff]; intro h
          have := e102 _ ((toList_inj _ _).1 h)
          rw [hc] at this; cases this
        simp only [d1, Bool.not_false, if_true] at hspec
        simp only [hc, if_true] at himpl
        refine fin _ _ ?_ ?_
        · rw [hspec]; split <;> rfl
        · rw [himpl]
theorem law12 (s : ByteArray) (hw : s.size ≤ maxLen) : t12 s = some ([.one (.b true)], []) := by
  by_cases hs : (s.size : Int) > 1048576
  · simp only [t12, hs, decide_true, if_true]
  obtain ⟨l, b, k1, k2, ht, hl⟩ := readFrame_both s (by omega)
  have hlen : ∀ r ∈ l, r.length = 9 := fun r hr => typL_len _ r (ht r hr)
  have f1 := markSlotS_eq l hlen (by omega) 1 (by omega) (by omega)
  have f2 := heldSlotS_eq l (by omega) 1 (by omega) (by omega)
  have w1 : ∀ x y, okR zr50 zo50 (some ([.one (.l x), .one (.b y)], [])) = true := fun _ _ => rfl
  have w2 : ∀ x y, okR zr51 zo51 (some ([.one (.l x), .one (.b y)], [])) = true := fun _ _ => rfl
  have nn : decide (1 + 9 * (l.length : Int) < 0) = false := decide_eq_false (by omega)
  simp only [t12, hs, decide_false, Bool.false_eq_true, if_false, k1, k2, w1, w2, eqSlotS_self l ht hl, f1, f2, nn, zr32, zo32, zr52, zo52, zr53, zo53, zr50, zo50, zr51, zo51, decide_true, okR, isVs, isV, isD, isDs, isOs, resC, outC, nthR, nthO, cellsDV, nthD, asB, asI, asS, asL, Bool.and_true, Bool.true_and, BEq.rfl, chk_true, bne_self_eq_false, Bool.not_true, Bool.or_self, Bool.false_or]
end Go.Den.L12
