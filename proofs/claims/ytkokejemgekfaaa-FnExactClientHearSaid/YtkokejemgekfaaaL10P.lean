/- Plain laws about what the functions compute; no condition. -/
import Derived.Test.YtkokejemgekfaaaL10Tw
import Derived.IntWalk
set_option linter.unusedVariables false
set_option linter.unusedSimpArgs false
/- How twins are taken apart. -/
namespace Go.Den.L10
open Go Go.IntWalk
theorem chk_true (x : Rs) : chk true x = x := rfl
theorem chk_ok {b : Bool} (h : b = true) (x : Rs) : chk b x = x := by rw [h]; rfl
attribute [simp] chk_true okR isVs isV isD isDs isOs resC outC nthR nthO cellsDV nthD asB asI asS asL
theorem bool_some (a b : Bool) (h : a = b) : (some ([DV.one (.b a)], ([] : List (List D))) : Rs) = some ([.one (.b b)], []) := by rw [h]
theorem nil_toList : (⟨#[]⟩ : ByteArray).toList = [] := by rw [ByteArray.toList_eq]
theorem toList_nil (s : ByteArray) : s.toList = [] ↔ (s.size : Int) = 0 := by
  have e : s.size = s.data.toList.length := by rw [Array.length_toList]; rfl
  rw [ByteArray.toList_eq, e]
  cases s.data.toList <;> simp <;> omega
theorem toList_isEmpty (s : ByteArray) : s.toList.isEmpty = decide ((s.size : Int) = 0) := by
  rw [Bool.eq_iff_iff, List.isEmpty_iff, toList_nil]; simp
attribute [simp] nil_toList toList_nil toList_isEmpty
theorem KK_eq : KK = 18446744073709551616 := Classical.choose_spec (⟨2 ^ 64, rfl⟩ : ∃ n : Nat, n = 2 ^ 64)
theorem w64_in (n : Int) (h : -9223372036854775808 ≤ n ∧ n ≤ 9223372036854775807) : w64 n = n := i64_in n h
theorem getD_in {l : List (List D)} {i : Nat} (hi : i < l.length) : l.getD i [] = l[i] := by simp [List.getD, hi]
theorem getD_row {l : List (List D)} {es : List Sh} (h : ∀ r ∈ l, typL es r) {i : Nat} (hi : i < l.length) : typL es (l.getD i []) := by
  rw [getD_in hi]; exact h _ (List.getElem_mem hi)
theorem w64_succ (i : Nat) (h : i < 4611686018427387904) : w64 ((i : Int) + 1) = ((i + 1 : Nat) : Int) := by
  rw [w64_in _ (by omega)]; rfl
theorem within_eq (a b c : Int) : t62 a b c = some ([.one (.b (decide (b ≤ a) && decide (a ≤ c)))], []) := rfl
theorem in_eq (a b c : Int) : t60 a b c = some ([.one (.b (decide (b ≤ a) && decide (a ≤ c)))], []) := rfl
end Go.Den.L10

/- Calls, slots. -/
namespace Go.Den.L10
open Go
def callOk (k : Int) (p t : ByteArray) (n m : Int) (d : ByteArray) : Bool :=
  decide (1 ≤ k ∧ k ≤ 22 ∧ (p.size : Int) ≤ 60 ∧ (t.size : Int) ≤ 60 ∧ (d.size : Int) ≤ 64 ∧ -1000000 ≤ n ∧ n ≤ 1000000 ∧ -1000000 ≤ m ∧ m ≤ 1000000 ∧ ((t.size : Int) = 0 ∨ k = 9 ∨ k = 10 ∨ k = 12) ∧ ((d.size : Int) = 0 ∨ k = 5 ∨ k = 6))
theorem callOk_spec (k : Int) (p t : ByteArray) (n m : Int) (d : ByteArray) : t61 k p t n m d = some ([.one (.b (callOk k p t n m d))], []) := by
  simp [-ByteArray.size_eq_zero_iff, t61, in_eq, zr60, zo60, nil_toList, callOk]
  (repeat' split) <;> (apply bool_some; rw [Bool.eq_iff_iff]; simp [-ByteArray.size_eq_zero_iff]; omega)
theorem callOk_impl (k : Int) (p t : ByteArray) (n m : Int) (d : ByteArray) : t63 k p t n m d = some ([.one (.b (callOk k p t n m d))], []) := by
  simp [-ByteArray.size_eq_zero_iff, t63, within_eq, zr62, zo62, nil_toList, callOk]
  (repeat' split) <;> (apply bool_some; rw [Bool.eq_iff_iff]; simp [-ByteArray.size_eq_zero_iff]; omega)
end Go.Den.L10

/- Slots; sizes. -/
namespace Go.Den.L10
open Go
theorem toCall_eq (k : Int) (p t : ByteArray) (n m : Int) (d : ByteArray) : t25 k p t n m d = some ([.agg [.i .i64 k, .s p, .s t, .i .i64 n, .i .i64 m, .s d]], []) := rfl
theorem szCall_eq (k : Int) (p t : ByteArray) (n m : Int) (d : ByteArray) (z : Int) : ∃ y, t23 k p t n m d z = some ([.one (.i .i64 y)], []) := by
  simp only [t23]; (repeat' split) <;> exact ⟨_, rfl⟩
end Go.Den.L10

/- Clients. -/
namespace Go.Den.L10
open Go
def clientOk (a b c : Int) (w : Bool) (k : Int) (p t : ByteArray) (n m : Int) (d : ByteArray) (e : Int) : Bool :=
  decide (0 ≤ a ∧ a ≤ 2 ∧ 1 ≤ b ∧ b ≤ 3 ∧ 0 ≤ c ∧ c ≤ 1000000 ∧ 0 ≤ e ∧ e ≤ 1000000) && (if w then decide (1 ≤ c) && callOk k p t n m d else decide (k = 0 ∧ (p.size : Int) = 0 ∧ (t.size : Int) = 0 ∧ n = 0 ∧ m = 0 ∧ (d.size : Int) = 0 ∧ e = 0))
theorem clientOk_spec (a b c : Int) (w : Bool) (k : Int) (p t : ByteArray) (n m : Int) (d : ByteArray) (e : Int) : t20 a b c w k p t n m d e = some ([.one (.b (clientOk a b c w k p t n m d e))], []) := by
  have e1 : ∀ n, t64 n = some ([.one (.b (decide (0 ≤ n) && decide (n < 3)))], []) := fun _ => rfl
  simp [-ByteArray.size_eq_zero_iff, t20, e1, in_eq, callOk_spec, zr60, zo60, zr64, zo64, zr61, zo61, clientOk]
  (repeat' split) <;> (apply bool_some; rw [Bool.eq_iff_iff]; simp [-ByteArray.size_eq_zero_iff]; try omega)
theorem clientOk_impl (a b c : Int) (w : Bool) (k : Int) (p t : ByteArray) (n m : Int) (d : ByteArray) (e : Int) : t22 a b c w k p t n m d e = some ([.one (.b (clientOk a b c w k p t n m d e))], []) := by
  simp [-ByteArray.size_eq_zero_iff, t22, within_eq, callOk_impl, zr62, zo62, zr63, zo63, clientOk]
  (repeat' split) <;> (apply bool_some; rw [Bool.eq_iff_iff]; simp [-ByteArray.size_eq_zero_iff]; try omega)
theorem toClient_eq (a b c : Int) (w : Bool) (k : Int) (p t : ByteArray) (n m : Int) (d : ByteArray) (e : Int) : t21 a b c w k p t n m d e = some ([.agg [.i .i64 a, .i .i64 b, .i .i64 c, .b w, .i .i64 k, .s p, .s t, .i .i64 n, .i .i64 m, .s d, .i .i64 e]], []) := rfl
theorem szClient_eq (a b c : Int) (w : Bool) (k : Int) (p t : ByteArray) (n m : Int) (d : ByteArray) (e z : Int) : ∃ y, t19 a b c w k p t n m d e z = some ([.one (.i .i64 y)], []) := by
  obtain ⟨y, hy⟩ := szCall_eq k p t n m d z
  simp [-ByteArray.size_eq_zero_iff, t19, hy, zr23, zo23]; (repeat' split) <;> exact ⟨_, rfl⟩
theorem eqCall_self (k : Int) (p t : ByteArray) (n m : Int) (d : ByteArray) : t65 k p t n m d k p t n m d = some ([.one (.b true)], []) := by
  simp [t65]
theorem eqClient_self (a b c : Int) (w : Bool) (k : Int) (p t : ByteArray) (n m : Int) (d : ByteArray) (e : Int) : t27 a b c w k p t n m d e a b c w k p t n m d e = some ([.one (.b true)], []) := by
  simp [t27, eqCall_self, zr65, zo65]
end Go.Den.L10

/- Whole numbers as bytes; calls as bytes. -/
namespace Go.Den.L10
open Go Go.IntWalk
theorem ofInt_nat (n : Nat) (h : n < 2 ^ 64) : (BitVec.ofInt 64 (n : Int)).toNat = n := by
  rw [BitVec.toNat_ofInt]; omega
theorem orand (n : Nat) (h : n < 2 ^ 62) : bitOr .i64 (bitAnd .i64 (n : Int) 127) 128 = 128 + (n : Int) % 128 := by
  have e1 : bitAnd .i64 (n : Int) 127 = ((n % 128 : Nat) : Int) := by
    unfold bitAnd
    show IntKind.wrap .i64 (((BitVec.ofInt 64 (n : Int)) &&& (BitVec.ofInt 64 ((127 : Nat) : Int))).toNat : Int) = _
    rw [BitVec.toNat_and, ofInt_nat n (by omega), ofInt_nat 127 (by omega), show (127 : Nat) = 2 ^ 7 - 1 by rfl, Nat.and_two_pow_sub_one_eq_mod, i64_in _ (by omega)]
  rw [e1]
  unfold bitOr
  show IntKind.wrap .i64 (((BitVec.ofInt 64 ((n % 128 : Nat) : Int)) ||| (BitVec.ofInt 64 ((128 : Nat) : Int))).toNat : Int) = _
  have e2 : 2 ^ 7 + n % 128 = 2 ^ 7 ||| n % 128 := by
    have := Nat.two_pow_add_eq_or_of_lt (i := 7) (b := n % 128) (by omega) 1
    simpa using this
  rw [BitVec.toNat_or, ofInt_nat _ (by omega), ofInt_nat 128 (by omega), Nat.or_comm, show (128 : Nat) = 2 ^ 7 by rfl, ← e2, i64_in _ (by omega)]
  omega
/-- A whole number's bytes: what is left, what stands. -/
def vp : Nat → Int → List (List D) → Int × List (List D)
  | 0, n, l => (n, l)
  | k + 1, n, l => if n ≥ 128 then vp k (n / 128) (l ++ [[.i .u8 (128 + n % 128)]]) else (n, l)
theorem isBytes_snoc : ∀ {l : List (List D)} {x : Int}, isBytes l = true → isBytes (l ++ [[.i .u8 x]]) = true
  | [], x, _ => rfl
  | r :: l, x, h => by
    unfold isBytes at h
    split at h
    · rename_i e; cases e
    · rename_i e; cases e; simp only [List.cons_append, isBytes]; exact isBytes_snoc h
    · cases h
theorem bytesD_len : ∀ (l : List (List D)), (bytesD l).length ≤ l.length
  | [] => by simp [bytesD]
  | r :: l => by
    unfold bytesD
    split
    · rename_i e; cases e; simpa using bytesD_len l
    · simp
theorem vp_is : ∀ (k : Nat) (n : Int) (l : List (List D)), isBytes l = true → isBytes (vp k n l).2 = true ∧ (vp k n l).2.length ≤ l.length + k
  | 0, n, l, h => ⟨h, Nat.le_refl _⟩
  | k + 1, n, l, h => by
    unfold vp
    split
    · have := vp_is k (n / 128) (l ++ [[.i .u8 (128 + n % 128)]]) (isBytes_snoc h)
      simp only [List.length_append, List.length_cons, List.length_nil] at this
      exact ⟨this.1, by omega⟩
    · exact ⟨h, by simp only; omega⟩
theorem tdiv_pos (n : Int) (h : 0 ≤ n) : n.tdiv 128 = n / 128 := Int.tdiv_eq_ediv_of_nonneg h
theorem tmod_pos (n : Int) (h : 0 ≤ n) : n.tmod 128 = n % 128 := Int.tmod_eq_emod_of_nonneg h
theorem spec_loop (q : Int → Bool → List (List D) → Rs) (s0 : ByteArray) (b0 : Bool) : ∀ (k m : Nat) (n : Int) (v : SV) (l : List (List D)), 0 ≤ n → n < 128 ^ (k + 1) → n < 4611686018427387904 → k < m → l.length + k < 1000 →
    l89o1 s0 b0 q m n v l = q (vp k n l).1 false (vp k n l).2 := by
  intro k
  induction k with
  | zero =>
    intro m n v l h0 h1 h2 h3 h4
    obtain ⟨m, rfl⟩ : ∃ m', m = m' + 1 := ⟨m - 1, by omega⟩
    have e : ¬ n ≥ 128 := by omega
    simp [l89o1, e, vp]
  | succ k ih =>
    intro m n v l h0 h1 h2 h3 h4
    obtain ⟨m, rfl⟩ : ∃ m', m = m' + 1 := ⟨m - 1, by omega⟩
    by_cases e : n ≥ 128
    · simp only [l89o1, vp, e, decide_true, if_true, tmod_pos n h0, tdiv_pos n h0]
      rw [w64_in (n / 128) (by omega), w64_in (128 + n % 128) (by omega), u8_in _ (by omega), chk_ok (by simp [flatR, allSc, isSc, lim]; omega)]
      refine ih m (n / 128) _ _ (by omega) ?_ (by omega) (by omega) (by simp; omega)
      rw [Int.ediv_lt_iff_lt_mul (by omega)]
      rw [Int.pow_succ] at h1
      exact h1
    · simp [l89o1, e, vp]
/-- A whole number as a text. -/
def varS (n : Int) : ByteArray := if 0 ≤ n ∧ n ≤ 562949953421311 then ⟨(bytesD ((vp 6 n []).2 ++ [[.i .u8 (IntKind.wrap .u8 (vp 6 n []).1)]])).toArray⟩ else ⟨#[]⟩
theorem varS_size (n : Int) : (varS n).size ≤ 10 := by
  unfold varS
  split
  · have h := (vp_is 6 n [] rfl).2
    have h2 := bytesD_len ((vp 6 n []).2 ++ [[.i .u8 (IntKind.wrap .u8 (vp 6 n []).1)]])
    simp only [List.length_append, List.length_cons, List.length_nil] at h h2
    show (List.toArray _).size ≤ 10
    simp only [List.size_toArray]
    omega
  · exact Nat.zero_le _
theorem var_spec (n : Int) : t89 n = some ([.one (.s (varS n))], []) := by
  unfold t89 varS
  simp only [in_eq, zr60, zo60]
  by_cases h : 0 ≤ n ∧ n ≤ 562949953421311
  · simp [h]
    rw [spec_loop _ _ _ 6 KK n .undef [] h.1 (by omega) (by omega) (by rw [KK_eq]; omega) (by simp)]
    have h1 := vp_is 6 n [] rfl
    simp only [List.length_nil] at h1
    rw [chk_ok (by simp [flatR, allSc, isSc, lim]; omega), chk_ok (isBytes_snoc h1.1)]
  · have : ((decide (0 ≤ n) && decide (n ≤ 562949953421311)) = false) := by simpa using h
    simp [h, this]
def zig (n : Int) : Int := if n < 0 then w64 (w64 (-2 * n) - 1) else w64 (2 * n)
def pieceS (s : ByteArray) : ByteArray := varS (s.size : Int) ++ s
theorem pieceS_size (s : ByteArray) : (pieceS s).size ≤ 10 + s.size := by
  unfold pieceS; rw [ByteArray.size_append]; have := varS_size (s.size : Int); omega
end Go.Den.L10

/- Whole numbers read from bytes. -/
namespace Go.Den.L10
open Go Go.IntWalk
def val : List UInt8 → Nat | [] => 0 | b :: t => b.toNat % 128 + 128 * val t
def enc : Nat → Nat → List UInt8
  | 0, n => [UInt8.ofNat n]
  | k + 1, n => if n ≥ 128 then UInt8.ofNat (128 + n % 128) :: enc k (n / 128) else [UInt8.ofNat n]
def good : List UInt8 → Bool
  | [] => false
  | [b] => decide (b.toNat < 128)
  | b :: c :: t => decide (b.toNat ≥ 128) && (decide (0 < val (c :: t)) && good (c :: t))
theorem ofNat_is (x : Nat) (b : UInt8) (hx : x < 256) : UInt8.ofNat x = b ↔ x = b.toNat := by
  constructor
  · intro h; subst h; simp; omega
  · intro h; subst h; simp
theorem enc_good : ∀ (t : List UInt8) (k : Nat), t.length ≤ k + 1 → (enc k (val t) = t ↔ good t = true)
  | [], k, _ => by
    cases k <;> simp [enc, val, good]
  | [b], k, _ => by
    have hb := b.toNat_lt
    have e : enc k (b.toNat % 128 + 128 * 0) = [UInt8.ofNat (b.toNat % 128)] := by
      cases k with
      | zero => rfl
      | succ k => simp only [enc]; rw [if_neg (by omega)]; simp
    simp only [val, e, good, List.cons.injEq, and_true, decide_eq_true_eq]
    rw [ofNat_is _ _ (by omega)]
    omega
  | b :: c :: t, k, h => by
    have hb := b.toNat_lt
    obtain ⟨k, rfl⟩ : ∃ k', k = k' + 1 := ⟨k - 1, by simp at h; omega⟩
    have ih := enc_good (c :: t) k (by simp at h ⊢; omega)
    have e : val (b :: c :: t) = b.toNat % 128 + 128 * val (c :: t) := rfl
    generalize hv : val (c :: t) = v at *
    simp only [good, hv, Bool.and_eq_true, decide_eq_true_eq]
    rw [e]
    simp only [enc]
    by_cases hz : v = 0
    · rw [if_neg (by omega)]
      simp; omega
    · rw [if_pos (by omega), show (b.toNat % 128 + 128 * v) / 128 = v by omega, show (b.toNat % 128 + 128 * v) % 128 = b.toNat % 128 by omega]
      simp only [List.cons.injEq, ih]
      rw [ofNat_is _ _ (by omega)]
      constructor
      · rintro ⟨h1, h2⟩; exact ⟨by omega, by omega, h2⟩
      · rintro ⟨h1, h2, h3⟩; exact ⟨by omega, h3⟩
theorem val_take : ∀ (bs : List UInt8) (i : Nat), i < bs.length → val (bs.take (i + 1)) = val (bs.take i) + 128 ^ i * ((bs.getD i 0).toNat % 128)
  | [], i, h => by simp at h
  | b :: t, 0, _ => by simp [val]
  | b :: t, i + 1, h => by
    have ih := val_take t i (by simpa using h)
    simp only [List.take_succ_cons, val, ih, List.getD_cons_succ]
    rw [Nat.pow_succ, Nat.mul_add, Nat.mul_comm (128 ^ i) 128, Nat.mul_assoc]
    omega
theorem val_lt : ∀ (t : List UInt8), val t < 128 ^ t.length
  | [] => by simp [val]
  | b :: t => by
    have := val_lt t
    simp only [val, List.length_cons, Nat.pow_succ]
    omega
theorem good_take : ∀ (bs : List UInt8) (i : Nat), i < bs.length → (∀ j, j < i → (bs.getD j 0).toNat ≥ 128) → (good (bs.take (i + 1)) = true ↔ (bs.getD i 0).toNat < 128 ∧ (i = 0 ∨ (bs.getD i 0).toNat ≠ 0))
  | [], i, h, _ => by simp at h
  | b :: t, 0, _, _ => by simp [good]
  | b :: t, i + 1, h, hj => by
    have hi : i < t.length := by simpa using h
    have ih := good_take t i hi (fun j hj' => by simpa using hj (j + 1) (by omega))
    have hb : b.toNat ≥ 128 := by simpa using hj 0 (by omega)
    have hv := val_take t i hi
    obtain ⟨c, t', ht⟩ : ∃ c t', t.take (i + 1) = c :: t' := by
      cases t with
      | nil => simp at hi
      | cons c t => exact ⟨c, _, rfl⟩
    simp only [List.take_succ_cons, List.getD_cons_succ]
    rw [ht] at ih hv ⊢
    simp only [good, Bool.and_eq_true, decide_eq_true_eq, ih]
    have hp : 0 < 128 ^ i := Nat.pow_pos (by omega)
    constructor
    · rintro ⟨_, h2, h3, h4⟩
      refine ⟨h3, .inr ?_⟩
      rcases h4 with rfl | h4
      · intro hz
        rw [hz] at hv
        simp at hv
        have h0 : val ([] : List UInt8) = 0 := rfl
        omega
      · exact h4
    · rintro ⟨h1, h2⟩
      have h2 : (t.getD i 0).toNat ≠ 0 := by rcases h2 with h2 | h2; omega; exact h2
      refine ⟨hb, ?_, h1, .inr h2⟩
      have : 0 < 128 ^ i * ((t.getD i 0).toNat % 128) := Nat.mul_pos hp (by omega)
      omega
theorem good_in : ∀ (t : List UInt8), good t = true → ∀ j, j + 1 < t.length → (t.getD j 0).toNat ≥ 128
  | [], h, _, _ => by simp [good] at h
  | [b], _, j, hj => by simp at hj
  | b :: c :: t, h, j, hj => by
    simp only [good, Bool.and_eq_true, decide_eq_true_eq] at h
    cases j with
    | zero => simpa using h.1
    | succ j => simpa using good_in (c :: t) h.2.2 j (by simpa using hj)
theorem bytesD_snoc : ∀ {l : List (List D)} {x : Int}, isBytes l = true → bytesD (l ++ [[.i .u8 x]]) = bytesD l ++ [UInt8.ofNat x.toNat]
  | [], x, _ => rfl
  | r :: l, x, h => by
    unfold isBytes at h
    split at h
    · rename_i e; cases e
    · rename_i e; cases e; simp only [List.cons_append, bytesD]; rw [bytesD_snoc h]
    · cases h
theorem vp_enc : ∀ (k : Nat) (n : Int) (l : List (List D)), isBytes l = true → 0 ≤ n → n < 128 ^ (k + 1) → bytesD ((vp k n l).2 ++ [[.i .u8 (IntKind.wrap .u8 (vp k n l).1)]]) = bytesD l ++ enc k n.toNat
  | 0, n, l, h, h0, h1 => by
    simp only [vp, enc]
    rw [u8_in _ (by omega), bytesD_snoc h]
  | k + 1, n, l, h, h0, h1 => by
    unfold vp
    by_cases g : n ≥ 128
    · rw [if_pos g, vp_enc k (n / 128) _ (isBytes_snoc h) (by omega) (by
        rw [Int.ediv_lt_iff_lt_mul (by omega)]; rw [Int.pow_succ] at h1; exact h1), bytesD_snoc h]
      simp only [enc]
      rw [if_pos (by omega), List.append_assoc, show (128 + n % 128).toNat = 128 + n.toNat % 128 by omega, show (n / 128).toNat = n.toNat / 128 by omega]
      rfl
    · rw [if_neg g]
      simp only
      rw [u8_in _ (by omega), bytesD_snoc h]
      simp only [enc]
      rw [if_neg (by omega)]
theorem varS_enc (n : Int) (h0 : 0 ≤ n) (h1 : n ≤ 562949953421311) : (varS n).toList = enc 6 n.toNat := by
  unfold varS
  rw [if_pos ⟨h0, h1⟩, ByteArray.toList_eq]
  simp only [vp_enc 6 n [] rfl h0 (by omega), bytesD, List.nil_append]
/-- What is read from the bytes behind the i-th, those before it being 128 and more. -/
def rdL (bs : List UInt8) : Nat → Nat → Int × Int
  | 0, _ => (0, 0)
  | f + 1, i => if i < bs.length ∧ i < 7 then
      (if (bs.getD i 0).toNat ≥ 128 then rdL bs f (i + 1) else if (bs.getD i 0).toNat = 0 ∧ i > 0 then (0, 0) else (((val (bs.take (i + 1)) : Nat) : Int), ((i + 1 : Nat) : Int)))
    else (0, 0)
def rdV (s : ByteArray) : Int × Int := rdL s.data.toList 8 0
theorem get_is (s : ByteArray) (i : Nat) (h : i < s.size) : s.get! i = s.data.toList.getD i 0 := by
  have h' : i < s.data.size := h
  show s.data[i]! = _
  rw [getElem!_pos s.data i h']
  simp [List.getD, List.getElem?_eq_getElem (show i < s.data.toList.length by simpa using h')]
theorem extract_is (s : ByteArray) (a b : Nat) : (s.extract a b).toList = (s.data.toList.take b).drop a := by
  rw [ByteArray.toList_eq, ByteArray.data_extract, Array.toList_extract]
  simp [List.extract, List.drop_take]
theorem rdL_is (bs : List UInt8) : ∀ (f i : Nat), f + i = 8 → (∀ j, j < i → (bs.getD j 0).toNat ≥ 128) → rdL bs f i = (0, 0) ∨ ∃ k : Nat, 1 ≤ k ∧ k ≤ 7 ∧ k ≤ bs.length ∧ rdL bs f i = (((val (bs.take k) : Nat) : Int), (k : Int)) ∧ good (bs.take k) = true
  | 0, i, _, _ => .inl rfl
  | f + 1, i, e, hj => by
    unfold rdL
    by_cases h : i < bs.length ∧ i < 7
    · rw [if_pos h]
      by_cases g : (bs.getD i 0).toNat ≥ 128
      · rw [if_pos g]
        exact rdL_is bs f (i + 1) (by omega) (fun j hj' => by
          by_cases e' : j = i
          · subst e'; exact g
          · exact hj j (by omega))
      · rw [if_neg g]
        by_cases g2 : (bs.getD i 0).toNat = 0 ∧ i > 0
        · rw [if_pos g2]; exact .inl rfl
        · rw [if_neg g2]
          exact .inr ⟨i + 1, by omega, by omega, by omega, rfl, (good_take bs i h.1 hj).2 ⟨by omega, by omega⟩⟩
    · rw [if_neg h]; exact .inl rfl
theorem rdV_is (s : ByteArray) : rdV s = (0, 0) ∨ ∃ k : Nat, 1 ≤ k ∧ k ≤ 7 ∧ k ≤ s.size ∧ rdV s = (((val (s.data.toList.take k) : Nat) : Int), (k : Int)) ∧ good (s.data.toList.take k) = true := by
  have := rdL_is s.data.toList 8 0 rfl (by omega)
  have e : s.data.toList.length = s.size := by simp
  rw [e] at this
  exact this
theorem val_le (bs : List UInt8) (k : Nat) (h : k ≤ 7) : val (bs.take k) ≤ 562949953421311 := by
  have h1 := val_lt (bs.take k)
  have h2 : 128 ^ (bs.take k).length ≤ 128 ^ 7 := Nat.pow_le_pow_right (by omega) (by simp; omega)
  omega
/-- What was read is shown so again. -/
theorem rdV_back (s : ByteArray) (h : (rdV s).2 ≠ 0) : varS (rdV s).1 = s.extract 0 (rdV s).2.toNat := by
  rcases rdV_is s with h0 | ⟨k, h1, h2, h3, h4, h5⟩
  · rw [h0] at h; exact absurd rfl h
  · rw [h4]
    have hv := val_le s.data.toList k h2
    have e1 := varS_enc (val (s.data.toList.take k) : Nat) (by omega) (by omega)
    have e2 := (enc_good (s.data.toList.take k) 6 (by simp; omega)).2 h5
    have e3 := extract_is s 0 k
    simp only [Int.toNat_natCast] at e1 ⊢
    rw [e2] at e1
    simp only [List.drop_zero] at e3
    rw [← e1, ByteArray.toList_eq, ByteArray.toList_eq] at e3
    exact ByteArray.ext (Array.ext' e3.symm)
theorem rdV_rng (s : ByteArray) : 0 ≤ (rdV s).1 ∧ (rdV s).1 ≤ 562949953421311 ∧ 0 ≤ (rdV s).2 ∧ (rdV s).2 ≤ 7 ∧ (rdV s).2 ≤ (s.size : Int) := by
  rcases rdV_is s with h0 | ⟨k, h1, h2, h3, h4, h5⟩
  · rw [h0]; simp
  · have := val_le s.data.toList k h2
    rw [h4]; simp only; omega
theorem or_add (n b i : Nat) (hn : n < 2 ^ (7 * i)) (hb : b < 128) (hi : i ≤ 6) : bitOr .i64 (n : Int) ((b * 2 ^ (7 * i) : Nat) : Int) = ((n + b * 2 ^ (7 * i) : Nat) : Int) := by
  have h7 : 2 ^ (7 * i) ≤ 2 ^ 42 := Nat.pow_le_pow_right (by omega) (by omega)
  have h8 : b * 2 ^ (7 * i) ≤ 127 * 2 ^ 42 := Nat.mul_le_mul (by omega) h7
  have h9 : 2 ^ (7 * i) * b = b * 2 ^ (7 * i) := Nat.mul_comm _ _
  unfold bitOr
  show IntKind.wrap .i64 (((BitVec.ofInt 64 (n : Int)) ||| (BitVec.ofInt 64 ((b * 2 ^ (7 * i) : Nat) : Int))).toNat : Int) = _
  have e2 : 2 ^ (7 * i) * b + n = 2 ^ (7 * i) * b ||| n := Nat.two_pow_add_eq_or_of_lt hn b
  rw [BitVec.toNat_or, ofInt_nat _ (by omega), ofInt_nat _ (by omega), Nat.or_comm, ← h9, ← e2, i64_in _ (by omega), h9]
  omega
theorem and127 (n : Nat) (h : n < 256) : bitAnd .i64 (n : Int) 127 = ((n % 128 : Nat) : Int) := by
  unfold bitAnd
  show IntKind.wrap .i64 (((BitVec.ofInt 64 (n : Int)) &&& (BitVec.ofInt 64 ((127 : Nat) : Int))).toNat : Int) = _
  rw [BitVec.toNat_and, ofInt_nat n (by omega), ofInt_nat 127 (by omega), show (127 : Nat) = 2 ^ 7 - 1 by rfl, Nat.and_two_pow_sub_one_eq_mod, i64_in _ (by omega)]
theorem rdI_loop (s : ByteArray) (n8 n9 : Int) (q1 : Int → Int → Int → Int → Int → Bool → Bool → Bool → Rs) (q2 : Int → Int → SV → Bool → SV → Rs)
    (h1 : ∀ a b c d e f g h, q1 a b c d e f g h = some ([.one (.i .i64 a), .one (.i .i64 b)], [])) (h2 : ∀ a b c d e, q2 a b c d e = some ([.one (.i .i64 0), .one (.i .i64 0)], [])) :
    ∀ (f i m : Nat) (u v w : SV), f + i = 8 → 8 < m + i → (∀ j, j < i → (s.data.toList.getD j 0).toNat ≥ 128) →
    l86o0 s n8 n9 q1 q2 m ((val (s.data.toList.take i) : Nat) : Int) i u v w = some ([.one (.i .i64 (rdL s.data.toList f i).1), .one (.i .i64 (rdL s.data.toList f i).2)], []) := by
  have e0 : s.data.toList.length = s.size := by simp
  intro f
  induction f with
  | zero =>
    intro i m u v w e hm hj
    obtain ⟨m, rfl⟩ : ∃ m', m = m' + 1 := ⟨m - 1, by omega⟩
    have ei : decide ((i : Int) < 7) = false := by simp; omega
    simp only [l86o0, ei, Bool.and_false, Bool.false_eq_true, if_false, h2, rdL]
  | succ f ih =>
    intro i m u v w e hm hj
    obtain ⟨m, rfl⟩ : ∃ m', m = m' + 1 := ⟨m - 1, by omega⟩
    by_cases h : i < s.data.toList.length ∧ i < 7
    · have a1 : decide ((i : Int) < (s.size : Int)) = true := by rw [e0] at h; simp; omega
      have a2 : decide ((i : Int) < 7) = true := by simp; omega
      have a3 : decide ((0 : Int) ≤ (i : Int) ∧ (i : Int) < (s.size : Int)) = true := by rw [e0] at h; simp; omega
      have a4 : w64 (7 * (i : Int)) = ((7 * i : Nat) : Int) := by rw [w64_in _ (by omega)]; omega
      have a5 : decide ((0 : Int) ≤ ((7 * i : Nat) : Int)) = true := decide_eq_true (by omega)
      have hb := (s.data.toList.getD i 0).toNat_lt
      have hg := get_is s i (by omega)
      have hv := val_take s.data.toList i h.1
      have hlt := val_lt (s.data.toList.take i)
      have hl' : (s.data.toList.take i).length = i := by simp only [List.length_take]; omega
      rw [hl'] at hlt
      have e128 : (128 : Nat) ^ i = 2 ^ (7 * i) := by rw [show (128 : Nat) = 2 ^ 7 from rfl, ← Nat.pow_mul]
      have h7 : 2 ^ (7 * i) ≤ 2 ^ 42 := Nat.pow_le_pow_right (by omega) (by omega)
      generalize hbb : (s.data.toList.getD i 0).toNat = b at *
      have a6 : w64 (b : Int) = (b : Int) := w64_in _ (by omega)
      have a7 : min (7 * i) (IntKind.bits .i64) = 7 * i := Nat.min_eq_left (by show 7 * i ≤ 64; omega)
      have h8 : b % 128 * 2 ^ (7 * i) ≤ 127 * 2 ^ 42 := Nat.mul_le_mul (by omega) h7
      have a8 : w64 (((b % 128 : Nat) : Int) * 2 ^ (7 * i)) = ((b % 128 * 2 ^ (7 * i) : Nat) : Int) := by
        have : ((b % 128 : Nat) : Int) * 2 ^ (7 * i) = ((b % 128 * 2 ^ (7 * i) : Nat) : Int) := by simp
        rw [this, w64_in _ (by omega)]
      have a9 : bitOr .i64 ((val (s.data.toList.take i) : Nat) : Int) ((b % 128 * 2 ^ (7 * i) : Nat) : Int) = ((val (s.data.toList.take (i + 1)) : Nat) : Int) := by
        rw [or_add _ _ i (by omega) (by omega) (by omega), hv, e128, Nat.mul_comm (b % 128)]
      simp only [l86o0, a1, a2, a3, a4, a5, Int.toNat_natCast, hg, hbb, a6, and127 b hb, a7, a8, a9, Bool.and_true, chk_true, if_true, rdL]
      rw [if_pos h]
      by_cases g : b ≥ 128
      · have g' : decide ((b : Int) > 127) = true := by simp; omega
        simp only [g', if_true, hbb, if_pos g]
        rw [w64_succ i (by omega)]
        exact ih (i + 1) m _ _ _ (by omega) (by omega) (fun j hj' => by
          by_cases e' : j = i
          · subst e'; omega
          · exact hj j (by omega))
      · have g' : decide ((b : Int) > 127) = false := by simp; omega
        simp only [g', Bool.false_eq_true, if_false, hbb, if_neg g]
        by_cases g2 : b = 0 ∧ i > 0
        · have g3 : (((b : Int) == 0) && decide ((i : Int) > 0)) = true := by simp; omega
          simp only [g3, if_true, h1, if_pos g2]
        · have g3 : (((b : Int) == 0) && decide ((i : Int) > 0)) = false := by
            rw [Bool.eq_false_iff]; simp; omega
          simp only [g3, Bool.false_eq_true, if_false, h1, if_neg g2, w64_succ i (by omega)]
    · have a1 : (decide ((i : Int) < (s.size : Int)) && decide ((i : Int) < 7)) = false := by
        rw [e0] at h; rw [Bool.eq_false_iff]; simp; omega
      simp only [l86o0, a1, Bool.false_eq_true, if_false, h2, rdL, if_neg h]
theorem readVar_impl (s : ByteArray) : t86 s = some ([.one (.i .i64 (rdV s).1), .one (.i .i64 (rdV s).2)], []) :=
  rdI_loop s 0 0 (fun n36 n37 _ _ _ _ _ _ => some ([.one (.i .i64 n36), .one (.i .i64 n37)], [])) (fun _ _ _ _ _ => some ([.one (.i .i64 0), .one (.i .i64 0)], [])) (fun _ _ _ _ _ _ _ _ => rfl) (fun _ _ _ _ _ => rfl) 8 0 KK .undef .undef .undef rfl (by rw [KK_eq]; omega) (by omega)
theorem rdS_in (s : ByteArray) (n54 n55 n56 : Int) (b59 : Bool) (q : Int → Int → Bool → SV → Rs) (k : Nat) (hk : k ≤ 7) (hks : k ≤ s.size) : ∀ (j m n : Nat) (v w : SV), j ≤ k → j < m → n < 128 ^ (k - j) →
    ∃ d, l84o2 s n54 n55 n56 b59 q m (n : Int) ((j : Int) - 1) v w = q ((n * 128 ^ j + val (s.data.toList.take j) : Nat) : Int) (-1) false d := by
  intro j
  induction j with
  | zero =>
    intro m n v w hj hm hn
    obtain ⟨m, rfl⟩ : ∃ m', m = m' + 1 := ⟨m - 1, by omega⟩
    exact ⟨_, by simp [l84o2, val]; rfl⟩
  | succ j ih =>
    intro m n v w hj hm hn
    obtain ⟨m, rfl⟩ : ∃ m', m = m' + 1 := ⟨m - 1, by omega⟩
    have e0 : s.data.toList.length = s.size := by simp
    have a0 : (((j + 1 : Nat) : Int) - 1) = (j : Int) := by omega
    have a1 : decide ((j : Int) ≥ 0) = true := by simp
    have a3 : decide ((0 : Int) ≤ (j : Int) ∧ (j : Int) < (s.size : Int)) = true := by simp; omega
    have hg := get_is s j (by omega)
    have hv := val_take s.data.toList j (by omega)
    have hb := (s.data.toList.getD j 0).toNat_lt
    generalize hbb : (s.data.toList.getD j 0).toNat = b at *
    have hn7 : 128 ^ (k - (j + 1)) ≤ 128 ^ 6 := Nat.pow_le_pow_right (by omega) (by omega)
    have hp : n * 128 < 128 ^ (k - j) := by rw [show k - j = (k - (j + 1)) + 1 by omega, Nat.pow_succ]; omega
    have a6 : w64 (b : Int) = (b : Int) := w64_in _ (by omega)
    have a7 : w64 (w64 ((n : Int) * 128) + ((b : Int)).tmod 128) = ((n * 128 + b % 128 : Nat) : Int) := by
      rw [Int.tmod_eq_emod_of_nonneg (by omega), w64_in ((n : Int) * 128) (by omega), w64_in _ (by omega)]; omega
    have a8 : w64 ((j : Int) - 1) = (j : Int) - 1 := w64_in _ (by omega)
    have hq : (n * 128 + b % 128) < 128 ^ (k - j) := by
      rw [show k - j = (k - (j + 1)) + 1 by omega, Nat.pow_succ] at hp ⊢; omega
    obtain ⟨d, hd⟩ := ih m (n * 128 + b % 128) (.d (.b true)) (keepV [] w) (by omega) (by omega) hq
    refine ⟨d, ?_⟩
    simp only [l84o2, a0, a1, a3, Int.toNat_natCast, hg, hbb, a6, a7, a8, chk_true, if_true]
    rw [hd]
    congr 2
    rw [hv, Nat.add_mul, Nat.pow_succ, Nat.mul_assoc, Nat.mul_comm 128 (128 ^ j), Nat.mul_comm (b % 128)]
    omega
theorem rdS_step (s : ByteArray) (n36 n37 : Int) (q1 : Int → Int → Int → Bool → Bool → Bool → Rs) (q2 : Int → SV → SV → Bool → SV → SV → Rs) (k m : Nat) (v1 v2 v3 v4 v5 : SV) (h1 : 1 ≤ k) (h7 : k ≤ 7) (hs : k ≤ s.size) :
    l84o0 s n36 n37 q1 q2 (m + 1) k v1 v2 v3 v4 v5 = if good (s.data.toList.take k) = true then q1 ((val (s.data.toList.take k) : Nat) : Int) k (-1) true false true else l84o0 s n36 n37 q1 q2 m ((k + 1 : Nat) : Int) (.d (.i .i64 ((val (s.data.toList.take k) : Nat) : Int))) (.d (.i .i64 (-1))) (.d (.b true)) (.d (.b false)) (.d (.b false)) := by
  have a1 : (decide ((k : Int) ≤ 7) && decide ((k : Int) ≤ (s.size : Int))) = true := by simp; omega
  have a2 : w64 ((k : Int) - 1) = (k : Int) - 1 := w64_in _ (by omega)
  have a3 : decide ((0 : Int) ≤ 0 ∧ (0 : Int) ≤ (k : Int) ∧ (k : Int) ≤ (s.size : Int)) = true := by simp; omega
  have e0 : s.data.toList.length = s.size := by simp
  simp only [l84o0, a1, if_true, a2]
  obtain ⟨d, hd⟩ := rdS_in s n36 n37 k true (fun n75 n76 b77 v78 =>
       chk (okR zr89 zo89 (t89 n75)) <|
       chk (decide ((0 : Int) ≤ 0 ∧ (0 : Int) ≤ (k : Int) ∧ (k : Int) ≤ (s.size : Int))) <|
       if ((asS (resC (t89 n75) 0 0)).toList == (s.extract (0 : Int).toNat (k : Int).toNat).toList) = true then
        q1 n75 k n76 true b77 ((asS (resC (t89 n75) 0 0)).toList == (s.extract (0 : Int).toNat (k : Int).toNat).toList)
       else
        l84o0 s n36 n37 q1 q2 m (w64 ((k : Int) + 1)) (.d (.i .i64 n75)) (.d (.i .i64 n76)) (.d (.b true)) (.d (.b b77)) (.d (.b ((asS (resC (t89 n75) 0 0)).toList == (s.extract (0 : Int).toNat (k : Int).toNat).toList)))) k h7 hs k KK 0 v4 v5 (Nat.le_refl _) (by rw [KK_eq]; omega) (by simp)
  refine Eq.trans hd ?_
  have ew : ∀ x, okR zr89 zo89 (some ([.one (.s x)], [])) = true := fun _ => rfl
  have eb : ∀ x, asS (resC (some ([.one (.s x)], [])) 0 0) = x := fun _ => rfl
  have hv := val_le s.data.toList k h7
  have ec : ((varS ((val (s.data.toList.take k) : Nat) : Int)).toList == (s.extract (0 : Int).toNat (k : Int).toNat).toList) = good (s.data.toList.take k) := by
    rw [varS_enc _ (by omega) (by omega), extract_is, Int.toNat_natCast, Int.toNat_natCast, Bool.eq_iff_iff, beq_iff_eq, show (0 : Int).toNat = 0 from rfl, List.drop_zero]
    exact enc_good _ 6 (by simp; omega)
  simp only [var_spec, ew, eb, a3, chk_true, Nat.zero_mul, Nat.zero_add, ec, w64_succ k (by omega)]
  cases good (s.data.toList.take k) <;> rfl
theorem rdS_end (s : ByteArray) (n36 n37 : Int) (q1 : Int → Int → Int → Bool → Bool → Bool → Rs) (q2 : Int → SV → SV → Bool → SV → SV → Rs) (h2 : ∀ a b c d e f, q2 a b c d e f = some ([.one (.i .i64 0), .one (.i .i64 0)], [])) (k m : Nat) (v1 v2 v3 v4 v5 : SV) (h : ¬ (k ≤ 7 ∧ k ≤ s.size)) :
    l84o0 s n36 n37 q1 q2 (m + 1) k v1 v2 v3 v4 v5 = some ([.one (.i .i64 0), .one (.i .i64 0)], []) := by
  have a1 : (decide ((k : Int) ≤ 7) && decide ((k : Int) ≤ (s.size : Int))) = false := by rw [Bool.eq_false_iff]; simp; omega
  simp only [l84o0, a1, Bool.false_eq_true, if_false, h2]
theorem rdS_dead (s : ByteArray) (n36 n37 : Int) (q1 : Int → Int → Int → Bool → Bool → Bool → Rs) (q2 : Int → SV → SV → Bool → SV → SV → Rs) (h2 : ∀ a b c d e f, q2 a b c d e f = some ([.one (.i .i64 0), .one (.i .i64 0)], [])) (j : Nat) (hj : (s.data.toList.getD j 0).toNat < 128) :
    ∀ (f k m : Nat) (v1 v2 v3 v4 v5 : SV), f + k = 9 → 9 < m + k → j + 1 < k → l84o0 s n36 n37 q1 q2 m k v1 v2 v3 v4 v5 = some ([.one (.i .i64 0), .one (.i .i64 0)], []) := by
  have e0 : s.data.toList.length = s.size := by simp
  intro f
  induction f with
  | zero =>
    intro k m v1 v2 v3 v4 v5 e hm hk
    obtain ⟨m, rfl⟩ : ∃ m', m = m' + 1 := ⟨m - 1, by omega⟩
    exact rdS_end s n36 n37 q1 q2 h2 k m _ _ _ _ _ (by omega)
  | succ f ih =>
    intro k m v1 v2 v3 v4 v5 e hm hk
    obtain ⟨m, rfl⟩ : ∃ m', m = m' + 1 := ⟨m - 1, by omega⟩
    by_cases h : k ≤ 7 ∧ k ≤ s.size
    · rw [rdS_step s n36 n37 q1 q2 k m _ _ _ _ _ (by omega) h.1 h.2, if_neg]
      · exact ih (k + 1) m _ _ _ _ _ (by omega) (by omega) (by omega)
      · intro hg
        have hl' : (s.data.toList.take k).length = k := by simp only [List.length_take]; omega
        have := good_in _ hg j (by omega)
        have e1 : (s.data.toList.take k).getD j 0 = s.data.toList.getD j 0 := by simp [List.getD, List.getElem?_take, show j < k by omega]
        rw [e1] at this
        omega
    · exact rdS_end s n36 n37 q1 q2 h2 k m _ _ _ _ _ h
theorem rdS_loop (s : ByteArray) (n36 n37 : Int) (q1 : Int → Int → Int → Bool → Bool → Bool → Rs) (q2 : Int → SV → SV → Bool → SV → SV → Rs) (h1 : ∀ a b c d e f, q1 a b c d e f = some ([.one (.i .i64 a), .one (.i .i64 b)], [])) (h2 : ∀ a b c d e f, q2 a b c d e f = some ([.one (.i .i64 0), .one (.i .i64 0)], [])) :
    ∀ (f i m : Nat) (v1 v2 v3 v4 v5 : SV), f + i = 8 → 9 < m + i → (∀ j, j < i → (s.data.toList.getD j 0).toNat ≥ 128) →
    l84o0 s n36 n37 q1 q2 m ((i + 1 : Nat) : Int) v1 v2 v3 v4 v5 = some ([.one (.i .i64 (rdL s.data.toList f i).1), .one (.i .i64 (rdL s.data.toList f i).2)], []) := by
  have e0 : s.data.toList.length = s.size := by simp
  intro f
  induction f with
  | zero =>
    intro i m v1 v2 v3 v4 v5 e hm hj
    obtain ⟨m, rfl⟩ : ∃ m', m = m' + 1 := ⟨m - 1, by omega⟩
    exact rdS_end s n36 n37 q1 q2 h2 (i + 1) m _ _ _ _ _ (by omega)
  | succ f ih =>
    intro i m v1 v2 v3 v4 v5 e hm hj
    obtain ⟨m, rfl⟩ : ∃ m', m = m' + 1 := ⟨m - 1, by omega⟩
    unfold rdL
    by_cases h : i < s.data.toList.length ∧ i < 7
    · rw [if_pos h, rdS_step s n36 n37 q1 q2 (i + 1) m _ _ _ _ _ (by omega) (by omega) (by omega)]
      have hgt := good_take s.data.toList i h.1 hj
      by_cases g : (s.data.toList.getD i 0).toNat ≥ 128
      · rw [if_pos g, if_neg (by rw [hgt]; omega)]
        exact ih (i + 1) m _ _ _ _ _ (by omega) (by omega) (fun j hj' => by
          by_cases e' : j = i
          · subst e'; exact g
          · exact hj j (by omega))
      · rw [if_neg g]
        by_cases g2 : (s.data.toList.getD i 0).toNat = 0 ∧ i > 0
        · rw [if_pos g2, if_neg (by rw [hgt]; omega)]
          exact rdS_dead s n36 n37 q1 q2 h2 i (by omega) (7 - i) (i + 1 + 1) m _ _ _ _ _ (by omega) (by omega) (by omega)
        · rw [if_neg g2, if_pos (hgt.2 ⟨by omega, by omega⟩), h1]
    · rw [if_neg h]
      exact rdS_end s n36 n37 q1 q2 h2 (i + 1) m _ _ _ _ _ (by omega)
theorem readVar_spec (s : ByteArray) : t84 s = some ([.one (.i .i64 (rdV s).1), .one (.i .i64 (rdV s).2)], []) :=
  rdS_loop s 0 0 (fun n36 n37 _ _ _ _ => some ([.one (.i .i64 n36), .one (.i .i64 n37)], [])) (fun _ _ _ _ _ _ => some ([.one (.i .i64 0), .one (.i .i64 0)], [])) (fun _ _ _ _ _ _ => rfl) (fun _ _ _ _ _ _ => rfl) 8 0 KK .undef .undef .undef .undef .undef rfl (by rw [KK_eq]; omega) (by omega)
end Go.Den.L10

/- Results read; what a client hears. -/
namespace Go.Den.L10
open Go
theorem extract_all (s : ByteArray) : s.extract 0 s.size = s := by
  apply ByteArray.ext
  rw [ByteArray.data_extract]
  exact Array.extract_size
theorem extract_join (s : ByteArray) (k : Nat) (h : k ≤ s.size) : s.extract 0 k ++ s.extract k s.size = s := by
  apply ByteArray.ext
  rw [ByteArray.data_append, ByteArray.data_extract, ByteArray.data_extract, Array.extract_append_extract]
  have e : max k s.size = s.data.size := by have : s.size = s.data.size := rfl; omega
  have e0 : min 0 k = 0 := by omega
  rw [e, e0]
  exact Array.extract_size
theorem extract_sz (s : ByteArray) (a : Nat) : (s.extract a s.size).size = s.size - a := by
  rw [ByteArray.size_extract]; omega
def resOk (n : Int) (s : ByteArray) : Bool := decide (0 ≤ n ∧ n ≤ 200 ∧ (s.size : Int) ≤ 400)
/-- A result read: is it one, its code, what it holds. -/
def rdR (s : ByteArray) : Bool × Int × ByteArray :=
  if (rdV s).2 ≠ 0 ∧ resOk (rdV s).1 (s.extract (rdV s).2.toNat s.size) = true then (true, (rdV s).1, s.extract (rdV s).2.toNat s.size) else (false, 0, ⟨#[]⟩)
theorem resOk_spec (n : Int) (s : ByteArray) : t125 n s = some ([.one (.b (resOk n s))], []) := by
  simp only [t125, in_eq, zr60, zo60, okR, isVs, isV, isD, isOs, resC, nthR, cellsDV, nthD, asB, Bool.and_true, chk_true]
  apply bool_some; unfold resOk; rw [Bool.eq_iff_iff]; simp; omega
theorem resOk_impl (n : Int) (s : ByteArray) : t118 n s = some ([.one (.b (resOk n s))], []) := by
  simp only [t118, within_eq, zr62, zo62, okR, isVs, isV, isD, isOs, resC, nthR, cellsDV, nthD, asB, Bool.and_true, chk_true]
  apply bool_some; unfold resOk; rw [Bool.eq_iff_iff]; simp; omega
theorem vars1 (s : ByteArray) : t92 s 0 1 = some (if (rdV s).2 = 0 then [.one (.l []), .one (.i .i64 (-1))] else [.one (.l [[.i .i64 (rdV s).1]]), .one (.i .i64 (rdV s).2)], []) := by
  obtain ⟨k, hk⟩ : ∃ k, KK = k + 2 := ⟨KK - 2, by rw [KK_eq]⟩
  have hr := rdV_rng s
  unfold t92
  rw [hk]
  have a1 : (decide ((0 : Int) < 0) || decide ((0 : Int) > (s.size : Int))) = false := by rw [Bool.eq_false_iff]; simp
  have a2 : decide ((0 : Int) ≤ 0 ∧ (0 : Int) ≤ (s.size : Int)) = true := decide_eq_true (by omega)
  have ex : s.extract (0 : Int).toNat s.size = s := extract_all s
  have ew : ∀ x y, okR zr84 zo84 (some ([.one (.i .i64 x), .one (.i .i64 y)], [])) = true := fun _ _ => rfl
  have e0 : ∀ x y, asI (resC (some ([.one (.i .i64 x), .one (.i .i64 y)], [])) 0 0) = x := fun _ _ => rfl
  have e1 : ∀ x y, asI (resC (some ([.one (.i .i64 x), .one (.i .i64 y)], [])) 1 0) = y := fun _ _ => rfl
  have a3 : decide ((0 : Int) < 1) = true := rfl
  have a4 : decide ((1 : Int) < 1) = false := rfl
  have a5 : w64 (0 + 1) = 1 := rfl
  have a6 : w64 (0 + (rdV s).2) = (rdV s).2 := by rw [w64_in _ (by omega)]; omega
  simp only [l92o0, a1, a2, a3, ex, readVar_spec, ew, e0, e1, chk_true, if_true, Bool.false_eq_true, if_false]
  by_cases h : (rdV s).2 = 0
  · simp [h]
  · have h' : ((rdV s).2 == 0) = false := by simpa using h
    simp only [h', Bool.false_eq_true, if_false, a4, a5, a6, if_neg h, List.nil_append]
    rw [chk_ok (by simp [flatR, allSc, isSc, lim])]
theorem readRes_spec (s : ByteArray) : t85 s = some ([.agg [.i .i64 (rdR s).2.1, .s (rdR s).2.2], .one (.b (rdR s).1)], []) := by
  have hr := rdV_rng s
  unfold t85 rdR
  by_cases h : (rdV s).2 = 0
  · have e : t92 s 0 1 = some ([.one (.l []), .one (.i .i64 (-1))], []) := by rw [vars1, if_pos h]
    simp [e, h, zr92, zo92]
  · have e : t92 s 0 1 = some ([.one (.l [[.i .i64 (rdV s).1]]), .one (.i .i64 (rdV s).2)], []) := by rw [vars1, if_neg h]
    have hn : ¬ (rdV s).2 < 0 := by omega
    have ew : ∀ x y, okR zr92 zo92 (some ([.one (.l x), .one (.i .i64 y)], [])) = true := fun _ _ => rfl
    have e0 : ∀ x y, asL (resC (some ([.one (.l x), .one (.i .i64 y)], [])) 0 0) = x := fun _ _ => rfl
    have e1 : ∀ x y, asI (resC (some ([.one (.l x), .one (.i .i64 y)], [])) 1 0) = y := fun _ _ => rfl
    have a1 : decide ((0 : Int) ≤ (rdV s).2 ∧ (rdV s).2 ≤ (s.size : Int)) = true := decide_eq_true (by omega)
    have hb := rdV_back s h
    have hsz := extract_sz s (rdV s).2.toNat
    have hj := extract_join s (rdV s).2.toNat (by omega)
    rw [← hb] at hj
    have hv := varS_size (rdV s).1
    have ew2 : ∀ x, okR zr125 zo125 (some ([.one (.b x)], [])) = true := fun _ => rfl
    have ew3 : ∀ x, okR zr89 zo89 (some ([.one (.s x)], [])) = true := fun _ => rfl
    have ew4 : ∀ x, okR zr106 zo106 (some ([.one (.s x)], [])) = true := fun _ => rfl
    have eS : ∀ x, asS (resC (some ([.one (.s x)], [])) 0 0) = x := fun _ => rfl
    have eB : ∀ x, asB (resC (some ([.one (.b x)], [])) 0 0) = x := fun _ => rfl
    have sr : t106 (rdV s).1 (s.extract (rdV s).2.toNat s.size) = some ([.one (.s (if resOk (rdV s).1 (s.extract (rdV s).2.toNat s.size) = true then s else ⟨#[]⟩))], []) := by
      simp only [t106, resOk_spec, var_spec, ew2, ew3, eS, eB, chk_true]
      cases hc : resOk (rdV s).1 (s.extract (rdV s).2.toNat s.size)
      · simp
      · have := hc
        simp only [resOk, decide_eq_true_eq] at this
        simp only [Bool.not_true, Bool.false_eq_true, if_false, if_true]
        rw [chk_ok (decide_eq_true (by unfold lim; omega)), hj]
    simp only [e, ew, e0, e1, hn, decide_false, Bool.false_eq_true, if_false, chk_true, a1]
    have z1 : (decide ((0 : Int) ≤ 0) && decide ((0 : Int) < ([[D.i .i64 (rdV s).1]].length : Int))) = true := rfl
    have z2 : [[D.i .i64 (rdV s).1]].getD ((0 : Int).toNat) [] = [D.i .i64 (rdV s).1] := rfl
    have z3 : (decide (1 ≤ [D.i .i64 (rdV s).1].length) && isF z3 0 [D.i .i64 (rdV s).1]) = true := rfl
    have z4 : asI (nthD [D.i .i64 (rdV s).1] 0) = (rdV s).1 := rfl
    simp only [z1, z2, z3, z4, chk_true, sr, ew4, eS]
    cases hc : resOk (rdV s).1 (s.extract (rdV s).2.toNat s.size)
    · have hs0 : (([] : List UInt8) == s.toList) = false := by
        rw [beq_eq_false_iff_ne]; intro h0
        have := (toList_nil s).1 h0.symm
        omega
      simp [hs0]
    · simp [h]
theorem readRes_impl (s : ByteArray) : t87 s = some ([.agg [.i .i64 (rdR s).2.1, .s (rdR s).2.2], .one (.b (rdR s).1)], []) := by
  have hr := rdV_rng s
  unfold t87 rdR
  have ew : ∀ x y, okR zr86 zo86 (some ([.one (.i .i64 x), .one (.i .i64 y)], [])) = true := fun _ _ => rfl
  have e0 : ∀ x y, asI (resC (some ([.one (.i .i64 x), .one (.i .i64 y)], [])) 0 0) = x := fun _ _ => rfl
  have e1 : ∀ x y, asI (resC (some ([.one (.i .i64 x), .one (.i .i64 y)], [])) 1 0) = y := fun _ _ => rfl
  have ew2 : ∀ x, okR zr118 zo118 (some ([.one (.b x)], [])) = true := fun _ => rfl
  have eB : ∀ x, asB (resC (some ([.one (.b x)], [])) 0 0) = x := fun _ => rfl
  have a1 : decide ((0 : Int) ≤ (rdV s).2 ∧ (rdV s).2 ≤ (s.size : Int)) = true := decide_eq_true (by omega)
  simp only [readVar_impl, ew, e0, e1, a1, chk_true, resOk_impl, ew2, eB, Bool.true_or]
  cases hc : resOk (rdV s).1 (s.extract (rdV s).2.toNat s.size)
  · simp
  · by_cases h : (rdV s).2 = 0
    · simp [h]
    · simp [h]
def hearB (n1 n2 n3 : Int) (b4 : Bool) (n12 n13 : Int) (b15 : Bool) (n16 : Int) (s17 : ByteArray) (n18 : Int) : Bool :=
  b4 && b15 && decide (n12 = n1 ∧ n13 = n2 ∧ n16 = n3 ∧ (rdV s17).2 ≠ 0 ∧ 1 ≤ (rdV s17).1 ∧ (rdV s17).1 ≤ 100000 ∧ 0 ≤ n18 ∧ n18 ≤ 1000000) && (rdR (s17.extract (rdV s17).2.toNat s17.size)).1
def hearD (n1 n2 n3 : Int) (b4 : Bool) (n5 : Int) (s6 s7 : ByteArray) (n8 n9 : Int) (s10 : ByteArray) (n11 n12 n13 n14 : Int) (b15 : Bool) (n16 : Int) (s17 : ByteArray) (n18 : Int) : List DV :=
  if clientOk n1 n2 n3 b4 n5 s6 s7 n8 n9 s10 n11 then
    if hearB n1 n2 n3 b4 n12 n13 b15 n16 s17 n18 then [.agg [.i .i64 n1, .i .i64 n2, .i .i64 n3, .b false, .i .i64 0, .s (⟨#[]⟩ : ByteArray), .s (⟨#[]⟩ : ByteArray), .i .i64 0, .i .i64 0, .s (⟨#[]⟩ : ByteArray), .i .i64 0], .agg [.i .i64 n1, .i .i64 n2, .i .i64 n3, .i .i64 n5, .s s6, .s s7, .i .i64 n8, .i .i64 n9, .s s10, .i .i64 (rdV s17).1, .i .i64 (rdR (s17.extract (rdV s17).2.toNat s17.size)).2.1, .s (rdR (s17.extract (rdV s17).2.toNat s17.size)).2.2, .i .i64 n11, .i .i64 n18], .one (.b true)]
    else [.agg [.i .i64 n1, .i .i64 n2, .i .i64 n3, .b b4, .i .i64 n5, .s s6, .s s7, .i .i64 n8, .i .i64 n9, .s s10, .i .i64 n11], .agg [.i .i64 0, .i .i64 0, .i .i64 0, .i .i64 0, .s (⟨#[]⟩ : ByteArray), .s (⟨#[]⟩ : ByteArray), .i .i64 0, .i .i64 0, .s (⟨#[]⟩ : ByteArray), .i .i64 0, .i .i64 0, .s (⟨#[]⟩ : ByteArray), .i .i64 0, .i .i64 0], .one (.b false)]
  else [.agg [.i .i64 0, .i .i64 0, .i .i64 0, .b false, .i .i64 0, .s (⟨#[]⟩ : ByteArray), .s (⟨#[]⟩ : ByteArray), .i .i64 0, .i .i64 0, .s (⟨#[]⟩ : ByteArray), .i .i64 0], .agg [.i .i64 0, .i .i64 0, .i .i64 0, .i .i64 0, .s (⟨#[]⟩ : ByteArray), .s (⟨#[]⟩ : ByteArray), .i .i64 0, .i .i64 0, .s (⟨#[]⟩ : ByteArray), .i .i64 0, .i .i64 0, .s (⟨#[]⟩ : ByteArray), .i .i64 0, .i .i64 0], .one (.b false)]
theorem ite_not {α : Type} (a b : Bool) (h : a = !b) (x y : α) : (if a = true then x else y) = (if b = true then y else x) := by
  subst h; cases b <;> rfl
theorem hear_spec (n1 n2 n3 : Int) (b4 : Bool) (n5 : Int) (s6 s7 : ByteArray) (n8 n9 : Int) (s10 : ByteArray) (n11 n12 n13 n14 : Int) (b15 : Bool) (n16 : Int) (s17 : ByteArray) (n18 : Int) : t44 n1 n2 n3 b4 n5 s6 s7 n8 n9 s10 n11 n12 n13 n14 b15 n16 s17 n18 = some (hearD n1 n2 n3 b4 n5 s6 s7 n8 n9 s10 n11 n12 n13 n14 b15 n16 s17 n18, []) := by
  have hr := rdV_rng s17
  have ew : ∀ x y, okR zr84 zo84 (some ([.one (.i .i64 x), .one (.i .i64 y)], [])) = true := fun _ _ => rfl
  have e0 : ∀ x y, asI (resC (some ([.one (.i .i64 x), .one (.i .i64 y)], [])) 0 0) = x := fun _ _ => rfl
  have e1 : ∀ x y, asI (resC (some ([.one (.i .i64 x), .one (.i .i64 y)], [])) 1 0) = y := fun _ _ => rfl
  have ew2 : ∀ x, okR zr20 zo20 (some ([.one (.b x)], [])) = true := fun _ => rfl
  have ew3 : ∀ x, okR zr60 zo60 (some ([.one (.b x)], [])) = true := fun _ => rfl
  have eB : ∀ x, asB (resC (some ([.one (.b x)], [])) 0 0) = x := fun _ => rfl
  have ew4 : ∀ x y z, okR zr85 zo85 (some ([.agg [.i .i64 x, .s y], .one (.b z)], [])) = true := fun _ _ _ => rfl
  have f0 : ∀ x y z, asI (resC (some ([.agg [.i .i64 x, .s y], .one (.b z)], [])) 0 0) = x := fun _ _ _ => rfl
  have f1 : ∀ x y z, asS (resC (some ([.agg [.i .i64 x, .s y], .one (.b z)], [])) 0 1) = y := fun _ _ _ => rfl
  have f2 : ∀ x y z, asB (resC (some ([.agg [.i .i64 x, .s y], .one (.b z)], [])) 1 0) = z := fun _ _ _ => rfl
  have a1 : decide ((0 : Int) ≤ (rdV s17).2 ∧ (rdV s17).2 ≤ (s17.size : Int)) = true := decide_eq_true (by omega)
  simp only [t44, clientOk_spec, ew2, eB, chk_true, readVar_spec, ew, e0, e1, a1, readRes_spec, ew4, f0, f1, f2, in_eq, ew3, Bool.true_or, hearD]
  cases hc : clientOk n1 n2 n3 b4 n5 s6 s7 n8 n9 s10 n11
  · rfl
  · simp only [Bool.not_true, Bool.false_eq_true, if_false, if_true]
    rw [ite_not _ (hearB n1 n2 n3 b4 n12 n13 b15 n16 s17 n18)]
    · cases hearB n1 n2 n3 b4 n12 n13 b15 n16 s17 n18 <;> rfl
    · unfold hearB
      generalize (rdR (s17.extract (rdV s17).2.toNat s17.size)).1 = g
      cases b4 <;> cases b15 <;> cases g <;> (rw [Bool.eq_iff_iff]; simp; try omega)
theorem hear_impl (n1 n2 n3 : Int) (b4 : Bool) (n5 : Int) (s6 s7 : ByteArray) (n8 n9 : Int) (s10 : ByteArray) (n11 n12 n13 n14 : Int) (b15 : Bool) (n16 : Int) (s17 : ByteArray) (n18 : Int) : t46 n1 n2 n3 b4 n5 s6 s7 n8 n9 s10 n11 n12 n13 n14 b15 n16 s17 n18 = some (hearD n1 n2 n3 b4 n5 s6 s7 n8 n9 s10 n11 n12 n13 n14 b15 n16 s17 n18, []) := by
  have hr := rdV_rng s17
  have ew : ∀ x y, okR zr86 zo86 (some ([.one (.i .i64 x), .one (.i .i64 y)], [])) = true := fun _ _ => rfl
  have e0 : ∀ x y, asI (resC (some ([.one (.i .i64 x), .one (.i .i64 y)], [])) 0 0) = x := fun _ _ => rfl
  have e1 : ∀ x y, asI (resC (some ([.one (.i .i64 x), .one (.i .i64 y)], [])) 1 0) = y := fun _ _ => rfl
  have ew2 : ∀ x, okR zr22 zo22 (some ([.one (.b x)], [])) = true := fun _ => rfl
  have ew3 : ∀ x, okR zr62 zo62 (some ([.one (.b x)], [])) = true := fun _ => rfl
  have eB : ∀ x, asB (resC (some ([.one (.b x)], [])) 0 0) = x := fun _ => rfl
  have ew4 : ∀ x y z, okR zr87 zo87 (some ([.agg [.i .i64 x, .s y], .one (.b z)], [])) = true := fun _ _ _ => rfl
  have f0 : ∀ x y z, asI (resC (some ([.agg [.i .i64 x, .s y], .one (.b z)], [])) 0 0) = x := fun _ _ _ => rfl
  have f1 : ∀ x y z, asS (resC (some ([.agg [.i .i64 x, .s y], .one (.b z)], [])) 0 1) = y := fun _ _ _ => rfl
  have f2 : ∀ x y z, asB (resC (some ([.agg [.i .i64 x, .s y], .one (.b z)], [])) 1 0) = z := fun _ _ _ => rfl
  have a1 : decide ((0 : Int) ≤ (rdV s17).2 ∧ (rdV s17).2 ≤ (s17.size : Int)) = true := decide_eq_true (by omega)
  simp only [t46, clientOk_impl, ew2, eB, chk_true, readVar_impl, ew, e0, e1, a1, readRes_impl, ew4, f0, f1, f2, within_eq, ew3, Bool.true_or, hearD]
  cases hc : clientOk n1 n2 n3 b4 n5 s6 s7 n8 n9 s10 n11
  · rfl
  · simp only [Bool.not_true, Bool.false_eq_true, if_false, if_true]
    rw [ite_not _ (hearB n1 n2 n3 b4 n12 n13 b15 n16 s17 n18)]
    · cases hearB n1 n2 n3 b4 n12 n13 b15 n16 s17 n18 <;> rfl
    · unfold hearB
      generalize (rdR (s17.extract (rdV s17).2.toNat s17.size)).1 = g
      cases b4 <;> cases b15 <;> cases g <;> (rw [Bool.eq_iff_iff]; simp; try omega)
theorem eqResult_self (n : Int) (s : ByteArray) : t88 n s n s = some ([.one (.b true)], []) := by
  simp [t88]
theorem eqDone_self (n1 n2 n3 n4 : Int) (s5 s6 : ByteArray) (n7 n8 : Int) (s9 : ByteArray) (n10 n11 : Int) (s12 : ByteArray) (n13 n14 : Int) : t47 n1 n2 n3 n4 s5 s6 n7 n8 s9 n10 n11 s12 n13 n14 n1 n2 n3 n4 s5 s6 n7 n8 s9 n10 n11 s12 n13 n14 = some ([.one (.b true)], []) := by
  simp [t47, eqCall_self, eqResult_self, zr65, zo65, zr88, zo88]
theorem law10 (n1 n2 n3 : Int) (b4 : Bool) (n5 : Int) (s6 s7 : ByteArray) (n8 n9 : Int) (s10 : ByteArray) (n11 n12 n13 n14 : Int) (b15 : Bool) (n16 : Int) (s17 : ByteArray) (n18 : Int) : t10 n1 n2 n3 b4 n5 s6 s7 n8 n9 s10 n11 n12 n13 n14 b15 n16 s17 n18 = some ([.one (.b true)], []) := by
  obtain ⟨y, hy⟩ := szClient_eq n1 n2 n3 b4 n5 s6 s7 n8 n9 s10 n11 1048576
  obtain ⟨z, hz⟩ : ∃ z, t43 n12 n13 n14 b15 n16 s17 y = some ([.one (.i .i64 z)], []) := by
    simp only [t43]; split <;> exact ⟨_, rfl⟩
  have e1 : t45 n12 n13 n14 b15 n16 s17 = some ([.agg [.i .i64 n12, .i .i64 n13, .i .i64 n14, .b b15, .i .i64 n16, .s s17]], []) := rfl
  have ew : ∀ x, okR zr19 zo19 (some ([.one (.i .i64 x)], [])) = true := fun _ => rfl
  have ew1 : ∀ x, okR zr43 zo43 (some ([.one (.i .i64 x)], [])) = true := fun _ => rfl
  have eI : ∀ x, asI (resC (some ([.one (.i .i64 x)], [])) 0 0) = x := fun _ => rfl
  have eB : ∀ x, asB (resC (some ([.one (.b x)], [])) 0 0) = x := fun _ => rfl
  simp only [t10, hy, hz, ew, ew1, eI, chk_true]
  split
  · rfl
  split
  · rfl
  simp only [toClient_eq, e1]
  simp only [zr21, zo21, zr45, zo45, okR, isVs, isV, isD, isDs, isOs, resC, nthR, cellsDV, nthD, asB, asI, asS, asL, Bool.and_true, decide_true, chk_true]
  have hs := hear_spec n1 n2 n3 b4 n5 s6 s7 n8 n9 s10 n11 n12 n13 n14 b15 n16 s17 n18
  have hi := hear_impl n1 n2 n3 b4 n5 s6 s7 n8 n9 s10 n11 n12 n13 n14 b15 n16 s17 n18
  unfold hearD at hs hi
  generalize clientOk n1 n2 n3 b4 n5 s6 s7 n8 n9 s10 n11 = c at hs hi
  generalize hearB n1 n2 n3 b4 n12 n13 b15 n16 s17 n18 = g at hs hi
  cases c <;> cases g <;> simp only [hs, hi, if_true, zr44, zo44, zr46, zo46, okR, isVs, isV, isD, isDs, isOs, resC, nthR, cellsDV, nthD, asB, asI, asS, asL, Bool.and_true, decide_true, chk_true, eqClient_self, eqDone_self, zr27, zo27, zr47, zo47, Bool.not_true, Bool.true_or, BEq.rfl, Bool.or_self, Bool.false_eq_true, if_false]
end Go.Den.L10
