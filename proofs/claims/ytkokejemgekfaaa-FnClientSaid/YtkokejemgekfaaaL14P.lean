/- Plain laws about what the functions compute; no condition. -/
import Derived.Test.YtkokejemgekfaaaL14Tw
import Derived.IntWalk
set_option linter.unusedVariables false
set_option linter.unusedSimpArgs false
/- How twins are taken apart. -/
namespace Go.Den.L14
open Go Go.IntWalk
theorem chk_true (x : Rs) : chk true x = x := rfl
theorem chk_ok {b : Bool} (h : b = true) (x : Rs) : chk b x = x := by rw [h]; rfl
attribute [simp] chk_true okR isVs isV isD isDs isOs resC outC nthR nthO cellsDV nthD asB asI asS asL
theorem ite_not {α : Type} (a b : Bool) (h : a = !b) (x y : α) : (if a = true then x else y) = (if b = true then y else x) := by
  subst h; cases b <;> rfl
theorem bool_some (a b : Bool) (h : a = b) : (some ([DV.one (.b a)], ([] : List (List D))) : Rs) = some ([.one (.b b)], []) := by rw [h]
theorem nil_toList : (⟨#[]⟩ : ByteArray).toList = [] := by rw [ByteArray.toList_eq]
theorem toList_nil (s : ByteArray) : s.toList = [] ↔ (s.size : Int) = 0 := by
  have e : s.size = s.data.toList.length := by rw [Array.length_toList]; rfl
  rw [ByteArray.toList_eq, e]
  cases s.data.toList <;> simp <;> omega
theorem toList_isEmpty (s : ByteArray) : s.toList.isEmpty = decide ((s.size : Int) = 0) := by
  rw [Bool.eq_iff_iff, List.isEmpty_iff, toList_nil]; simp
attribute [simp] nil_toList toList_nil toList_isEmpty
theorem KK_eq : KK = 18446744073709551616 := Classical.choose_spec (⟨2 ^ 64, rfl⟩ : ∃ n : Nat, n = 2 ^ 64)
theorem w64_in (n : Int) (h : -9223372036854775808 ≤ n ∧ n ≤ 9223372036854775807) : w64 n = n := i64_in n h
theorem getD_in {l : List (List D)} {i : Nat} (hi : i < l.length) : l.getD i [] = l[i] := by simp [List.getD, hi]
theorem getD_row {l : List (List D)} {es : List Sh} (h : ∀ r ∈ l, typL es r) {i : Nat} (hi : i < l.length) : typL es (l.getD i []) := by
  rw [getD_in hi]; exact h _ (List.getElem_mem hi)
theorem w64_succ (i : Nat) (h : i < 4611686018427387904) : w64 ((i : Int) + 1) = ((i + 1 : Nat) : Int) := by
  rw [w64_in _ (by omega)]; rfl
theorem within_eq (a b c : Int) : t62 a b c = some ([.one (.b (decide (b ≤ a) && decide (a ≤ c)))], []) := rfl
theorem in_eq (a b c : Int) : t60 a b c = some ([.one (.b (decide (b ≤ a) && decide (a ≤ c)))], []) := rfl
end Go.Den.L14

/- Calls, slots. -/
namespace Go.Den.L14
open Go
def callOk (k : Int) (p t : ByteArray) (n m : Int) (d : ByteArray) : Bool :=
  decide (1 ≤ k ∧ k ≤ 22 ∧ (p.size : Int) ≤ 60 ∧ (t.size : Int) ≤ 60 ∧ (d.size : Int) ≤ 64 ∧ -1000000 ≤ n ∧ n ≤ 1000000 ∧ -1000000 ≤ m ∧ m ≤ 1000000 ∧ ((t.size : Int) = 0 ∨ k = 9 ∨ k = 10 ∨ k = 12) ∧ ((d.size : Int) = 0 ∨ k = 5 ∨ k = 6))
theorem callOk_spec (k : Int) (p t : ByteArray) (n m : Int) (d : ByteArray) : t61 k p t n m d = some ([.one (.b (callOk k p t n m d))], []) := by
  simp [-ByteArray.size_eq_zero_iff, t61, ta61, in_eq, zr60, zo60, nil_toList, callOk]
  (repeat' split) <;> (apply bool_some; rw [Bool.eq_iff_iff]; simp [-ByteArray.size_eq_zero_iff]; omega)
theorem callOk_impl (k : Int) (p t : ByteArray) (n m : Int) (d : ByteArray) : t63 k p t n m d = some ([.one (.b (callOk k p t n m d))], []) := by
  simp [-ByteArray.size_eq_zero_iff, t63, ta63, within_eq, zr62, zo62, nil_toList, callOk]
  (repeat' split) <;> (apply bool_some; rw [Bool.eq_iff_iff]; simp [-ByteArray.size_eq_zero_iff]; omega)
end Go.Den.L14

/- Slots; sizes. -/
namespace Go.Den.L14
open Go
end Go.Den.L14

/- Clients. -/
namespace Go.Den.L14
open Go
def clientOk (a b c : Int) (w : Bool) (k : Int) (p t : ByteArray) (n m : Int) (d : ByteArray) (e : Int) : Bool :=
  decide (0 ≤ a ∧ a ≤ 2 ∧ 1 ≤ b ∧ b ≤ 3 ∧ 0 ≤ c ∧ c ≤ 1000000 ∧ 0 ≤ e ∧ e ≤ 1000000) && (if w then decide (1 ≤ c) && callOk k p t n m d else decide (k = 0 ∧ (p.size : Int) = 0 ∧ (t.size : Int) = 0 ∧ n = 0 ∧ m = 0 ∧ (d.size : Int) = 0 ∧ e = 0))
theorem clientOk_spec (a b c : Int) (w : Bool) (k : Int) (p t : ByteArray) (n m : Int) (d : ByteArray) (e : Int) : t20 a b c w k p t n m d e = some ([.one (.b (clientOk a b c w k p t n m d e))], []) := by
  have e1 : ∀ n, t64 n = some ([.one (.b (decide (0 ≤ n) && decide (n < 3)))], []) := fun _ => rfl
  simp [-ByteArray.size_eq_zero_iff, t20, ta20, e1, in_eq, callOk_spec, zr60, zo60, zr64, zo64, zr61, zo61, clientOk]
  (repeat' split) <;> (apply bool_some; rw [Bool.eq_iff_iff]; simp [-ByteArray.size_eq_zero_iff]; try omega)
theorem clientOk_impl (a b c : Int) (w : Bool) (k : Int) (p t : ByteArray) (n m : Int) (d : ByteArray) (e : Int) : t22 a b c w k p t n m d e = some ([.one (.b (clientOk a b c w k p t n m d e))], []) := by
  simp [-ByteArray.size_eq_zero_iff, t22, ta22, within_eq, callOk_impl, zr62, zo62, zr63, zo63, clientOk]
  (repeat' split) <;> (apply bool_some; rw [Bool.eq_iff_iff]; simp [-ByteArray.size_eq_zero_iff]; try omega)
def callRes (a b c : Int) (w : Bool) (k : Int) (p t : ByteArray) (n m : Int) (d : ByteArray) (e : Int) (k' : Int) (p' t' : ByteArray) (n' m' : Int) (d' : ByteArray) (e' : Int) : List DV :=
  if clientOk a b c w k p t n m d e then
    if w || !callOk k' p' t' n' m' d' || decide (c ≥ 1000000) || decide (e' < 0) || decide (1000000 < e') then [.agg [.i .i64 a, .i .i64 b, .i .i64 c, .b w, .i .i64 k, .s p, .s t, .i .i64 n, .i .i64 m, .s d, .i .i64 e], .one (.b false)]
    else [.agg [.i .i64 a, .i .i64 b, .i .i64 (w64 (c + 1)), .b true, .i .i64 k', .s p', .s t', .i .i64 n', .i .i64 m', .s d', .i .i64 e'], .one (.b true)]
  else [.agg [.i .i64 0, .i .i64 0, .i .i64 0, .b false, .i .i64 0, .s ⟨#[]⟩, .s ⟨#[]⟩, .i .i64 0, .i .i64 0, .s ⟨#[]⟩, .i .i64 0], .one (.b false)]
theorem clientCall_spec (a b c : Int) (w : Bool) (k : Int) (p t : ByteArray) (n m : Int) (d : ByteArray) (e : Int) (k' : Int) (p' t' : ByteArray) (n' m' : Int) (d' : ByteArray) (e' : Int) : t24 a b c w k p t n m d e k' p' t' n' m' d' e' = some (callRes a b c w k p t n m d e k' p' t' n' m' d' e', []) := by
  cases hc : clientOk a b c w k p t n m d e
  · simp [-ByteArray.size_eq_zero_iff, t24, ta24, callRes, clientOk_spec, hc, zr20, zo20]
  · simp [-ByteArray.size_eq_zero_iff, t24, ta24, callRes, clientOk_spec, callOk_spec, in_eq, hc, zr20, zo20, zr60, zo60, zr61, zo61]
    (repeat' split) <;> first | rfl | (exfalso; simp_all [-ByteArray.size_eq_zero_iff]; try omega)
theorem clientCall_impl (a b c : Int) (w : Bool) (k : Int) (p t : ByteArray) (n m : Int) (d : ByteArray) (e : Int) (k' : Int) (p' t' : ByteArray) (n' m' : Int) (d' : ByteArray) (e' : Int) : t26 a b c w k p t n m d e k' p' t' n' m' d' e' = some (callRes a b c w k p t n m d e k' p' t' n' m' d' e', []) := by
  cases hc : clientOk a b c w k p t n m d e
  · simp [-ByteArray.size_eq_zero_iff, t26, ta26, callRes, clientOk_impl, hc, zr22, zo22]
  · have hk := hc
    simp only [clientOk, Bool.and_eq_true, decide_eq_true_eq] at hk
    simp [-ByteArray.size_eq_zero_iff, t26, ta26, callRes, clientOk_impl, callOk_impl, within_eq, hc, zr22, zo22, zr62, zo62, zr63, zo63]
    have e1 : c = 1000000 ↔ 1000000 ≤ c := by omega
    simp only [e1]
    (repeat' split) <;> first | rfl | (exfalso; simp_all [-ByteArray.size_eq_zero_iff]; try omega)
end Go.Den.L14

/- Whole numbers as bytes; calls as bytes. -/
namespace Go.Den.L14
open Go Go.IntWalk
theorem ofInt_nat (n : Nat) (h : n < 2 ^ 64) : (BitVec.ofInt 64 (n : Int)).toNat = n := by
  rw [BitVec.toNat_ofInt]; omega
/-- A whole number's bytes: what is left, what stands. -/
def vp : Nat → Int → List (List D) → Int × List (List D)
  | 0, n, l => (n, l)
  | k + 1, n, l => if n ≥ 128 then vp k (n / 128) (l ++ [[.i .u8 (128 + n % 128)]]) else (n, l)
theorem isBytes_snoc : ∀ {l : List (List D)} {x : Int}, isBytes l = true → isBytes (l ++ [[.i .u8 x]]) = true
  | [], x, _ => rfl
  | r :: l, x, h => by
    unfold isBytes at h
    split at h
    · rename_i e; cases e
    · rename_i e; cases e; simp only [List.cons_append, isBytes]; exact isBytes_snoc h
    · cases h
theorem bytesD_len : ∀ (l : List (List D)), (bytesD l).length ≤ l.length
  | [] => by simp [bytesD]
  | r :: l => by
    unfold bytesD
    split
    · rename_i e; cases e; simpa using bytesD_len l
    · simp
theorem vp_is : ∀ (k : Nat) (n : Int) (l : List (List D)), isBytes l = true → isBytes (vp k n l).2 = true ∧ (vp k n l).2.length ≤ l.length + k
  | 0, n, l, h => ⟨h, Nat.le_refl _⟩
  | k + 1, n, l, h => by
    unfold vp
    split
    · have := vp_is k (n / 128) (l ++ [[.i .u8 (128 + n % 128)]]) (isBytes_snoc h)
      simp only [List.length_append, List.length_cons, List.length_nil] at this
      exact ⟨this.1, by omega⟩
    · exact ⟨h, by simp only; omega⟩
theorem tdiv_pos (n : Int) (h : 0 ≤ n) : n.tdiv 128 = n / 128 := Int.tdiv_eq_ediv_of_nonneg h
theorem tmod_pos (n : Int) (h : 0 ≤ n) : n.tmod 128 = n % 128 := Int.tmod_eq_emod_of_nonneg h
theorem spec_loop (q : Int → Bool → List (List D) → Rs) (s0 : ByteArray) (b0 : Bool) : ∀ (k m : Nat) (n : Int) (v : SV) (l : List (List D)), 0 ≤ n → n < 128 ^ (k + 1) → n < 4611686018427387904 → k < m → l.length + k < 1000 →
    la89o1 t60 s0 b0 q m n v l = q (vp k n l).1 false (vp k n l).2 := by
  intro k
  induction k with
  | zero =>
    intro m n v l h0 h1 h2 h3 h4
    obtain ⟨m, rfl⟩ : ∃ m', m = m' + 1 := ⟨m - 1, by omega⟩
    have e : ¬ n ≥ 128 := by omega
    simp [la89o1, e, vp]
  | succ k ih =>
    intro m n v l h0 h1 h2 h3 h4
    obtain ⟨m, rfl⟩ : ∃ m', m = m' + 1 := ⟨m - 1, by omega⟩
    by_cases e : n ≥ 128
    · simp only [la89o1, vp, e, decide_true, if_true, tmod_pos n h0, tdiv_pos n h0]
      rw [w64_in (n / 128) (by omega), w64_in (128 + n % 128) (by omega), u8_in _ (by omega), chk_ok (by simp [flatR, allSc, isSc, lim]; omega)]
      refine ih m (n / 128) _ _ (by omega) ?_ (by omega) (by omega) (by simp; omega)
      rw [Int.ediv_lt_iff_lt_mul (by omega)]
      rw [Int.pow_succ] at h1
      exact h1
    · simp [la89o1, e, vp]
/-- A whole number as a text. -/
def varS (n : Int) : ByteArray := if 0 ≤ n ∧ n ≤ 562949953421311 then ⟨(bytesD ((vp 6 n []).2 ++ [[.i .u8 (IntKind.wrap .u8 (vp 6 n []).1)]])).toArray⟩ else ⟨#[]⟩
theorem varS_size (n : Int) : (varS n).size ≤ 10 := by
  unfold varS
  split
  · have h := (vp_is 6 n [] rfl).2
    have h2 := bytesD_len ((vp 6 n []).2 ++ [[.i .u8 (IntKind.wrap .u8 (vp 6 n []).1)]])
    simp only [List.length_append, List.length_cons, List.length_nil] at h h2
    show (List.toArray _).size ≤ 10
    simp only [List.size_toArray]
    omega
  · exact Nat.zero_le _
theorem var_spec (n : Int) : t89 n = some ([.one (.s (varS n))], []) := by
  unfold t89 ta89 varS
  simp only [in_eq, zr60, zo60]
  by_cases h : 0 ≤ n ∧ n ≤ 562949953421311
  · simp [h]
    rw [spec_loop _ _ _ 6 KK n .undef [] h.1 (by omega) (by omega) (by rw [KK_eq]; omega) (by simp)]
    have h1 := vp_is 6 n [] rfl
    simp only [List.length_nil] at h1
    rw [chk_ok (by simp [flatR, allSc, isSc, lim]; omega), chk_ok (isBytes_snoc h1.1)]
  · have : ((decide (0 ≤ n) && decide (n ≤ 562949953421311)) = false) := by simpa using h
    simp [h, this]
end Go.Den.L14

/- Whole numbers read from bytes. -/
namespace Go.Den.L14
open Go Go.IntWalk
def val : List UInt8 → Nat | [] => 0 | b :: t => b.toNat % 128 + 128 * val t
def enc : Nat → Nat → List UInt8
  | 0, n => [UInt8.ofNat n]
  | k + 1, n => if n ≥ 128 then UInt8.ofNat (128 + n % 128) :: enc k (n / 128) else [UInt8.ofNat n]
def good : List UInt8 → Bool
  | [] => false
  | [b] => decide (b.toNat < 128)
  | b :: c :: t => decide (b.toNat ≥ 128) && (decide (0 < val (c :: t)) && good (c :: t))
theorem ofNat_is (x : Nat) (b : UInt8) (hx : x < 256) : UInt8.ofNat x = b ↔ x = b.toNat := by
  constructor
  · intro h; subst h; simp; omega
  · intro h; subst h; simp
theorem enc_good : ∀ (t : List UInt8) (k : Nat), t.length ≤ k + 1 → (enc k (val t) = t ↔ good t = true)
  | [], k, _ => by
    cases k <;> simp [enc, val, good]
  | [b], k, _ => by
    have hb := b.toNat_lt
    have e : enc k (b.toNat % 128 + 128 * 0) = [UInt8.ofNat (b.toNat % 128)] := by
      cases k with
      | zero => rfl
      | succ k => simp only [enc]; rw [if_neg (by omega)]; simp
    simp only [val, e, good, List.cons.injEq, and_true, decide_eq_true_eq]
    rw [ofNat_is _ _ (by omega)]
    omega
  | b :: c :: t, k, h => by
    have hb := b.toNat_lt
    obtain ⟨k, rfl⟩ : ∃ k', k = k' + 1 := ⟨k - 1, by simp at h; omega⟩
    have ih := enc_good (c :: t) k (by simp at h ⊢; omega)
    have e : val (b :: c :: t) = b.toNat % 128 + 128 * val (c :: t) := rfl
    generalize hv : val (c :: t) = v at *
    simp only [good, hv, Bool.and_eq_true, decide_eq_true_eq]
    rw [e]
    simp only [enc]
    by_cases hz : v = 0
    · rw [if_neg (by omega)]
      simp; omega
    · rw [if_pos (by omega), show (b.toNat % 128 + 128 * v) / 128 = v by omega, show (b.toNat % 128 + 128 * v) % 128 = b.toNat % 128 by omega]
      simp only [List.cons.injEq, ih]
      rw [ofNat_is _ _ (by omega)]
      constructor
      · rintro ⟨h1, h2⟩; exact ⟨by omega, by omega, h2⟩
      · rintro ⟨h1, h2, h3⟩; exact ⟨by omega, h3⟩
theorem val_take : ∀ (bs : List UInt8) (i : Nat), i < bs.length → val (bs.take (i + 1)) = val (bs.take i) + 128 ^ i * ((bs.getD i 0).toNat % 128)
  | [], i, h => by simp at h
  | b :: t, 0, _ => by simp [val]
  | b :: t, i + 1, h => by
    have ih := val_take t i (by simpa using h)
    simp only [List.take_succ_cons, val, ih, List.getD_cons_succ]
    rw [Nat.pow_succ, Nat.mul_add, Nat.mul_comm (128 ^ i) 128, Nat.mul_assoc]
    omega
theorem val_lt : ∀ (t : List UInt8), val t < 128 ^ t.length
  | [] => by simp [val]
  | b :: t => by
    have := val_lt t
    simp only [val, List.length_cons, Nat.pow_succ]
    omega
theorem good_take : ∀ (bs : List UInt8) (i : Nat), i < bs.length → (∀ j, j < i → (bs.getD j 0).toNat ≥ 128) → (good (bs.take (i + 1)) = true ↔ (bs.getD i 0).toNat < 128 ∧ (i = 0 ∨ (bs.getD i 0).toNat ≠ 0))
  | [], i, h, _ => by simp at h
  | b :: t, 0, _, _ => by simp [good]
  | b :: t, i + 1, h, hj => by
    have hi : i < t.length := by simpa using h
    have ih := good_take t i hi (fun j hj' => by simpa using hj (j + 1) (by omega))
    have hb : b.toNat ≥ 128 := by simpa using hj 0 (by omega)
    have hv := val_take t i hi
    obtain ⟨c, t', ht⟩ : ∃ c t', t.take (i + 1) = c :: t' := by
      cases t with
      | nil => simp at hi
      | cons c t => exact ⟨c, _, rfl⟩
    simp only [List.take_succ_cons, List.getD_cons_succ]
    rw [ht] at ih hv ⊢
    simp only [good, Bool.and_eq_true, decide_eq_true_eq, ih]
    have hp : 0 < 128 ^ i := Nat.pow_pos (by omega)
    constructor
    · rintro ⟨_, h2, h3, h4⟩
      refine ⟨h3, .inr ?_⟩
      rcases h4 with rfl | h4
      · intro hz
        rw [hz] at hv
        simp at hv
        have h0 : val ([] : List UInt8) = 0 := rfl
        omega
      · exact h4
    · rintro ⟨h1, h2⟩
      have h2 : (t.getD i 0).toNat ≠ 0 := by rcases h2 with h2 | h2; omega; exact h2
      refine ⟨hb, ?_, h1, .inr h2⟩
      have : 0 < 128 ^ i * ((t.getD i 0).toNat % 128) := Nat.mul_pos hp (by omega)
      omega
theorem good_in : ∀ (t : List UInt8), good t = true → ∀ j, j + 1 < t.length → (t.getD j 0).toNat ≥ 128
  | [], h, _, _ => by simp [good] at h
  | [b], _, j, hj => by simp at hj
  | b :: c :: t, h, j, hj => by
    simp only [good, Bool.and_eq_true, decide_eq_true_eq] at h
    cases j with
    | zero => simpa using h.1
    | succ j => simpa using good_in (c :: t) h.2.2 j (by simpa using hj)
theorem bytesD_snoc : ∀ {l : List (List D)} {x : Int}, isBytes l = true → bytesD (l ++ [[.i .u8 x]]) = bytesD l ++ [UInt8.ofNat x.toNat]
  | [], x, _ => rfl
  | r :: l, x, h => by
    unfold isBytes at h
    split at h
    · rename_i e; cases e
    · rename_i e; cases e; simp only [List.cons_append, bytesD]; rw [bytesD_snoc h]
    · cases h
theorem vp_enc : ∀ (k : Nat) (n : Int) (l : List (List D)), isBytes l = true → 0 ≤ n → n < 128 ^ (k + 1) → bytesD ((vp k n l).2 ++ [[.i .u8 (IntKind.wrap .u8 (vp k n l).1)]]) = bytesD l ++ enc k n.toNat
  | 0, n, l, h, h0, h1 => by
    simp only [vp, enc]
    rw [u8_in _ (by omega), bytesD_snoc h]
  | k + 1, n, l, h, h0, h1 => by
    unfold vp
    by_cases g : n ≥ 128
    · rw [if_pos g, vp_enc k (n / 128) _ (isBytes_snoc h) (by omega) (by
        rw [Int.ediv_lt_iff_lt_mul (by omega)]; rw [Int.pow_succ] at h1; exact h1), bytesD_snoc h]
      simp only [enc]
      rw [if_pos (by omega), List.append_assoc, show (128 + n % 128).toNat = 128 + n.toNat % 128 by omega, show (n / 128).toNat = n.toNat / 128 by omega]
      rfl
    · rw [if_neg g]
      simp only
      rw [u8_in _ (by omega), bytesD_snoc h]
      simp only [enc]
      rw [if_neg (by omega)]
theorem varS_enc (n : Int) (h0 : 0 ≤ n) (h1 : n ≤ 562949953421311) : (varS n).toList = enc 6 n.toNat := by
  unfold varS
  rw [if_pos ⟨h0, h1⟩, ByteArray.toList_eq]
  simp only [vp_enc 6 n [] rfl h0 (by omega), bytesD, List.nil_append]
/-- What is read from the bytes behind the i-th, those before it being 128 and more. -/
def rdL (bs : List UInt8) : Nat → Nat → Int × Int
  | 0, _ => (0, 0)
  | f + 1, i => if i < bs.length ∧ i < 7 then
      (if (bs.getD i 0).toNat ≥ 128 then rdL bs f (i + 1) else if (bs.getD i 0).toNat = 0 ∧ i > 0 then (0, 0) else (((val (bs.take (i + 1)) : Nat) : Int), ((i + 1 : Nat) : Int)))
    else (0, 0)
def rdV (s : ByteArray) : Int × Int := rdL s.data.toList 8 0
theorem get_is (s : ByteArray) (i : Nat) (h : i < s.size) : s.get! i = s.data.toList.getD i 0 := by
  have h' : i < s.data.size := h
  show s.data[i]! = _
  rw [getElem!_pos s.data i h']
  simp [List.getD, List.getElem?_eq_getElem (show i < s.data.toList.length by simpa using h')]
theorem extract_is (s : ByteArray) (a b : Nat) : (s.extract a b).toList = (s.data.toList.take b).drop a := by
  rw [ByteArray.toList_eq, ByteArray.data_extract, Array.toList_extract]
  simp [List.extract, List.drop_take]
theorem rdL_is (bs : List UInt8) : ∀ (f i : Nat), f + i = 8 → (∀ j, j < i → (bs.getD j 0).toNat ≥ 128) → rdL bs f i = (0, 0) ∨ ∃ k : Nat, 1 ≤ k ∧ k ≤ 7 ∧ k ≤ bs.length ∧ rdL bs f i = (((val (bs.take k) : Nat) : Int), (k : Int)) ∧ good (bs.take k) = true
  | 0, i, _, _ => .inl rfl
  | f + 1, i, e, hj => by
    unfold rdL
    by_cases h : i < bs.length ∧ i < 7
    · rw [if_pos h]
      by_cases g : (bs.getD i 0).toNat ≥ 128
      · rw [if_pos g]
        exact rdL_is bs f (i + 1) (by omega) (fun j hj' => by
          by_cases e' : j = i
          · subst e'; exact g
          · exact hj j (by omega))
      · rw [if_neg g]
        by_cases g2 : (bs.getD i 0).toNat = 0 ∧ i > 0
        · rw [if_pos g2]; exact .inl rfl
        · rw [if_neg g2]
          exact .inr ⟨i + 1, by omega, by omega, by omega, rfl, (good_take bs i h.1 hj).2 ⟨by omega, by omega⟩⟩
    · rw [if_neg h]; exact .inl rfl
theorem rdV_is (s : ByteArray) : rdV s = (0, 0) ∨ ∃ k : Nat, 1 ≤ k ∧ k ≤ 7 ∧ k ≤ s.size ∧ rdV s = (((val (s.data.toList.take k) : Nat) : Int), (k : Int)) ∧ good (s.data.toList.take k) = true := by
  have := rdL_is s.data.toList 8 0 rfl (by omega)
  have e : s.data.toList.length = s.size := by simp
  rw [e] at this
  exact this
theorem val_le (bs : List UInt8) (k : Nat) (h : k ≤ 7) : val (bs.take k) ≤ 562949953421311 := by
  have h1 := val_lt (bs.take k)
  have h2 : 128 ^ (bs.take k).length ≤ 128 ^ 7 := Nat.pow_le_pow_right (by omega) (by simp; omega)
  omega
/-- What was read is shown so again. -/
theorem rdV_back (s : ByteArray) (h : (rdV s).2 ≠ 0) : varS (rdV s).1 = s.extract 0 (rdV s).2.toNat := by
  rcases rdV_is s with h0 | ⟨k, h1, h2, h3, h4, h5⟩
  · rw [h0] at h; exact absurd rfl h
  · rw [h4]
    have hv := val_le s.data.toList k h2
    have e1 := varS_enc (val (s.data.toList.take k) : Nat) (by omega) (by omega)
    have e2 := (enc_good (s.data.toList.take k) 6 (by simp; omega)).2 h5
    have e3 := extract_is s 0 k
    simp only [Int.toNat_natCast] at e1 ⊢
    rw [e2] at e1
    simp only [List.drop_zero] at e3
    rw [← e1, ByteArray.toList_eq, ByteArray.toList_eq] at e3
    exact ByteArray.ext (Array.ext' e3.symm)
theorem rdV_rng (s : ByteArray) : 0 ≤ (rdV s).1 ∧ (rdV s).1 ≤ 562949953421311 ∧ 0 ≤ (rdV s).2 ∧ (rdV s).2 ≤ 7 ∧ (rdV s).2 ≤ (s.size : Int) := by
  rcases rdV_is s with h0 | ⟨k, h1, h2, h3, h4, h5⟩
  · rw [h0]; simp
  · have := val_le s.data.toList k h2
    rw [h4]; simp only; omega
theorem or_add (n b i : Nat) (hn : n < 2 ^ (7 * i)) (hb : b < 128) (hi : i ≤ 6) : bitOr .i64 (n : Int) ((b * 2 ^ (7 * i) : Nat) : Int) = ((n + b * 2 ^ (7 * i) : Nat) : Int) := by
  have h7 : 2 ^ (7 * i) ≤ 2 ^ 42 := Nat.pow_le_pow_right (by omega) (by omega)
  have h8 : b * 2 ^ (7 * i) ≤ 127 * 2 ^ 42 := Nat.mul_le_mul (by omega) h7
  have h9 : 2 ^ (7 * i) * b = b * 2 ^ (7 * i) := Nat.mul_comm _ _
  unfold bitOr
  show IntKind.wrap .i64 (((BitVec.ofInt 64 (n : Int)) ||| (BitVec.ofInt 64 ((b * 2 ^ (7 * i) : Nat) : Int))).toNat : Int) = _
  have e2 : 2 ^ (7 * i) * b + n = 2 ^ (7 * i) * b ||| n := Nat.two_pow_add_eq_or_of_lt hn b
  rw [BitVec.toNat_or, ofInt_nat _ (by omega), ofInt_nat _ (by omega), Nat.or_comm, ← h9, ← e2, i64_in _ (by omega), h9]
  omega
theorem and127 (n : Nat) (h : n < 256) : bitAnd .i64 (n : Int) 127 = ((n % 128 : Nat) : Int) := by
  unfold bitAnd
  show IntKind.wrap .i64 (((BitVec.ofInt 64 (n : Int)) &&& (BitVec.ofInt 64 ((127 : Nat) : Int))).toNat : Int) = _
  rw [BitVec.toNat_and, ofInt_nat n (by omega), ofInt_nat 127 (by omega), show (127 : Nat) = 2 ^ 7 - 1 by rfl, Nat.and_two_pow_sub_one_eq_mod, i64_in _ (by omega)]
theorem rdI_loop (s : ByteArray) (n8 n9 : Int) (q1 : Int → Int → Int → Int → Int → Bool → Bool → Bool → Rs) (q2 : Int → Int → SV → Bool → SV → Rs)
    (h1 : ∀ a b c d e f g h, q1 a b c d e f g h = some ([.one (.i .i64 a), .one (.i .i64 b)], [])) (h2 : ∀ a b c d e, q2 a b c d e = some ([.one (.i .i64 0), .one (.i .i64 0)], [])) :
    ∀ (f i m : Nat) (u v w : SV), f + i = 8 → 8 < m + i → (∀ j, j < i → (s.data.toList.getD j 0).toNat ≥ 128) →
    l86o0 s n8 n9 q1 q2 m ((val (s.data.toList.take i) : Nat) : Int) i u v w = some ([.one (.i .i64 (rdL s.data.toList f i).1), .one (.i .i64 (rdL s.data.toList f i).2)], []) := by
  have e0 : s.data.toList.length = s.size := by simp
  intro f
  induction f with
  | zero =>
    intro i m u v w e hm hj
    obtain ⟨m, rfl⟩ : ∃ m', m = m' + 1 := ⟨m - 1, by omega⟩
    have ei : decide ((i : Int) < 7) = false := by simp; omega
    simp only [l86o0, ei, Bool.and_false, Bool.false_eq_true, if_false, h2, rdL]
  | succ f ih =>
    intro i m u v w e hm hj
    obtain ⟨m, rfl⟩ : ∃ m', m = m' + 1 := ⟨m - 1, by omega⟩
    by_cases h : i < s.data.toList.length ∧ i < 7
    · have a1 : decide ((i : Int) < (s.size : Int)) = true := by rw [e0] at h; simp; omega
      have a2 : decide ((i : Int) < 7) = true := by simp; omega
      have a3 : decide ((0 : Int) ≤ (i : Int) ∧ (i : Int) < (s.size : Int)) = true := by rw [e0] at h; simp; omega
      have a4 : w64 (7 * (i : Int)) = ((7 * i : Nat) : Int) := by rw [w64_in _ (by omega)]; omega
      have a5 : decide ((0 : Int) ≤ ((7 * i : Nat) : Int)) = true := decide_eq_true (by omega)
      have hb := (s.data.toList.getD i 0).toNat_lt
      have hg := get_is s i (by omega)
      have hv := val_take s.data.toList i h.1
      have hlt := val_lt (s.data.toList.take i)
      have hl' : (s.data.toList.take i).length = i := by simp only [List.length_take]; omega
      rw [hl'] at hlt
      have e128 : (128 : Nat) ^ i = 2 ^ (7 * i) := by rw [show (128 : Nat) = 2 ^ 7 from rfl, ← Nat.pow_mul]
      have h7 : 2 ^ (7 * i) ≤ 2 ^ 42 := Nat.pow_le_pow_right (by omega) (by omega)
      generalize hbb : (s.data.toList.getD i 0).toNat = b at *
      have a6 : w64 (b : Int) = (b : Int) := w64_in _ (by omega)
      have a7 : min (7 * i) (IntKind.bits .i64) = 7 * i := Nat.min_eq_left (by show 7 * i ≤ 64; omega)
      have h8 : b % 128 * 2 ^ (7 * i) ≤ 127 * 2 ^ 42 := Nat.mul_le_mul (by omega) h7
      have a8 : w64 (((b % 128 : Nat) : Int) * 2 ^ (7 * i)) = ((b % 128 * 2 ^ (7 * i) : Nat) : Int) := by
        have : ((b % 128 : Nat) : Int) * 2 ^ (7 * i) = ((b % 128 * 2 ^ (7 * i) : Nat) : Int) := by simp
        rw [this, w64_in _ (by omega)]
      have a9 : bitOr .i64 ((val (s.data.toList.take i) : Nat) : Int) ((b % 128 * 2 ^ (7 * i) : Nat) : Int) = ((val (s.data.toList.take (i + 1)) : Nat) : Int) := by
        rw [or_add _ _ i (by omega) (by omega) (by omega), hv, e128, Nat.mul_comm (b % 128)]
      simp only [l86o0, a1, a2, a3, a4, a5, Int.toNat_natCast, hg, hbb, a6, and127 b hb, a7, a8, a9, Bool.and_true, chk_true, if_true, rdL]
      rw [if_pos h]
      by_cases g : b ≥ 128
      · have g' : decide ((b : Int) > 127) = true := by simp; omega
        simp only [g', if_true, hbb, if_pos g]
        rw [w64_succ i (by omega)]
        exact ih (i + 1) m _ _ _ (by omega) (by omega) (fun j hj' => by
          by_cases e' : j = i
          · subst e'; omega
          · exact hj j (by omega))
      · have g' : decide ((b : Int) > 127) = false := by simp; omega
        simp only [g', Bool.false_eq_true, if_false, hbb, if_neg g]
        by_cases g2 : b = 0 ∧ i > 0
        · have g3 : (((b : Int) == 0) && decide ((i : Int) > 0)) = true := by simp; omega
          simp only [g3, if_true, h1, if_pos g2]
        · have g3 : (((b : Int) == 0) && decide ((i : Int) > 0)) = false := by
            rw [Bool.eq_false_iff]; simp; omega
          simp only [g3, Bool.false_eq_true, if_false, h1, if_neg g2, w64_succ i (by omega)]
    · have a1 : (decide ((i : Int) < (s.size : Int)) && decide ((i : Int) < 7)) = false := by
        rw [e0] at h; rw [Bool.eq_false_iff]; simp; omega
      simp only [l86o0, a1, Bool.false_eq_true, if_false, h2, rdL, if_neg h]
theorem readVar_impl (s : ByteArray) : t86 s = some ([.one (.i .i64 (rdV s).1), .one (.i .i64 (rdV s).2)], []) :=
  rdI_loop s 0 0 (fun n36 n37 _ _ _ _ _ _ => some ([.one (.i .i64 n36), .one (.i .i64 n37)], [])) (fun _ _ _ _ _ => some ([.one (.i .i64 0), .one (.i .i64 0)], [])) (fun _ _ _ _ _ _ _ _ => rfl) (fun _ _ _ _ _ => rfl) 8 0 KK .undef .undef .undef rfl (by rw [KK_eq]; omega) (by omega)
theorem rdS_in (s : ByteArray) (n54 n55 n56 : Int) (b59 : Bool) (q : Int → Int → Bool → SV → Rs) (k : Nat) (hk : k ≤ 7) (hks : k ≤ s.size) : ∀ (j m n : Nat) (v w : SV), j ≤ k → j < m → n < 128 ^ (k - j) →
    ∃ d, la84o2 t89 s n54 n55 n56 b59 q m (n : Int) ((j : Int) - 1) v w = q ((n * 128 ^ j + val (s.data.toList.take j) : Nat) : Int) (-1) false d := by
  intro j
  induction j with
  | zero =>
    intro m n v w hj hm hn
    obtain ⟨m, rfl⟩ : ∃ m', m = m' + 1 := ⟨m - 1, by omega⟩
    exact ⟨_, by simp [la84o2, val]; rfl⟩
  | succ j ih =>
    intro m n v w hj hm hn
    obtain ⟨m, rfl⟩ : ∃ m', m = m' + 1 := ⟨m - 1, by omega⟩
    have e0 : s.data.toList.length = s.size := by simp
    have a0 : (((j + 1 : Nat) : Int) - 1) = (j : Int) := by omega
    have a1 : decide ((j : Int) ≥ 0) = true := by simp
    have a3 : decide ((0 : Int) ≤ (j : Int) ∧ (j : Int) < (s.size : Int)) = true := by simp; omega
    have hg := get_is s j (by omega)
    have hv := val_take s.data.toList j (by omega)
    have hb := (s.data.toList.getD j 0).toNat_lt
    generalize hbb : (s.data.toList.getD j 0).toNat = b at *
    have hn7 : 128 ^ (k - (j + 1)) ≤ 128 ^ 6 := Nat.pow_le_pow_right (by omega) (by omega)
    have hp : n * 128 < 128 ^ (k - j) := by rw [show k - j = (k - (j + 1)) + 1 by omega, Nat.pow_succ]; omega
    have a6 : w64 (b : Int) = (b : Int) := w64_in _ (by omega)
    have a7 : w64 (w64 ((n : Int) * 128) + ((b : Int)).tmod 128) = ((n * 128 + b % 128 : Nat) : Int) := by
      rw [Int.tmod_eq_emod_of_nonneg (by omega), w64_in ((n : Int) * 128) (by omega), w64_in _ (by omega)]; omega
    have a8 : w64 ((j : Int) - 1) = (j : Int) - 1 := w64_in _ (by omega)
    have hq : (n * 128 + b % 128) < 128 ^ (k - j) := by
      rw [show k - j = (k - (j + 1)) + 1 by omega, Nat.pow_succ] at hp ⊢; omega
    obtain ⟨d, hd⟩ := ih m (n * 128 + b % 128) (.d (.b true)) (keepV [] w) (by omega) (by omega) hq
    refine ⟨d, ?_⟩
    simp only [la84o2, a0, a1, a3, Int.toNat_natCast, hg, hbb, a6, a7, a8, chk_true, if_true]
    rw [hd]
    congr 2
    rw [hv, Nat.add_mul, Nat.pow_succ, Nat.mul_assoc, Nat.mul_comm 128 (128 ^ j), Nat.mul_comm (b % 128)]
    omega
theorem rdS_step (s : ByteArray) (n36 n37 : Int) (q1 : Int → Int → Int → Bool → Bool → Bool → Rs) (q2 : Int → SV → SV → Bool → SV → SV → Rs) (k m : Nat) (v1 v2 v3 v4 v5 : SV) (h1 : 1 ≤ k) (h7 : k ≤ 7) (hs : k ≤ s.size) :
    la84o0 t89 s n36 n37 q1 q2 (m + 1) k v1 v2 v3 v4 v5 = if good (s.data.toList.take k) = true then q1 ((val (s.data.toList.take k) : Nat) : Int) k (-1) true false true else la84o0 t89 s n36 n37 q1 q2 m ((k + 1 : Nat) : Int) (.d (.i .i64 ((val (s.data.toList.take k) : Nat) : Int))) (.d (.i .i64 (-1))) (.d (.b true)) (.d (.b false)) (.d (.b false)) := by
  have a1 : (decide ((k : Int) ≤ 7) && decide ((k : Int) ≤ (s.size : Int))) = true := by simp; omega
  have a2 : w64 ((k : Int) - 1) = (k : Int) - 1 := w64_in _ (by omega)
  have a3 : decide ((0 : Int) ≤ 0 ∧ (0 : Int) ≤ (k : Int) ∧ (k : Int) ≤ (s.size : Int)) = true := by simp; omega
  have e0 : s.data.toList.length = s.size := by simp
  simp only [la84o0, a1, if_true, a2]
  obtain ⟨d, hd⟩ := rdS_in s n36 n37 k true (fun n75 n76 b77 v78 =>
       chk (okR zr89 zo89 (t89 n75)) <|
       chk (decide ((0 : Int) ≤ 0 ∧ (0 : Int) ≤ (k : Int) ∧ (k : Int) ≤ (s.size : Int))) <|
       if ((asS (resC (t89 n75) 0 0)).toList == (s.extract (0 : Int).toNat (k : Int).toNat).toList) = true then
        q1 n75 k n76 true b77 ((asS (resC (t89 n75) 0 0)).toList == (s.extract (0 : Int).toNat (k : Int).toNat).toList)
       else
        la84o0 t89 s n36 n37 q1 q2 m (w64 ((k : Int) + 1)) (.d (.i .i64 n75)) (.d (.i .i64 n76)) (.d (.b true)) (.d (.b b77)) (.d (.b ((asS (resC (t89 n75) 0 0)).toList == (s.extract (0 : Int).toNat (k : Int).toNat).toList)))) k h7 hs k KK 0 v4 v5 (Nat.le_refl _) (by rw [KK_eq]; omega) (by simp)
  refine Eq.trans hd ?_
  have ew : ∀ x, okR zr89 zo89 (some ([.one (.s x)], [])) = true := fun _ => rfl
  have eb : ∀ x, asS (resC (some ([.one (.s x)], [])) 0 0) = x := fun _ => rfl
  have hv := val_le s.data.toList k h7
  have ec : ((varS ((val (s.data.toList.take k) : Nat) : Int)).toList == (s.extract (0 : Int).toNat (k : Int).toNat).toList) = good (s.data.toList.take k) := by
    rw [varS_enc _ (by omega) (by omega), extract_is, Int.toNat_natCast, Int.toNat_natCast, Bool.eq_iff_iff, beq_iff_eq, show (0 : Int).toNat = 0 from rfl, List.drop_zero]
    exact enc_good _ 6 (by simp; omega)
  simp only [var_spec, ew, eb, a3, chk_true, Nat.zero_mul, Nat.zero_add, ec, w64_succ k (by omega)]
  cases good (s.data.toList.take k) <;> rfl
theorem rdS_end (s : ByteArray) (n36 n37 : Int) (q1 : Int → Int → Int → Bool → Bool → Bool → Rs) (q2 : Int → SV → SV → Bool → SV → SV → Rs) (h2 : ∀ a b c d e f, q2 a b c d e f = some ([.one (.i .i64 0), .one (.i .i64 0)], [])) (k m : Nat) (v1 v2 v3 v4 v5 : SV) (h : ¬ (k ≤ 7 ∧ k ≤ s.size)) :
    la84o0 t89 s n36 n37 q1 q2 (m + 1) k v1 v2 v3 v4 v5 = some ([.one (.i .i64 0), .one (.i .i64 0)], []) := by
  have a1 : (decide ((k : Int) ≤ 7) && decide ((k : Int) ≤ (s.size : Int))) = false := by rw [Bool.eq_false_iff]; simp; omega
  simp only [la84o0, a1, Bool.false_eq_true, if_false, h2]
theorem rdS_dead (s : ByteArray) (n36 n37 : Int) (q1 : Int → Int → Int → Bool → Bool → Bool → Rs) (q2 : Int → SV → SV → Bool → SV → SV → Rs) (h2 : ∀ a b c d e f, q2 a b c d e f = some ([.one (.i .i64 0), .one (.i .i64 0)], [])) (j : Nat) (hj : (s.data.toList.getD j 0).toNat < 128) :
    ∀ (f k m : Nat) (v1 v2 v3 v4 v5 : SV), f + k = 9 → 9 < m + k → j + 1 < k → la84o0 t89 s n36 n37 q1 q2 m k v1 v2 v3 v4 v5 = some ([.one (.i .i64 0), .one (.i .i64 0)], []) := by
  have e0 : s.data.toList.length = s.size := by simp
  intro f
  induction f with
  | zero =>
    intro k m v1 v2 v3 v4 v5 e hm hk
    obtain ⟨m, rfl⟩ : ∃ m', m = m' + 1 := ⟨m - 1, by omega⟩
    exact rdS_end s n36 n37 q1 q2 h2 k m _ _ _ _ _ (by omega)
  | succ f ih =>
    intro k m v1 v2 v3 v4 v5 e hm hk
    obtain ⟨m, rfl⟩ : ∃ m', m = m' + 1 := ⟨m - 1, by omega⟩
    by_cases h : k ≤ 7 ∧ k ≤ s.size
    · rw [rdS_step s n36 n37 q1 q2 k m _ _ _ _ _ (by omega) h.1 h.2, if_neg]
      · exact ih (k + 1) m _ _ _ _ _ (by omega) (by omega) (by omega)
      · intro hg
        have hl' : (s.data.toList.take k).length = k := by simp only [List.length_take]; omega
        have := good_in _ hg j (by omega)
        have e1 : (s.data.toList.take k).getD j 0 = s.data.toList.getD j 0 := by simp [List.getD, List.getElem?_take, show j < k by omega]
        rw [e1] at this
        omega
    · exact rdS_end s n36 n37 q1 q2 h2 k m _ _ _ _ _ h
theorem rdS_loop (s : ByteArray) (n36 n37 : Int) (q1 : Int → Int → Int → Bool → Bool → Bool → Rs) (q2 : Int → SV → SV → Bool → SV → SV → Rs) (h1 : ∀ a b c d e f, q1 a b c d e f = some ([.one (.i .i64 a), .one (.i .i64 b)], [])) (h2 : ∀ a b c d e f, q2 a b c d e f = some ([.one (.i .i64 0), .one (.i .i64 0)], [])) :
    ∀ (f i m : Nat) (v1 v2 v3 v4 v5 : SV), f + i = 8 → 9 < m + i → (∀ j, j < i → (s.data.toList.getD j 0).toNat ≥ 128) →
    la84o0 t89 s n36 n37 q1 q2 m ((i + 1 : Nat) : Int) v1 v2 v3 v4 v5 = some ([.one (.i .i64 (rdL s.data.toList f i).1), .one (.i .i64 (rdL s.data.toList f i).2)], []) := by
  have e0 : s.data.toList.length = s.size := by simp
  intro f
  induction f with
  | zero =>
    intro i m v1 v2 v3 v4 v5 e hm hj
    obtain ⟨m, rfl⟩ : ∃ m', m = m' + 1 := ⟨m - 1, by omega⟩
    exact rdS_end s n36 n37 q1 q2 h2 (i + 1) m _ _ _ _ _ (by omega)
  | succ f ih =>
    intro i m v1 v2 v3 v4 v5 e hm hj
    obtain ⟨m, rfl⟩ : ∃ m', m = m' + 1 := ⟨m - 1, by omega⟩
    unfold rdL
    by_cases h : i < s.data.toList.length ∧ i < 7
    · rw [if_pos h, rdS_step s n36 n37 q1 q2 (i + 1) m _ _ _ _ _ (by omega) (by omega) (by omega)]
      have hgt := good_take s.data.toList i h.1 hj
      by_cases g : (s.data.toList.getD i 0).toNat ≥ 128
      · rw [if_pos g, if_neg (by rw [hgt]; omega)]
        exact ih (i + 1) m _ _ _ _ _ (by omega) (by omega) (fun j hj' => by
          by_cases e' : j = i
          · subst e'; exact g
          · exact hj j (by omega))
      · rw [if_neg g]
        by_cases g2 : (s.data.toList.getD i 0).toNat = 0 ∧ i > 0
        · rw [if_pos g2, if_neg (by rw [hgt]; omega)]
          exact rdS_dead s n36 n37 q1 q2 h2 i (by omega) (7 - i) (i + 1 + 1) m _ _ _ _ _ (by omega) (by omega) (by omega)
        · rw [if_neg g2, if_pos (hgt.2 ⟨by omega, by omega⟩), h1]
    · rw [if_neg h]
      exact rdS_end s n36 n37 q1 q2 h2 (i + 1) m _ _ _ _ _ (by omega)
theorem readVar_spec (s : ByteArray) : t84 s = some ([.one (.i .i64 (rdV s).1), .one (.i .i64 (rdV s).2)], []) :=
  rdS_loop s 0 0 (fun n36 n37 _ _ _ _ => some ([.one (.i .i64 n36), .one (.i .i64 n37)], [])) (fun _ _ _ _ _ _ => some ([.one (.i .i64 0), .one (.i .i64 0)], [])) (fun _ _ _ _ _ _ => rfl) (fun _ _ _ _ _ _ => rfl) 8 0 KK .undef .undef .undef .undef .undef rfl (by rw [KK_eq]; omega) (by omega)
end Go.Den.L14

/- Results read; what a client hears. -/
namespace Go.Den.L14
open Go
theorem extract_all (s : ByteArray) : s.extract 0 s.size = s := by
  apply ByteArray.ext
  rw [ByteArray.data_extract]
  exact Array.extract_size
theorem extract_join (s : ByteArray) (k : Nat) (h : k ≤ s.size) : s.extract 0 k ++ s.extract k s.size = s := by
  apply ByteArray.ext
  rw [ByteArray.data_append, ByteArray.data_extract, ByteArray.data_extract, Array.extract_append_extract]
  have e : max k s.size = s.data.size := by have : s.size = s.data.size := rfl; omega
  have e0 : min 0 k = 0 := by omega
  rw [e, e0]
  exact Array.extract_size
theorem extract_sz (s : ByteArray) (a : Nat) : (s.extract a s.size).size = s.size - a := by
  rw [ByteArray.size_extract]; omega
def resOk (n : Int) (s : ByteArray) : Bool := decide (0 ≤ n ∧ n ≤ 200 ∧ (s.size : Int) ≤ 400)
/-- A result read: is it one, its code, what it holds. -/
def rdR (s : ByteArray) : Bool × Int × ByteArray :=
  if (rdV s).2 ≠ 0 ∧ resOk (rdV s).1 (s.extract (rdV s).2.toNat s.size) = true then (true, (rdV s).1, s.extract (rdV s).2.toNat s.size) else (false, 0, ⟨#[]⟩)
theorem resOk_spec (n : Int) (s : ByteArray) : t125 n s = some ([.one (.b (resOk n s))], []) := by
  simp only [t125, ta125, in_eq, zr60, zo60, okR, isVs, isV, isD, isOs, resC, nthR, cellsDV, nthD, asB, Bool.and_true, chk_true]
  apply bool_some; unfold resOk; rw [Bool.eq_iff_iff]; simp; omega
theorem resOk_impl (n : Int) (s : ByteArray) : t118 n s = some ([.one (.b (resOk n s))], []) := by
  simp only [t118, ta118, within_eq, zr62, zo62, okR, isVs, isV, isD, isOs, resC, nthR, cellsDV, nthD, asB, Bool.and_true, chk_true]
  apply bool_some; unfold resOk; rw [Bool.eq_iff_iff]; simp; omega
theorem vars1 (s : ByteArray) : t92 s 0 1 = some (if (rdV s).2 = 0 then [.one (.l []), .one (.i .i64 (-1))] else [.one (.l [[.i .i64 (rdV s).1]]), .one (.i .i64 (rdV s).2)], []) := by
  obtain ⟨k, hk⟩ : ∃ k, KK = k + 2 := ⟨KK - 2, by rw [KK_eq]⟩
  have hr := rdV_rng s
  unfold t92 ta92
  rw [hk]
  have a1 : (decide ((0 : Int) < 0) || decide ((0 : Int) > (s.size : Int))) = false := by rw [Bool.eq_false_iff]; simp
  have a2 : decide ((0 : Int) ≤ 0 ∧ (0 : Int) ≤ (s.size : Int)) = true := decide_eq_true (by omega)
  have ex : s.extract (0 : Int).toNat s.size = s := extract_all s
  have ew : ∀ x y, okR zr84 zo84 (some ([.one (.i .i64 x), .one (.i .i64 y)], [])) = true := fun _ _ => rfl
  have e0 : ∀ x y, asI (resC (some ([.one (.i .i64 x), .one (.i .i64 y)], [])) 0 0) = x := fun _ _ => rfl
  have e1 : ∀ x y, asI (resC (some ([.one (.i .i64 x), .one (.i .i64 y)], [])) 1 0) = y := fun _ _ => rfl
  have a3 : decide ((0 : Int) < 1) = true := rfl
  have a4 : decide ((1 : Int) < 1) = false := rfl
  have a5 : w64 (0 + 1) = 1 := rfl
  have a6 : w64 (0 + (rdV s).2) = (rdV s).2 := by rw [w64_in _ (by omega)]; omega
  simp only [la92o0, a1, a2, a3, ex, readVar_spec, ew, e0, e1, chk_true, if_true, Bool.false_eq_true, if_false]
  by_cases h : (rdV s).2 = 0
  · simp [h]
  · have h' : ((rdV s).2 == 0) = false := by simpa using h
    simp only [h', Bool.false_eq_true, if_false, a4, a5, a6, if_neg h, List.nil_append]
    rw [chk_ok (by simp [flatR, allSc, isSc, lim])]
theorem readRes_spec (s : ByteArray) : t85 s = some ([.agg [.i .i64 (rdR s).2.1, .s (rdR s).2.2], .one (.b (rdR s).1)], []) := by
  have hr := rdV_rng s
  unfold t85 ta85 rdR
  by_cases h : (rdV s).2 = 0
  · have e : t92 s 0 1 = some ([.one (.l []), .one (.i .i64 (-1))], []) := by rw [vars1, if_pos h]
    simp [e, h, zr92, zo92]
  · have e : t92 s 0 1 = some ([.one (.l [[.i .i64 (rdV s).1]]), .one (.i .i64 (rdV s).2)], []) := by rw [vars1, if_neg h]
    have hn : ¬ (rdV s).2 < 0 := by omega
    have ew : ∀ x y, okR zr92 zo92 (some ([.one (.l x), .one (.i .i64 y)], [])) = true := fun _ _ => rfl
    have e0 : ∀ x y, asL (resC (some ([.one (.l x), .one (.i .i64 y)], [])) 0 0) = x := fun _ _ => rfl
    have e1 : ∀ x y, asI (resC (some ([.one (.l x), .one (.i .i64 y)], [])) 1 0) = y := fun _ _ => rfl
    have a1 : decide ((0 : Int) ≤ (rdV s).2 ∧ (rdV s).2 ≤ (s.size : Int)) = true := decide_eq_true (by omega)
    have hb := rdV_back s h
    have hsz := extract_sz s (rdV s).2.toNat
    have hj := extract_join s (rdV s).2.toNat (by omega)
    rw [← hb] at hj
    have hv := varS_size (rdV s).1
    have ew2 : ∀ x, okR zr125 zo125 (some ([.one (.b x)], [])) = true := fun _ => rfl
    have ew3 : ∀ x, okR zr89 zo89 (some ([.one (.s x)], [])) = true := fun _ => rfl
    have ew4 : ∀ x, okR zr106 zo106 (some ([.one (.s x)], [])) = true := fun _ => rfl
    have eS : ∀ x, asS (resC (some ([.one (.s x)], [])) 0 0) = x := fun _ => rfl
    have eB : ∀ x, asB (resC (some ([.one (.b x)], [])) 0 0) = x := fun _ => rfl
    have sr : t106 (rdV s).1 (s.extract (rdV s).2.toNat s.size) = some ([.one (.s (if resOk (rdV s).1 (s.extract (rdV s).2.toNat s.size) = true then s else ⟨#[]⟩))], []) := by
      simp only [t106, ta106, resOk_spec, var_spec, ew2, ew3, eS, eB, chk_true]
      cases hc : resOk (rdV s).1 (s.extract (rdV s).2.toNat s.size)
      · simp
      · have := hc
        simp only [resOk, decide_eq_true_eq] at this
        simp only [Bool.not_true, Bool.false_eq_true, if_false, if_true]
        rw [chk_ok (decide_eq_true (by unfold lim; omega)), hj]
    simp only [e, ew, e0, e1, hn, decide_false, Bool.false_eq_true, if_false, chk_true, a1]
    have z1 : (decide ((0 : Int) ≤ 0) && decide ((0 : Int) < ([[D.i .i64 (rdV s).1]].length : Int))) = true := rfl
    have z2 : [[D.i .i64 (rdV s).1]].getD ((0 : Int).toNat) [] = [D.i .i64 (rdV s).1] := rfl
    have z3 : (decide (1 ≤ [D.i .i64 (rdV s).1].length) && isF z3 0 [D.i .i64 (rdV s).1]) = true := rfl
    have z4 : asI (nthD [D.i .i64 (rdV s).1] 0) = (rdV s).1 := rfl
    simp only [z1, z2, z3, z4, chk_true, sr, ew4, eS]
    cases hc : resOk (rdV s).1 (s.extract (rdV s).2.toNat s.size)
    · have hs0 : (([] : List UInt8) == s.toList) = false := by
        rw [beq_eq_false_iff_ne]; intro h0
        have := (toList_nil s).1 h0.symm
        omega
      simp [hs0]
    · simp [h]
theorem readRes_impl (s : ByteArray) : t87 s = some ([.agg [.i .i64 (rdR s).2.1, .s (rdR s).2.2], .one (.b (rdR s).1)], []) := by
  have hr := rdV_rng s
  unfold t87 ta87 rdR
  have ew : ∀ x y, okR zr86 zo86 (some ([.one (.i .i64 x), .one (.i .i64 y)], [])) = true := fun _ _ => rfl
  have e0 : ∀ x y, asI (resC (some ([.one (.i .i64 x), .one (.i .i64 y)], [])) 0 0) = x := fun _ _ => rfl
  have e1 : ∀ x y, asI (resC (some ([.one (.i .i64 x), .one (.i .i64 y)], [])) 1 0) = y := fun _ _ => rfl
  have ew2 : ∀ x, okR zr118 zo118 (some ([.one (.b x)], [])) = true := fun _ => rfl
  have eB : ∀ x, asB (resC (some ([.one (.b x)], [])) 0 0) = x := fun _ => rfl
  have a1 : decide ((0 : Int) ≤ (rdV s).2 ∧ (rdV s).2 ≤ (s.size : Int)) = true := decide_eq_true (by omega)
  simp only [readVar_impl, ew, e0, e1, a1, chk_true, resOk_impl, ew2, eB, Bool.true_or]
  cases hc : resOk (rdV s).1 (s.extract (rdV s).2.toNat s.size)
  · simp
  · by_cases h : (rdV s).2 = 0
    · simp [h]
    · simp [h]
def hearB (n1 n2 n3 : Int) (b4 : Bool) (n12 n13 : Int) (b15 : Bool) (n16 : Int) (s17 : ByteArray) (n18 : Int) : Bool :=
  b4 && b15 && decide (n12 = n1 ∧ n13 = n2 ∧ n16 = n3 ∧ (rdV s17).2 ≠ 0 ∧ 1 ≤ (rdV s17).1 ∧ (rdV s17).1 ≤ 100000 ∧ 0 ≤ n18 ∧ n18 ≤ 1000000) && (rdR (s17.extract (rdV s17).2.toNat s17.size)).1
def hearD (n1 n2 n3 : Int) (b4 : Bool) (n5 : Int) (s6 s7 : ByteArray) (n8 n9 : Int) (s10 : ByteArray) (n11 n12 n13 n14 : Int) (b15 : Bool) (n16 : Int) (s17 : ByteArray) (n18 : Int) : List DV :=
  if clientOk n1 n2 n3 b4 n5 s6 s7 n8 n9 s10 n11 then
    if hearB n1 n2 n3 b4 n12 n13 b15 n16 s17 n18 then [.agg [.i .i64 n1, .i .i64 n2, .i .i64 n3, .b false, .i .i64 0, .s (⟨#[]⟩ : ByteArray), .s (⟨#[]⟩ : ByteArray), .i .i64 0, .i .i64 0, .s (⟨#[]⟩ : ByteArray), .i .i64 0], .agg [.i .i64 n1, .i .i64 n2, .i .i64 n3, .i .i64 n5, .s s6, .s s7, .i .i64 n8, .i .i64 n9, .s s10, .i .i64 (rdV s17).1, .i .i64 (rdR (s17.extract (rdV s17).2.toNat s17.size)).2.1, .s (rdR (s17.extract (rdV s17).2.toNat s17.size)).2.2, .i .i64 n11, .i .i64 n18], .one (.b true)]
    else [.agg [.i .i64 n1, .i .i64 n2, .i .i64 n3, .b b4, .i .i64 n5, .s s6, .s s7, .i .i64 n8, .i .i64 n9, .s s10, .i .i64 n11], .agg [.i .i64 0, .i .i64 0, .i .i64 0, .i .i64 0, .s (⟨#[]⟩ : ByteArray), .s (⟨#[]⟩ : ByteArray), .i .i64 0, .i .i64 0, .s (⟨#[]⟩ : ByteArray), .i .i64 0, .i .i64 0, .s (⟨#[]⟩ : ByteArray), .i .i64 0, .i .i64 0], .one (.b false)]
  else [.agg [.i .i64 0, .i .i64 0, .i .i64 0, .b false, .i .i64 0, .s (⟨#[]⟩ : ByteArray), .s (⟨#[]⟩ : ByteArray), .i .i64 0, .i .i64 0, .s (⟨#[]⟩ : ByteArray), .i .i64 0], .agg [.i .i64 0, .i .i64 0, .i .i64 0, .i .i64 0, .s (⟨#[]⟩ : ByteArray), .s (⟨#[]⟩ : ByteArray), .i .i64 0, .i .i64 0, .s (⟨#[]⟩ : ByteArray), .i .i64 0, .i .i64 0, .s (⟨#[]⟩ : ByteArray), .i .i64 0, .i .i64 0], .one (.b false)]
theorem hear_spec (n1 n2 n3 : Int) (b4 : Bool) (n5 : Int) (s6 s7 : ByteArray) (n8 n9 : Int) (s10 : ByteArray) (n11 n12 n13 n14 : Int) (b15 : Bool) (n16 : Int) (s17 : ByteArray) (n18 : Int) : t44 n1 n2 n3 b4 n5 s6 s7 n8 n9 s10 n11 n12 n13 n14 b15 n16 s17 n18 = some (hearD n1 n2 n3 b4 n5 s6 s7 n8 n9 s10 n11 n12 n13 n14 b15 n16 s17 n18, []) := by
  have hr := rdV_rng s17
  have ew : ∀ x y, okR zr84 zo84 (some ([.one (.i .i64 x), .one (.i .i64 y)], [])) = true := fun _ _ => rfl
  have e0 : ∀ x y, asI (resC (some ([.one (.i .i64 x), .one (.i .i64 y)], [])) 0 0) = x := fun _ _ => rfl
  have e1 : ∀ x y, asI (resC (some ([.one (.i .i64 x), .one (.i .i64 y)], [])) 1 0) = y := fun _ _ => rfl
  have ew2 : ∀ x, okR zr20 zo20 (some ([.one (.b x)], [])) = true := fun _ => rfl
  have ew3 : ∀ x, okR zr60 zo60 (some ([.one (.b x)], [])) = true := fun _ => rfl
  have eB : ∀ x, asB (resC (some ([.one (.b x)], [])) 0 0) = x := fun _ => rfl
  have ew4 : ∀ x y z, okR zr85 zo85 (some ([.agg [.i .i64 x, .s y], .one (.b z)], [])) = true := fun _ _ _ => rfl
  have f0 : ∀ x y z, asI (resC (some ([.agg [.i .i64 x, .s y], .one (.b z)], [])) 0 0) = x := fun _ _ _ => rfl
  have f1 : ∀ x y z, asS (resC (some ([.agg [.i .i64 x, .s y], .one (.b z)], [])) 0 1) = y := fun _ _ _ => rfl
  have f2 : ∀ x y z, asB (resC (some ([.agg [.i .i64 x, .s y], .one (.b z)], [])) 1 0) = z := fun _ _ _ => rfl
  have a1 : decide ((0 : Int) ≤ (rdV s17).2 ∧ (rdV s17).2 ≤ (s17.size : Int)) = true := decide_eq_true (by omega)
  simp only [t44, ta44, clientOk_spec, ew2, eB, chk_true, readVar_spec, ew, e0, e1, a1, readRes_spec, ew4, f0, f1, f2, in_eq, ew3, Bool.true_or, hearD]
  cases hc : clientOk n1 n2 n3 b4 n5 s6 s7 n8 n9 s10 n11
  · rfl
  · simp only [Bool.not_true, Bool.false_eq_true, if_false, if_true]
    rw [ite_not _ (hearB n1 n2 n3 b4 n12 n13 b15 n16 s17 n18)]
    · cases hearB n1 n2 n3 b4 n12 n13 b15 n16 s17 n18 <;> rfl
    · unfold hearB
      generalize (rdR (s17.extract (rdV s17).2.toNat s17.size)).1 = g
      cases b4 <;> cases b15 <;> cases g <;> (rw [Bool.eq_iff_iff]; simp; try omega)
theorem hear_impl (n1 n2 n3 : Int) (b4 : Bool) (n5 : Int) (s6 s7 : ByteArray) (n8 n9 : Int) (s10 : ByteArray) (n11 n12 n13 n14 : Int) (b15 : Bool) (n16 : Int) (s17 : ByteArray) (n18 : Int) : t46 n1 n2 n3 b4 n5 s6 s7 n8 n9 s10 n11 n12 n13 n14 b15 n16 s17 n18 = some (hearD n1 n2 n3 b4 n5 s6 s7 n8 n9 s10 n11 n12 n13 n14 b15 n16 s17 n18, []) := by
  have hr := rdV_rng s17
  have ew : ∀ x y, okR zr86 zo86 (some ([.one (.i .i64 x), .one (.i .i64 y)], [])) = true := fun _ _ => rfl
  have e0 : ∀ x y, asI (resC (some ([.one (.i .i64 x), .one (.i .i64 y)], [])) 0 0) = x := fun _ _ => rfl
  have e1 : ∀ x y, asI (resC (some ([.one (.i .i64 x), .one (.i .i64 y)], [])) 1 0) = y := fun _ _ => rfl
  have ew2 : ∀ x, okR zr22 zo22 (some ([.one (.b x)], [])) = true := fun _ => rfl
  have ew3 : ∀ x, okR zr62 zo62 (some ([.one (.b x)], [])) = true := fun _ => rfl
  have eB : ∀ x, asB (resC (some ([.one (.b x)], [])) 0 0) = x := fun _ => rfl
  have ew4 : ∀ x y z, okR zr87 zo87 (some ([.agg [.i .i64 x, .s y], .one (.b z)], [])) = true := fun _ _ _ => rfl
  have f0 : ∀ x y z, asI (resC (some ([.agg [.i .i64 x, .s y], .one (.b z)], [])) 0 0) = x := fun _ _ _ => rfl
  have f1 : ∀ x y z, asS (resC (some ([.agg [.i .i64 x, .s y], .one (.b z)], [])) 0 1) = y := fun _ _ _ => rfl
  have f2 : ∀ x y z, asB (resC (some ([.agg [.i .i64 x, .s y], .one (.b z)], [])) 1 0) = z := fun _ _ _ => rfl
  have a1 : decide ((0 : Int) ≤ (rdV s17).2 ∧ (rdV s17).2 ≤ (s17.size : Int)) = true := decide_eq_true (by omega)
  simp only [t46, ta46, clientOk_impl, ew2, eB, chk_true, readVar_impl, ew, e0, e1, a1, readRes_impl, ew4, f0, f1, f2, within_eq, ew3, Bool.true_or, hearD]
  cases hc : clientOk n1 n2 n3 b4 n5 s6 s7 n8 n9 s10 n11
  · rfl
  · simp only [Bool.not_true, Bool.false_eq_true, if_false, if_true]
    rw [ite_not _ (hearB n1 n2 n3 b4 n12 n13 b15 n16 s17 n18)]
    · cases hearB n1 n2 n3 b4 n12 n13 b15 n16 s17 n18 <;> rfl
    · unfold hearB
      generalize (rdR (s17.extract (rdV s17).2.toNat s17.size)).1 = g
      cases b4 <;> cases b15 <;> cases g <;> (rw [Bool.eq_iff_iff]; simp; try omega)
end Go.Den.L14

/- Sizes; copies of rows. -/
namespace Go.Den.L14
open Go
mutual
/-- What was found small enough. -/
def szdD : Sh → D → Prop
  | .b, _ => True
  | .i _, _ => True
  | .s, d => (asS d).size ≤ 1048576
  | .l es, d => (asL d).length ≤ 1048576 ∧ ∀ r ∈ asL d, szdL es r
def szdL : List Sh → List D → Prop
  | [], _ => True
  | e :: es, ds => szdD e (nthD ds 0) ∧ szdL es ds.tail
end
theorem mem_getD {l : List (List D)} {i : Nat} (h : i < l.length) : l.getD i [] ∈ l := by rw [getD_in h]; exact List.getElem_mem h
end Go.Den.L14

/- Loops, in general: what holds at each turn, and what comes of it. -/
namespace Go.Den.L14
open Go
theorem walkQ {α σ : Type} (L : Nat → Nat → α → σ → Rs) (n : Nat) (P : Nat → α → Prop) (Q : Rs → Prop)
    (he : ∀ m a s, P n a → Q (L (m + 1) n a s))
    (hs : ∀ i m a s, i < n → P i a → (∃ a' s', L (m + 1) i a s = L m (i + 1) a' s' ∧ P (i + 1) a') ∨ Q (L (m + 1) i a s)) :
    ∀ (k i m : Nat) (a : α) (s : σ), i + k = n → k < m → P i a → Q (L m i a s) := by
  intro k
  induction k with
  | zero =>
    intro i m a s e hm hp
    obtain ⟨m, rfl⟩ : ∃ m', m = m' + 1 := ⟨m - 1, by omega⟩
    have : i = n := by omega
    subst this
    exact he m a s hp
  | succ k ih =>
    intro i m a s e hm hp
    obtain ⟨m, rfl⟩ : ∃ m', m = m' + 1 := ⟨m - 1, by omega⟩
    rcases hs i m a s (by omega) hp with ⟨a', s', h1, h2⟩ | h
    · rw [h1]; exact ih (i + 1) m a' s' (by omega) (by omega) h2
    · exact h
theorem at_out (n : Nat) : decide ((n : Int) < (n : Int)) = false := by simp
end Go.Den.L14

/- Draws: the cursor. -/
namespace Go.Den.L14
open Go
/-- A cursor over the bytes l, at i. -/
def Cu (l : List (List D)) (i : Int) : Prop := (l.length ≤ 1048576 ∧ ∀ r ∈ l, typL [.i .u8] r) ∧ 0 ≤ i ∧ i ≤ l.length
def PQ (zr : List DV) (zo : List (List D)) (P : Rs → Prop) (o : Rs) : Prop := okR zr zo o = true ∧ P o
theorem pq_chk {zr : List DV} {zo : List (List D)} {P : Rs → Prop} {b : Bool} {x : Rs} (h : b = true) (hx : PQ zr zo P x) : PQ zr zo P (chk b x) := by rw [chk_ok h]; exact hx
theorem pq_ite {zr : List DV} {zo : List (List D)} {P : Rs → Prop} {c : Bool} {x y : Rs} (h1 : c = true → PQ zr zo P x) (h2 : c = false → PQ zr zo P y) : PQ zr zo P (if c = true then x else y) := by
  cases c
  · exact h2 rfl
  · exact h1 rfl
theorem pq_mono {zr : List DV} {zo : List (List D)} {P Q : Rs → Prop} {o : Rs} (h : PQ zr zo P o) (hp : P o → Q o) : PQ zr zo Q o := ⟨h.1, hp h.2⟩
theorem wrap_in (n : Int) (h : 0 ≤ n ∧ n ≤ 255) : IntKind.wrap .i64 n = n := Go.IntWalk.i64_in n (by omega)
theorem and255 (x : Int) : 0 ≤ bitAnd .i64 x 255 ∧ bitAnd .i64 x 255 ≤ 255 := by
  have h : (BitVec.ofInt (IntKind.bits .i64) x &&& BitVec.ofInt (IntKind.bits .i64) 255).toNat ≤ 255 := by
    rw [BitVec.toNat_and]
    exact Nat.le_trans Nat.and_le_right (by decide)
  unfold bitAnd
  generalize (BitVec.ofInt (IntKind.bits .i64) x &&& BitVec.ofInt (IntKind.bits .i64) 255).toNat = k at h
  rw [wrap_in _ (by omega)]
  omega
theorem code_row {l : List (List D)} {i : Int} (C : Cu l i) (h : i < l.length) : isRow z5 (l.getD i.toNat []) = true := by
  have := getD_row C.1.2 (i := i.toNat) (by have := C.2.1; omega)
  obtain ⟨d, r, e, ⟨n, rfl, _⟩, rfl⟩ := this
  rw [e]; rfl
theorem Cu.step {l : List (List D)} {i : Int} (C : Cu l i) (h : i < l.length) : Cu l (w64 (i + 1)) := by
  have := C.1.1; have := C.2.1
  rw [w64_in _ (by omega)]
  exact ⟨C.1, by omega, by omega⟩
theorem d124 {l : List (List D)} {i : Int} (C : Cu l i) (h : Int) : PQ zr124 zo124 (fun o => Cu l (asI (outC o 0 1)) ∧ (0 ≤ asI (resC o 0 0) ∧ asI (resC o 0 0) ≤ 255) ∧ True) (t124 l i h) := by
  unfold t124
  extract_lets +onlyGivenNames -underBinder k1
  refine pq_ite (fun g => ?_) (fun g => ?_)
  · have hi : i < l.length := by simpa using g
    refine pq_chk (by rw [code_row C hi]; have := C.2.1; simp; omega) ?_
    exact ⟨rfl, C.step hi, and255 _, trivial⟩
  · exact ⟨rfl, C, and255 _, trivial⟩
theorem emod_le0 {x n : Int} (h : 0 ≤ x) (hn : 0 < n) : x % n ≤ x := by
  have h1 := Int.emod_add_mul_ediv x n
  have h2 := Int.mul_nonneg (Int.le_of_lt hn) (Int.ediv_nonneg h (Int.le_of_lt hn))
  omega
theorem d105 {l : List (List D)} {i : Int} (C : Cu l i) (h n : Int) : PQ zr105 zo105 (fun o => Cu l (asI (outC o 0 1)) ∧ (0 ≤ asI (resC o 0 0) ∧ asI (resC o 0 0) ≤ 4294967295 ∧ (0 < n → asI (resC o 0 0) < n)) ∧ True) (t105 l i h n) := by
  unfold t105 ta105
  refine pq_ite (fun g => ?_) (fun g => ?_)
  · have : n ≤ 0 := by simpa using g
    exact ⟨rfl, C, ⟨Int.le_refl 0, by show (0 : Int) ≤ _; decide, fun h => by omega⟩, trivial⟩
  have hn : 0 < n := by simpa using g
  have hz : (n != 0) = true := by simp; omega
  refine pq_ite (fun g2 => ?_) (fun g2 => ?_)
  · extract_lets +onlyGivenNames -underBinder y1
    obtain ⟨a1, c1, b1, -⟩ : PQ zr124 zo124 _ y1 := d124 C _
    clear_value y1
    refine pq_chk a1 (pq_chk hz ⟨rfl, c1, ?_, trivial⟩)
    have h1 := Int.tmod_nonneg n b1.1
    have h2 := Int.tmod_lt_of_pos (asI (resC y1 0 0)) hn
    have h3 : n ≤ 256 := by simpa using g2
    show 0 ≤ (asI (resC y1 0 0)).tmod n ∧ (asI (resC y1 0 0)).tmod n ≤ 4294967295 ∧ (0 < n → (asI (resC y1 0 0)).tmod n < n)
    omega
  · extract_lets +onlyGivenNames -underBinder y2
    obtain ⟨a2, c2, b2, -⟩ : PQ zr124 zo124 _ y2 := d124 C _
    clear_value y2
    refine pq_chk a2 ?_
    extract_lets +onlyGivenNames -underBinder y3
    obtain ⟨a3, c3, b3, -⟩ : PQ zr124 zo124 _ y3 := d124 c2 _
    clear_value y3
    refine pq_chk a3 ?_
    extract_lets +onlyGivenNames -underBinder y4
    obtain ⟨a4, c4, b4, -⟩ : PQ zr124 zo124 _ y4 := d124 c3 _
    clear_value y4
    refine pq_chk a4 ?_
    extract_lets +onlyGivenNames -underBinder y5
    obtain ⟨a5, c5, b5, -⟩ : PQ zr124 zo124 _ y5 := d124 c4 _
    clear_value y5
    refine pq_chk a5 (pq_chk hz ⟨rfl, c5, ?_, trivial⟩)
    show 0 ≤ Int.tmod _ n ∧ Int.tmod _ n ≤ 4294967295 ∧ (0 < n → Int.tmod _ n < n)
    rw [w64_in (asI (resC y2 0 0) * 16777216) (by omega), w64_in (asI (resC y3 0 0) * 65536) (by omega), w64_in (asI (resC y2 0 0) * 16777216 + asI (resC y3 0 0) * 65536) (by omega), w64_in (asI (resC y4 0 0) * 256) (by omega), w64_in (asI (resC y2 0 0) * 16777216 + asI (resC y3 0 0) * 65536 + asI (resC y4 0 0) * 256) (by omega), w64_in (asI (resC y2 0 0) * 16777216 + asI (resC y3 0 0) * 65536 + asI (resC y4 0 0) * 256 + asI (resC y5 0 0)) (by omega)]
    have hx : 0 ≤ asI (resC y2 0 0) * 16777216 + asI (resC y3 0 0) * 65536 + asI (resC y4 0 0) * 256 + asI (resC y5 0 0) ∧ asI (resC y2 0 0) * 16777216 + asI (resC y3 0 0) * 65536 + asI (resC y4 0 0) * 256 + asI (resC y5 0 0) ≤ 4294967295 := by omega
    have h1 := Int.tmod_nonneg n hx.1
    have h2 := Int.tmod_lt_of_pos (asI (resC y2 0 0) * 16777216 + asI (resC y3 0 0) * 65536 + asI (resC y4 0 0) * 256 + asI (resC y5 0 0)) hn
    have h3 : (asI (resC y2 0 0) * 16777216 + asI (resC y3 0 0) * 65536 + asI (resC y4 0 0) * 256 + asI (resC y5 0 0)).tmod n ≤ asI (resC y2 0 0) * 16777216 + asI (resC y3 0 0) * 65536 + asI (resC y4 0 0) * 256 + asI (resC y5 0 0) := by
      rw [Int.tmod_eq_emod_of_nonneg hx.1]; exact emod_le0 hx.1 hn
    omega
theorem d108 {l : List (List D)} {i : Int} (C : Cu l i) (h n : Int) : PQ zr108 zo108 (fun o => Cu l (asI (outC o 0 1)) ∧ True) (t108 l i h n) := by
  unfold t108 ta108
  extract_lets +onlyGivenNames -underBinder y1
  obtain ⟨a1, c1, -⟩ : PQ zr105 zo105 _ y1 := d105 C _ _
  clear_value y1
  exact pq_chk a1 ⟨rfl, c1, trivial⟩
/-- A list to pick from. -/
def okL (z : List D) (x : List (List D)) : Bool := !x.isEmpty && x.all (isRow z)
theorem okL_at {z : List D} {x : List (List D)} (h : okL z x = true) {y : Int} (h0 : 0 ≤ y) (h1 : 0 < (x.length : Int) → y < x.length) : (decide (0 ≤ y) && decide (y < x.length) && isRow z (x.getD y.toNat [])) = true := by
  simp only [okL, Bool.and_eq_true, Bool.not_eq_true', List.all_eq_true] at h
  have hl : 0 < x.length := by cases x with | nil => simp at h | cons _ _ => simp
  have h2 := h1 (by omega)
  simp only [Bool.and_eq_true, decide_eq_true_eq]
  exact ⟨⟨h0, h2⟩, h.2 _ (mem_getD (by omega))⟩
theorem d122 {l : List (List D)} {i : Int} (C : Cu l i) (h : Int) (x : List (List D)) (hx : okL z3 x = true) : PQ zr122 zo122 (fun o => Cu l (asI (outC o 0 1)) ∧ (asI (resC o 0 0)) ∈ x.map (fun r => asI (nthD r 0)) ∧ True) (t122 l i h x) := by
  unfold t122 ta122
  extract_lets +onlyGivenNames -underBinder y1
  obtain ⟨a1, c1, b1, -⟩ : PQ zr105 zo105 _ y1 := d105 C _ _
  clear_value y1
  refine pq_chk a1 ?_
  extract_lets +onlyGivenNames -underBinder y2 y3
  have hc : (decide (0 ≤ y2) && decide (y2 < x.length) && isRow z3 (x.getD y2.toNat [])) = true := okL_at hx b1.1 b1.2.2
  refine pq_chk hc ⟨rfl, c1, ?_, trivial⟩
  simp only [Bool.and_eq_true, decide_eq_true_eq] at hc
  exact List.mem_map.2 ⟨_, mem_getD (by omega), rfl⟩
theorem pickB {l : List (List D)} {i : Int} (C : Cu l i) (h : Int) (x : List (List D)) (B : Nat) (hx : (okL z9 x && x.all fun r => decide ((asS (nthD r 0)).size ≤ B)) = true) : PQ zr129 zo129 (fun o => Cu l (asI (outC o 0 1)) ∧ (asS (resC o 0 0)).size ≤ B ∧ True) (t129 l i h x) := by
  rw [Bool.and_eq_true] at hx
  unfold t129 ta129
  extract_lets +onlyGivenNames -underBinder y1
  obtain ⟨a1, c1, b1, -⟩ : PQ zr105 zo105 _ y1 := d105 C _ _
  clear_value y1
  refine pq_chk a1 ?_
  extract_lets +onlyGivenNames -underBinder y2 y3
  have hc : (decide (0 ≤ y2) && decide (y2 < x.length) && isRow z9 (x.getD y2.toNat [])) = true := okL_at hx.1 b1.1 b1.2.2
  refine pq_chk hc ⟨rfl, c1, ?_, trivial⟩
  simp only [Bool.and_eq_true, decide_eq_true_eq] at hc
  have hi : y2.toNat < x.length := by have := hc.1.1; have := hc.1.2; omega
  have hb := List.all_eq_true.1 hx.2 _ (mem_getD hi)
  exact of_decide_eq_true hb
theorem d129 {l : List (List D)} {i : Int} (C : Cu l i) (h : Int) (x : List (List D)) (hx : (okL z9 x && x.all fun r => decide ((asS (nthD r 0)).size ≤ 100)) = true) : PQ zr129 zo129 (fun o => Cu l (asI (outC o 0 1)) ∧ (asS (resC o 0 0)).size ≤ 100 ∧ True) (t129 l i h x) := pickB C h x 100 hx
theorem new_loop (l : List (List D)) (q : Int → Int → Bool → Rs) (hl : l.length ≤ 1048576) (ht : ∀ r ∈ l, typL [.i .u8] r) (Q : Rs → Prop) (hq : ∀ a b c, Q (q a b c)) :
    ∀ (k i m : Nat) (n6 : Int) (v : SV), i + k = l.length → k < m → Q (l102o0 l q m n6 (i : Int) v) := by
  intro k
  induction k with
  | zero =>
    intro i m n6 v e hm
    obtain ⟨m, rfl⟩ : ∃ m', m = m' + 1 := ⟨m - 1, by omega⟩
    unfold l102o0
    have : decide ((i : Int) < (l.length : Int)) = false := by simp; omega
    simp only [this, Bool.false_and, Bool.false_eq_true, if_false]
    exact hq _ _ _
  | succ k ih =>
    intro i m n6 v e hm
    obtain ⟨m, rfl⟩ : ∃ m', m = m' + 1 := ⟨m - 1, by omega⟩
    unfold l102o0
    have h1 : decide ((i : Int) < (l.length : Int)) = true := by simp; omega
    by_cases h2 : (i : Int) < 4000
    · have C : Cu l (i : Int) := ⟨⟨hl, ht⟩, by omega, by omega⟩
      have h3 := code_row C (by omega)
      have h4 : (decide ((0 : Int) ≤ (i : Int)) && true && isRow z5 (l.getD (i : Int).toNat [])) = true := by rw [h3]; simp
      simp only [h1, h2, decide_true, Bool.and_self, if_true]
      rw [chk_ok h4, w64_succ _ (by omega)]
      exact ih (i + 1) m _ _ (by omega) (by omega)
    · simp only [h1, h2, decide_false, Bool.and_false, Bool.false_eq_true, if_false]
      exact hq _ _ _
theorem d102 (l : List (List D)) (hl : l.length ≤ 1048576) (ht : ∀ r ∈ l, typL [.i .u8] r) : PQ zr102 zo102 (fun o => asL (resC o 0 0) = l ∧ Cu l (asI (resC o 0 1)) ∧ True) (t102 l) := by
  unfold t102
  refine new_loop l _ hl ht _ (fun a b c => ?_) l.length 0 KK _ _ (by omega) (by rw [KK_eq]; omega)
  exact ⟨rfl, rfl, ⟨⟨hl, ht⟩, Int.le_refl 0, by show (0 : Int) ≤ _; omega⟩, trivial⟩
theorem n102 (l : List (List D)) (hl : l.length ≤ 1048576) (ht : ∀ r ∈ l, typL [.i .u8] r) : PQ zr102 zo102 (fun o => Cu (asL (resC o 0 0)) (asI (resC o 0 1)) ∧ True) (t102 l) :=
  pq_mono (d102 l hl ht) fun ⟨h1, h2, _⟩ => ⟨by rw [h1]; exact h2, trivial⟩
end Go.Den.L14

namespace Go.Den.L14
open Go
theorem d132 {l1 : List (List D)} {n2 : Int} (C : Cu l1 n2) (n3 : Int) : PQ zr132 zo132 (fun o => Cu l1 (asI (outC o 0 1)) ∧ (asS (resC o 0 0)).size ≤ 100 ∧ True) (t132 l1 n2 n3) := by
  unfold t132 ta132
  extract_lets +onlyGivenNames -underBinder y1
  obtain ⟨a_y1, c_y1, p_y1_0_0, -⟩ : PQ zr129 zo129 _ y1 := d129 C _ _ rfl
  clear_value y1
  refine pq_chk a_y1 ?_
  exact ⟨rfl, c_y1, (show (asS (resC y1 0 0)).size ≤ 100 by have q := (show (asS (resC y1 0 0)).size ≤ 100 from p_y1_0_0); omega), trivial⟩
end Go.Den.L14

/- Draws: texts, names, paths. -/
namespace Go.Den.L14
open Go
theorem bytesD_le : ∀ (l : List (List D)), (bytesD l).length ≤ l.length
  | [] => Nat.le_refl 0
  | r :: l => by
    have := bytesD_le l
    unfold bytesD
    split <;> simp_all <;> omega
theorem isBytes_app {a b : List (List D)} (ha : isBytes a = true) (hb : isBytes b = true) : isBytes (a ++ b) = true := by
  induction a with
  | nil => exact hb
  | cons r a ih =>
    match r, ha with
    | [.i .u8 n], ha => exact ih ha
theorem text_loop {n15 : Int} {s16 : ByteArray} (n17 : Int) (l : List (List D)) (q1 : Int → SV → Bool → SV → SV → Int → Int → List (List D) → Rs) (Q : Rs → Prop) (B : Nat) (hB : B ≤ 1048576)
    (hq : ∀ a b c d e i h (x : List (List D)), Cu l i → x.length ≤ B → isBytes x = true → Q (q1 a b c d e i h x)) :
    ∀ (k m : Nat) (v19 v20 v21 v22 : SV) (i h : Int) (x : List (List D)), Cu l i → x.length + k ≤ B → isBytes x = true → k < m → Q (la109o0 t105 t124 n15 s16 n17 l q1 m (k : Int) v19 v20 v21 v22 i h x) := by
  intro k
  induction k with
  | zero =>
    intro m v19 v20 v21 v22 i h x C hx hb hm
    obtain ⟨m, rfl⟩ : ∃ m', m = m' + 1 := ⟨m - 1, by omega⟩
    unfold la109o0
    exact hq _ _ _ _ _ _ _ _ C (by omega) hb
  | succ k ih =>
    intro m v19 v20 v21 v22 i h x C hx hb hm
    obtain ⟨m, rfl⟩ : ∃ m', m = m' + 1 := ⟨m - 1, by omega⟩
    unfold la109o0
    have h1 : decide (((k + 1 : Nat) : Int) > 0) = true := decide_eq_true (by omega)
    have h2 : w64 (((k + 1 : Nat) : Int) - 1) = (k : Int) := by rw [w64_in _ (by omega)]; omega
    obtain ⟨a, c, -⟩ := d124 C h
    have step : ∀ (n28 : Int) (v19 v20 v21 v22 : SV), Q (chk ((flatR 1 [[D.i .u8 (IntKind.wrap .u8 n28)]]) && decide (x.length + [[D.i .u8 (IntKind.wrap .u8 n28)]].length ≤ lim)) (la109o0 t105 t124 n15 s16 n17 l q1 m (k : Int) v19 v20 v21 v22 (asI (outC (t124 l i h) 0 1)) (asI (outC (t124 l i h) 0 2)) (x ++ [[D.i .u8 (IntKind.wrap .u8 n28)]]))) := by
      intro n28 v19 v20 v21 v22
      rw [chk_ok (by rw [Bool.and_eq_true]; exact ⟨rfl, decide_eq_true (by simp only [List.length_cons, List.length_nil]; unfold lim; omega)⟩)]
      exact ih m _ _ _ _ _ _ _ c (by simp; omega) (isBytes_app hb rfl) (by omega)
    simp only [h1, if_true, h2, chk_ok a]
    split <;> split <;> exact step _ _ _ _ _
theorem d109 {l : List (List D)} {i : Int} (C : Cu l i) (h n : Int) (hn : 0 ≤ n ∧ n ≤ 1000) : PQ zr109 zo109 (fun o => Cu l (asI (outC o 0 1)) ∧ (asS (resC o 0 0)).size ≤ 1000 ∧ True) (t109 l i h n) := by
  unfold t109 ta109
  extract_lets +onlyGivenNames -underBinder y1
  obtain ⟨a1, c1, b1, -⟩ : PQ zr105 zo105 _ y1 := d105 C _ _
  clear_value y1
  refine pq_chk a1 ?_
  extract_lets +onlyGivenNames -underBinder y2
  obtain ⟨a2, c2, b2, -⟩ : PQ zr105 zo105 _ y2 := d105 c1 _ _
  clear_value y2
  refine pq_chk a2 ?_
  obtain ⟨k, hk, hk2⟩ : ∃ k : Nat, asI (resC y2 0 0) = (k : Int) ∧ k ≤ 1000 := by
    refine ⟨(asI (resC y2 0 0)).toNat, by omega, ?_⟩
    have e := w64_in (n + 1) (by omega)
    rw [e] at b2
    omega
  rw [hk]
  refine text_loop _ l _ _ 1000 (by omega) (fun a b c d e i' h' x C' hx hb => ?_) k KK _ _ _ _ _ _ _ c2 (by simpa using hk2) rfl (by rw [KK_eq]; omega)
  refine pq_chk hb ⟨rfl, C', ?_, trivial⟩
  have := bytesD_le x
  show (bytesD x).toArray.size ≤ 1000
  simp; omega
theorem path_loop {s13 : ByteArray} (l : List (List D)) (q1 : ByteArray → Int → Bool → SV → SV → SV → SV → SV → Int → Int → Rs) (Q : Rs → Prop)
    (hq : ∀ (x : ByteArray) a b c d e f g i h, Cu l i → x.size ≤ 2000 → Q (q1 x a b c d e f g i h)) :
    ∀ (k m : Nat) (x : ByteArray) (v1 v2 v3 v4 v5 v6 : SV) (i h : Int), Cu l i → x.size + 300 * k ≤ 2000 → k < m → Q (la130o0 t105 t108 t129 t132 s13 l q1 m x (k : Int) v1 v2 v3 v4 v5 v6 i h) := by
  intro k
  induction k with
  | zero =>
    intro m x v1 v2 v3 v4 v5 v6 i h C hx hm
    obtain ⟨m, rfl⟩ : ∃ m', m = m' + 1 := ⟨m - 1, by omega⟩
    unfold la130o0
    exact hq _ _ _ _ _ _ _ _ _ _ C (by omega)
  | succ k ih =>
    intro m x v1 v2 v3 v4 v5 v6 i h C hx hm
    obtain ⟨m, rfl⟩ : ∃ m', m = m' + 1 := ⟨m - 1, by omega⟩
    unfold la130o0
    have h1 : decide (((k + 1 : Nat) : Int) > 0) = true := decide_eq_true (by omega)
    have h2 : w64 (((k + 1 : Nat) : Int) - 1) = (k : Int) := by rw [w64_in _ (by omega)]; omega
    have e1 : (⟨#[47]⟩ : ByteArray).size = 1 := rfl
    have e2 : (⟨#[47, 46]⟩ : ByteArray).size = 2 := rfl
    have e3 : (⟨#[47, 46, 46]⟩ : ByteArray).size = 3 := rfl
    simp only [h1, if_true]
    rw [chk_ok (decide_eq_true (by unfold lim; omega))]
    obtain ⟨a2, c2, p2, -⟩ := d132 C h
    generalize t132 l i h = y2 at *
    rw [chk_ok a2, chk_ok (decide_eq_true (by rw [ByteArray.size_append]; unfold lim; omega))]
    obtain ⟨a5, c5, -⟩ := d105 c2 (asI (outC y2 0 2)) 14
    generalize t105 l (asI (outC y2 0 1)) (asI (outC y2 0 2)) 14 = y5 at *
    rw [chk_ok a5]
    have hs : (x ++ (⟨#[47]⟩ : ByteArray) ++ asS (resC y2 0 0)).size ≤ x.size + 101 := by rw [ByteArray.size_append, ByteArray.size_append]; omega
    generalize x ++ (⟨#[47]⟩ : ByteArray) ++ asS (resC y2 0 0) = z at *
    split
    · rw [chk_ok (decide_eq_true (by unfold lim; omega)), h2]
      exact ih m _ _ _ _ _ _ _ _ _ c5 (by rw [ByteArray.size_append]; omega) (by omega)
    split
    · rw [chk_ok (decide_eq_true (by unfold lim; omega)), h2]
      exact ih m _ _ _ _ _ _ _ _ _ c5 (by rw [ByteArray.size_append]; omega) (by omega)
    split
    · rw [chk_ok (decide_eq_true (by unfold lim; omega)), h2]
      exact ih m _ _ _ _ _ _ _ _ _ c5 (by rw [ByteArray.size_append]; omega) (by omega)
    split
    · obtain ⟨a6, c6, p6, -⟩ := d129 c5 (asI (outC y5 0 2)) ([[.s (⟨#[108, 111, 110, 103, 110, 97, 109, 101, 57]⟩ : ByteArray)], [.s (⟨#[65, 66, 67]⟩ : ByteArray)], [.s (⟨#[120, 32, 121]⟩ : ByteArray)], [.s (⟨#[46, 104, 105, 100]⟩ : ByteArray)], [.s (⟨#[46, 46, 46]⟩ : ByteArray)]] : List (List D)) rfl
      rw [chk_ok a6, chk_ok (decide_eq_true (by unfold lim; omega)), h2]
      exact ih m _ _ _ _ _ _ _ _ _ c6 (by rw [ByteArray.size_append]; omega) (by omega)
    · rw [h2]
      exact ih m _ _ _ _ _ _ _ _ _ c5 (by omega) (by omega)
theorem d130 {l : List (List D)} {i : Int} (C : Cu l i) (h : Int) : PQ zr130 zo130 (fun o => Cu l (asI (outC o 0 1)) ∧ (asS (resC o 0 0)).size ≤ 3000 ∧ True) (t130 l i h) := by
  unfold t130 ta130
  extract_lets +onlyGivenNames -underBinder y1
  obtain ⟨a1, c1, b1, -⟩ : PQ zr105 zo105 _ y1 := d105 C _ _
  clear_value y1
  refine pq_chk a1 ?_
  obtain ⟨k, hk, hk2⟩ : ∃ k : Nat, asI (resC y1 0 0) = (k : Int) ∧ k ≤ 5 := ⟨(asI (resC y1 0 0)).toNat, by omega, by omega⟩
  rw [hk]
  have e1 : (⟨#[47]⟩ : ByteArray).size = 1 := rfl
  refine path_loop l _ _ (fun x a b c d e f g i' h' C' hx => ?_) k KK _ _ _ _ _ _ _ _ _ c1 (by have : (⟨#[]⟩ : ByteArray).size = 0 := rfl; omega) (by rw [KK_eq]; omega)
  extract_lets +onlyGivenNames -underBinder y2
  have last : ∀ {j : Int} (z : ByteArray) (h2 : Int), Cu l j → z.size ≤ 2001 → PQ zr130 zo130 (fun o => Cu l (asI (outC o 0 1)) ∧ (asS (resC o 0 0)).size ≤ 3000 ∧ True) (some ([.one (.s z)], [[.l l, .i .i64 j, .i .i64 h2]])) := fun z h2 C2 hz => ⟨rfl, C2, Nat.le_trans hz (by omega), trivial⟩
  refine pq_ite (fun _ => ?_) (fun hy => ?_)
  · extract_lets +onlyGivenNames -underBinder y3
    obtain ⟨a3, c3, -⟩ : PQ zr108 zo108 _ y3 := d108 C' _ _
    clear_value y3
    refine pq_chk a3 ?_
    extract_lets +onlyGivenNames -underBinder k2
    have hk2 : ∀ z : ByteArray, z.size ≤ 2001 → PQ zr130 zo130 (fun o => Cu l (asI (outC o 0 1)) ∧ (asS (resC o 0 0)).size ≤ 3000 ∧ True) (k2 z) := by
      intro z hz
      dsimp -zeta only [k2]
      extract_lets +onlyGivenNames -underBinder y4
      obtain ⟨a4, c4, -⟩ : PQ zr108 zo108 _ y4 := d108 c3 _ _
      clear_value y4
      refine pq_chk a4 (pq_ite (fun _ => ?_) (fun _ => ?_))
      · extract_lets +onlyGivenNames -underBinder y5 y6 y7
        obtain ⟨a7, c7, p7, -⟩ : PQ zr129 zo129 _ y7 := pickB c4 _ _ 3000 rfl
        clear_value y7
        exact pq_chk a7 ⟨rfl, c7, Nat.le_trans p7 (by omega), trivial⟩
      · exact last _ _ c4 hz
    refine pq_ite (fun _ => ?_) (fun _ => ?_)
    · exact pq_chk (decide_eq_true (by unfold lim; omega)) (hk2 _ (by rw [ByteArray.size_append]; omega))
    · exact hk2 _ (by omega)
  · refine pq_chk (by simpa using hy) (pq_chk (decide_eq_true (by unfold lim; omega)) ?_)
    extract_lets +onlyGivenNames -underBinder y10
    obtain ⟨a4, c4, -⟩ : PQ zr108 zo108 _ y10 := d108 C' _ _
    clear_value y10
    refine pq_chk a4 (pq_ite (fun _ => ?_) (fun _ => ?_))
    · extract_lets +onlyGivenNames -underBinder y11 y12 y13
      obtain ⟨a7, c7, p7, -⟩ : PQ zr129 zo129 _ y13 := pickB c4 _ _ 3000 rfl
      clear_value y13
      exact pq_chk a7 ⟨rfl, c7, Nat.le_trans p7 (by omega), trivial⟩
    · exact last _ _ c4 (by rw [ByteArray.size_append]; omega)
theorem n131 (n1 : Int) (l2 : List (List D)) (n3 : Int) (hl : l2.length ≤ 1048576) (hr : ∀ r ∈ l2, isRow z165 r = true) : PQ zr131 zo131 (fun o => asI (resC o 0 0) < (l2.length : Int) ∧ True) (t131 n1 l2 n3) := by
  unfold t131
  refine walkQ (fun m i (_ : Unit) (s : SV × SV) => l131o0 _ _ _ _ _ _ _ _ m (i : Int) s.1 s.2) l2.length (fun _ _ => True) _ (fun m a s _ => ?_) (fun i m a s hi _ => ?_) l2.length 0 KK () (SV.undef, SV.undef) (by omega) (by rw [KK_eq]; omega) trivial
  · unfold l131o0
    simp only [at_out, Bool.false_eq_true, if_false]
    exact ⟨rfl, by show (-1 : Int) < _; omega, trivial⟩
  · unfold l131o0
    have h1 : decide ((i : Int) < (l2.length : Int)) = true := decide_eq_true (by omega)
    have h2 : (decide ((0 : Int) ≤ (i : Int)) && decide ((i : Int) < (l2.length : Int)) && isRow z165 (l2.getD (i : Int).toNat [])) = true := by
      rw [hr _ (mem_getD (by omega))]; simp; omega
    simp only [h1, if_true]
    rw [chk_ok (by simpa only [h1] using h2)]
    cases (asI (nthD (l2.getD (i : Int).toNat []) 0)) == n3
    · refine .inl ⟨(), (.d (.b true), .d (.b false)), ?_, trivial⟩
      simp only [Bool.false_eq_true, if_false]
      rw [w64_succ _ (by omega)]
      conv => lhs; unfold l131o0
    · refine .inr ?_
      simp only [if_true]
      exact ⟨rfl, by show (i : Int) < _; omega, trivial⟩
end Go.Den.L14

/- Draws: ways in a volume; results. -/
namespace Go.Den.L14
open Go
/-- The nodes of a volume, as the draws ask for them. -/
def VolR (l : List (List D)) : Prop := l.length ≤ 1048576 ∧ ∀ r ∈ l, isRow z165 r = true ∧ (asL (nthD r 6)).length ≤ 1048576 ∧ ∀ q ∈ asL (nthD r 6), isRow z168 q = true ∧ (asS (nthD q 0)).size ≤ 1000
theorem way_loop {n18 : Int} {s20 : ByteArray} {b25 : Bool} {n31 : Int} (l v19 v32 : List (List D)) (V : VolR v32) (q1 : ByteArray → ByteArray → Int → Int → Int → Bool → Bool → Int → Int → Rs) (q2 : ByteArray → Int → Int → SV → Bool → SV → Int → Int → Rs) (Q : Rs → Prop)
    (h1 : ∀ x y a b c d e i h, Cu l i → x.size ≤ 5000 → Q (q1 x y a b c d e i h)) (h2 : ∀ x a b c d e i h, Cu l i → x.size ≤ 5000 → Q (q2 x a b c d e i h)) :
    ∀ (k m : Nat) (x : ByteArray) (n : Int) (w1 w2 w3 : SV) (i h : Int), Cu l i → x.size + 1001 * k ≤ 5000 → k ≤ 5 → k < m + 0 → Q (la128o1 t105 t108 t130 t131 t132 n18 v19 s20 b25 l n31 v32 q1 q2 (m + 1) x n ((k : Int) - 1) w1 w2 w3 i h) := by
  intro k
  induction k with
  | zero =>
    intro m x n w1 w2 w3 i h C hx hk hm
    unfold la128o1
    exact h2 _ _ _ _ _ _ _ _ C (by omega)
  | succ k ih =>
    intro m x n w1 w2 w3 i h C hx hk hm
    obtain ⟨m, rfl⟩ : ∃ m', m = m' + 1 := ⟨m - 1, by omega⟩
    unfold la128o1
    have g1 : decide (((k + 1 : Nat) : Int) - 1 ≥ 0) = true := decide_eq_true (by omega)
    have g2 : w64 (((k + 1 : Nat) : Int) - 1 - 1) = (k : Int) - 1 := by rw [w64_in _ (by omega)]; omega
    have e1 : (⟨#[47]⟩ : ByteArray).size = 1 := rfl
    simp only [g1, if_true, g2]
    obtain ⟨a2, b2, -⟩ := n131 n31 v32 n V.1 (fun r hr => (V.2 r hr).1)
    generalize t131 n31 v32 n = y2 at *
    rw [chk_ok a2]
    by_cases g : asI (resC y2 0 0) < 0
    · have e2 : decide (asI (resC y2 0 0) < 0) = true := decide_eq_true g
      simp only [e2, Bool.not_true, Bool.not_false, Bool.or_true, chk_true, Bool.true_or, if_true]
      rw [chk_ok (decide_eq_true (by unfold lim; omega))]
      obtain ⟨a7, c7, p7, -⟩ := d132 C h
      rw [chk_ok a7, chk_ok (decide_eq_true (by rw [ByteArray.size_append]; unfold lim; omega))]
      exact h1 _ _ _ _ _ _ _ _ _ c7 (by rw [ByteArray.size_append, ByteArray.size_append]; omega)
    · have e2 : decide (asI (resC y2 0 0) < 0) = false := decide_eq_false g
      have hm := mem_getD (l := v32) (i := (asI (resC y2 0 0)).toNat) (by omega)
      obtain ⟨r1, r2, r3⟩ := V.2 _ hm
      have e3 : (decide (0 ≤ asI (resC y2 0 0)) && decide (asI (resC y2 0 0) < (v32.length : Int)) && isRow z165 (v32.getD (asI (resC y2 0 0)).toNat [])) = true := by rw [Bool.and_eq_true, Bool.and_eq_true]; exact ⟨⟨decide_eq_true (by omega), decide_eq_true (by omega)⟩, r1⟩
      simp only [e2, Bool.not_true, Bool.not_false, Bool.or_false, chk_true, Bool.false_or, e3]
      generalize v32.getD (asI (resC y2 0 0)).toNat [] = row at *
      by_cases g3 : ((asL (nthD row 6)).length : Int) = 0
      · have e4 : (((asL (nthD row 6)).length : Int) == 0) = true := by rw [g3]; rfl
        simp only [e4, if_true]
        rw [chk_ok (decide_eq_true (by unfold lim; omega))]
        obtain ⟨a7, c7, p7, -⟩ := d132 C h
        rw [chk_ok a7, chk_ok (decide_eq_true (by rw [ByteArray.size_append]; unfold lim; omega))]
        exact h1 _ _ _ _ _ _ _ _ _ c7 (by rw [ByteArray.size_append, ByteArray.size_append]; omega)
      · have e4 : (((asL (nthD row 6)).length : Int) == 0) = false := by rw [beq_eq_false_iff_ne]; exact g3
        simp only [e4, Bool.false_eq_true, if_false]
        obtain ⟨a5, c5, b5, -⟩ := d105 C h ((asL (nthD row 6)).length : Int)
        generalize t105 l i h ((asL (nthD row 6)).length : Int) = y5 at *
        have b6 := b5.2.2 (by omega)
        have hq := mem_getD (l := asL (nthD row 6)) (i := (asI (resC y5 0 0)).toNat) (by omega)
        obtain ⟨s1, s2⟩ := r3 _ hq
        have e5 : (decide (0 ≤ asI (resC y5 0 0)) && decide (asI (resC y5 0 0) < ((asL (nthD row 6)).length : Int)) && isRow z168 ((asL (nthD row 6)).getD (asI (resC y5 0 0)).toNat [])) = true := by rw [Bool.and_eq_true, Bool.and_eq_true]; exact ⟨⟨decide_eq_true (by omega), decide_eq_true (by omega)⟩, s1⟩
        rw [chk_ok a5, e5, chk_true]
        generalize (asL (nthD row 6)).getD (asI (resC y5 0 0)).toNat [] = q at *
        rw [chk_ok (decide_eq_true (by unfold lim; omega)), chk_ok (decide_eq_true (by rw [ByteArray.size_append]; unfold lim; omega))]
        exact ih m _ _ _ _ _ _ _ c5 (by rw [ByteArray.size_append, ByteArray.size_append]; omega) (by omega) (by omega)
theorem d128 {l : List (List D)} {i : Int} (C : Cu l i) (h n : Int) (v : List (List D)) (V : VolR v) : PQ zr128 zo128 (fun o => Cu l (asI (outC o 0 1)) ∧ (asS (resC o 0 0)).size ≤ 5000 ∧ True) (t128 l i h n v) := by
  unfold t128 ta128
  extract_lets +onlyGivenNames -underBinder y1
  obtain ⟨a1, c1, -⟩ : PQ zr108 zo108 _ y1 := d108 C _ _
  clear_value y1
  refine pq_chk a1 ?_
  extract_lets +onlyGivenNames -underBinder y2
  refine pq_ite (fun _ => ?_) (fun _ => ?_)
  · extract_lets +onlyGivenNames -underBinder y3 y4 y5
    obtain ⟨a5, c5, p5, -⟩ : PQ zr130 zo130 _ y5 := d130 c1 _
    clear_value y5
    exact pq_chk a5 ⟨rfl, c5, Nat.le_trans p5 (by omega), trivial⟩
  · extract_lets +onlyGivenNames -underBinder y6 y7 y8
    obtain ⟨a8, c8, b8, -⟩ : PQ zr105 zo105 _ y8 := d105 c1 _ _
    clear_value y8
    refine pq_chk a8 ?_
    obtain ⟨k, hk, hk2⟩ : ∃ k : Nat, asI (resC y8 0 0) = (k : Int) - 1 ∧ k ≤ 4 := ⟨(asI (resC y8 0 0)).toNat + 1, by omega, by omega⟩
    rw [hk]
    obtain ⟨m, hm⟩ : ∃ m, KK = m + 1 := ⟨KK - 1, by rw [KK_eq]⟩
    rw [hm]
    have hm' : m = 18446744073709551615 := by have := KK_eq; omega
    refine way_loop l _ v V _ _ _ (fun x y a b c d e i' h' C' hx => ?_) (fun x a b c d e i' h' C' hx => ?_) k m _ _ _ _ _ _ _ c8 (by have : (⟨#[]⟩ : ByteArray).size = 0 := rfl; omega) (by omega) (by omega)
    · exact ⟨rfl, C', hx, trivial⟩
    · exact ⟨rfl, C', hx, trivial⟩
theorem n127 : PQ zr127 zo127 (fun o => VolR (asL (resC o 0 1)) ∧ True) t127 := by
  refine ⟨rfl, ⟨by show (1 : Nat) ≤ _; omega, fun r hr => ?_⟩, trivial⟩
  have : r = _ := List.mem_singleton.1 hr
  subst this
  exact ⟨rfl, by show (0 : Nat) ≤ _; omega, fun q hq => by cases hq⟩
theorem res_loop {b16 : Bool} {l18 : List (List D)} {n19 n20 n21 : Int} {s22 : ByteArray} {n23 : Int} {s24 : ByteArray} {l25 : List (List D)} (n15 : Int) (q1 : Bool → List (List D) → Rs) (Q : Rs → Prop) (hn : n15 ≤ 1000)
    (hq : ∀ a (x : List (List D)), x.length ≤ 1001 → isBytes x = true → Q (q1 a x)) :
    ∀ (k m : Nat) (v : SV) (x : List (List D)), 1000 - x.length ≤ k → k < m → x.length ≤ 1000 → isBytes x = true → Q (la107o1 t105 t108 t109 t122 n15 b16 l18 n19 n20 n21 s22 n23 s24 l25 q1 m v x) := by
  intro k
  induction k with
  | zero =>
    intro m v x hk hm hx hb
    obtain ⟨m, rfl⟩ : ∃ m', m = m' + 1 := ⟨m - 1, by omega⟩
    unfold la107o1
    have : decide ((x.length : Int) < n15) = false := decide_eq_false (by omega)
    simp only [this, Bool.false_eq_true, if_false]
    exact hq _ _ (by omega) hb
  | succ k ih =>
    intro m v x hk hm hx hb
    obtain ⟨m, rfl⟩ : ∃ m', m = m' + 1 := ⟨m - 1, by omega⟩
    unfold la107o1
    by_cases g : (x.length : Int) < n15
    · simp only [decide_eq_true g, if_true]
      rw [chk_ok (by rw [Bool.and_eq_true]; exact ⟨rfl, decide_eq_true (by simp only [List.length_cons, List.length_nil]; unfold lim; omega)⟩)]
      exact ih m _ _ (by simp; omega) (by omega) (by simp; omega) (isBytes_app hb rfl)
    · simp only [decide_eq_false g, Bool.false_eq_true, if_false]
      exact hq _ _ (by omega) hb
theorem d107 {l : List (List D)} {i : Int} (C : Cu l i) (h : Int) : PQ zr107 zo107 (fun o => Cu l (asI (outC o 0 1)) ∧ (asS (resC o 0 1)).size ≤ 2000 ∧ True) (t107 l i h) := by
  unfold t107 ta107
  extract_lets +onlyGivenNames -underBinder y1 y2
  obtain ⟨a2, c2, -⟩ : PQ zr122 zo122 _ y2 := d122 C _ _ rfl
  clear_value y2
  refine pq_chk a2 ?_
  extract_lets +onlyGivenNames -underBinder y3
  obtain ⟨a3, c3, p3, -⟩ : PQ zr109 zo109 _ y3 := d109 c2 _ _ (by decide)
  clear_value y3
  refine pq_chk a3 ?_
  extract_lets +onlyGivenNames -underBinder y4
  obtain ⟨a4, c4, -⟩ : PQ zr108 zo108 _ y4 := d108 c3 _ _
  clear_value y4
  refine pq_chk a4 ?_
  extract_lets +onlyGivenNames -underBinder y5
  refine pq_ite (fun _ => ?_) (fun _ => ?_)
  · extract_lets +onlyGivenNames -underBinder y6 y7 y8
    obtain ⟨a8, c8, b8, -⟩ : PQ zr105 zo105 _ y8 := d105 c4 _ _
    clear_value y8
    refine pq_chk a8 ?_
    extract_lets +onlyGivenNames -underBinder y9 y10 y11 y12
    refine res_loop _ _ _ (by rw [w64_in _ (by omega)]; omega) (fun a x hx hb => ?_) 1000 KK _ _ (by simp) (by rw [KK_eq]; omega) (by simp) rfl
    refine pq_chk hb ⟨rfl, c8, ?_, trivial⟩
    have := bytesD_le x
    show (bytesD x).toArray.size ≤ 2000
    simp; omega
  · exact ⟨rfl, c4, Nat.le_trans p3 (by omega), trivial⟩
end Go.Den.L14

namespace Go.Den.L14
open Go
theorem d126 {l1 : List (List D)} {n2 : Int} (C : Cu l1 n2) (n3 : Int) (n4 : Int) (l5 : List (List D)) (V : VolR l5) : PQ zr126 zo126 (fun o => Cu l1 (asI (outC o 0 1)) ∧ True) (t126 l1 n2 n3 n4 l5) := by
  unfold t126 ta126
  extract_lets +onlyGivenNames -underBinder y1
  obtain ⟨a_y1, c_y1, -⟩ : PQ zr122 zo122 _ y1 := d122 C _ _ rfl
  clear_value y1
  refine pq_chk a_y1 ?_
  extract_lets +onlyGivenNames -underBinder y2
  obtain ⟨a_y2, c_y2, p_y2_0_0, -⟩ : PQ zr128 zo128 _ y2 := d128 c_y1 _ _ _ V
  clear_value y2
  refine pq_chk a_y2 ?_
  extract_lets +onlyGivenNames -underBinder k2
  have h_k2 : ∀ (b7 : Bool), PQ zr126 zo126 (fun o => Cu l1 (asI (outC o 0 1)) ∧ True) (k2 b7) := by
    intro b7
    dsimp -zeta only [k2]
    refine pq_ite (fun _ => ?_) (fun _ => ?_)
    ·
      extract_lets +onlyGivenNames -underBinder y3
      extract_lets +onlyGivenNames -underBinder y4
      extract_lets +onlyGivenNames -underBinder y5
      obtain ⟨a_y5, c_y5, -⟩ : PQ zr122 zo122 _ y5 := d122 c_y2 _ _ rfl
      clear_value y5
      refine pq_chk a_y5 ?_
      extract_lets +onlyGivenNames -underBinder y6
      obtain ⟨a_y6, c_y6, -⟩ : PQ zr108 zo108 _ y6 := d108 c_y5 _ _
      clear_value y6
      refine pq_chk a_y6 ?_
      refine pq_ite (fun _ => ?_) (fun _ => ?_)
      ·
        extract_lets +onlyGivenNames -underBinder y7
        extract_lets +onlyGivenNames -underBinder y8
        extract_lets +onlyGivenNames -underBinder y9
        obtain ⟨a_y9, c_y9, -⟩ : PQ zr105 zo105 _ y9 := d105 c_y6 _ _
        clear_value y9
        refine pq_chk a_y9 ?_
        extract_lets +onlyGivenNames -underBinder y10
        refine pq_ite (fun _ => ?_) (fun _ => ?_)
        ·
          extract_lets +onlyGivenNames -underBinder y11
          extract_lets +onlyGivenNames -underBinder y12
          extract_lets +onlyGivenNames -underBinder y13
          obtain ⟨a_y13, c_y13, -⟩ : PQ zr122 zo122 _ y13 := d122 c_y9 _ _ rfl
          clear_value y13
          refine pq_chk a_y13 ?_
          extract_lets +onlyGivenNames -underBinder y14
          extract_lets +onlyGivenNames -underBinder y15
          exact ⟨rfl, c_y13, trivial⟩
        ·
          refine pq_ite (fun _ => ?_) (fun _ => ?_)
          ·
            extract_lets +onlyGivenNames -underBinder y16
            extract_lets +onlyGivenNames -underBinder y17
            extract_lets +onlyGivenNames -underBinder y18
            obtain ⟨a_y18, c_y18, -⟩ : PQ zr122 zo122 _ y18 := d122 c_y9 _ _ rfl
            clear_value y18
            refine pq_chk a_y18 ?_
            extract_lets +onlyGivenNames -underBinder y19
            extract_lets +onlyGivenNames -underBinder y20
            exact ⟨rfl, c_y18, trivial⟩
          ·
            refine pq_ite (fun _ => ?_) (fun _ => ?_)
            ·
              extract_lets +onlyGivenNames -underBinder y21
              extract_lets +onlyGivenNames -underBinder y22
              extract_lets +onlyGivenNames -underBinder y23
              obtain ⟨a_y23, c_y23, -⟩ : PQ zr122 zo122 _ y23 := d122 c_y9 _ _ rfl
              clear_value y23
              refine pq_chk a_y23 ?_
              extract_lets +onlyGivenNames -underBinder y24
              extract_lets +onlyGivenNames -underBinder y25
              extract_lets +onlyGivenNames -underBinder y26
              exact ⟨rfl, c_y23, trivial⟩
            ·
              refine pq_ite (fun _ => ?_) (fun _ => ?_)
              ·
                refine pq_chk (decide_eq_true (by have q1 := (show (⟨#[]⟩ : ByteArray).size ≤ 0 from Nat.le_of_eq rfl); have q2 := (show (⟨#[121]⟩ : ByteArray).size ≤ 1 from Nat.le_of_eq rfl); unfold lim; omega)) ?_
                extract_lets +onlyGivenNames -underBinder y27
                extract_lets +onlyGivenNames -underBinder y28
                extract_lets +onlyGivenNames -underBinder y29
                extract_lets +onlyGivenNames -underBinder y30
                extract_lets +onlyGivenNames -underBinder y31
                exact ⟨rfl, c_y9, trivial⟩
              ·
                extract_lets +onlyGivenNames -underBinder k5
                have h_k5 : ∀ (n13 : Int) (n14 : Int) (s15 : ByteArray) (s16 : ByteArray) (C_k5_n13 : Cu l1 n13), PQ zr126 zo126 (fun o => Cu l1 (asI (outC o 0 1)) ∧ True) (k5 n13 n14 s15 s16) := by
                  intro n13 n14 s15 s16 C_k5_n13
                  dsimp -zeta only [k5]
                  extract_lets +onlyGivenNames -underBinder y32
                  extract_lets +onlyGivenNames -underBinder y33
                  exact ⟨rfl, C_k5_n13, trivial⟩
                refine pq_ite (fun _ => ?_) (fun _ => ?_)
                ·
                  extract_lets +onlyGivenNames -underBinder y34
                  extract_lets +onlyGivenNames -underBinder y35
                  extract_lets +onlyGivenNames -underBinder y36
                  obtain ⟨a_y36, c_y36, p_y36_0_0, -⟩ : PQ zr129 zo129 _ y36 := d129 c_y9 _ _ rfl
                  clear_value y36
                  refine pq_chk a_y36 ?_
                  extract_lets +onlyGivenNames -underBinder y37
                  exact h_k5 (asI (outC y36 0 1)) (asI (outC y36 0 2)) y37 (asS (resC y36 0 0)) c_y36
                ·
                  extract_lets +onlyGivenNames -underBinder y38
                  extract_lets +onlyGivenNames -underBinder y39
                  extract_lets +onlyGivenNames -underBinder y40
                  obtain ⟨a_y40, c_y40, p_y40_0_0, -⟩ : PQ zr130 zo130 _ y40 := d130 c_y9 _
                  clear_value y40
                  refine pq_chk a_y40 ?_
                  exact h_k5 (asI (outC y40 0 1)) (asI (outC y40 0 2)) (asS (resC y40 0 0)) (⟨#[]⟩ : ByteArray) c_y40
      ·
        extract_lets +onlyGivenNames -underBinder y41
        extract_lets +onlyGivenNames -underBinder y42
        extract_lets +onlyGivenNames -underBinder y43
        extract_lets +onlyGivenNames -underBinder y44
        extract_lets +onlyGivenNames -underBinder y45
        exact ⟨rfl, c_y6, trivial⟩
    ·
      extract_lets +onlyGivenNames -underBinder y46
      refine pq_ite (fun _ => ?_) (fun _ => ?_)
      ·
        extract_lets +onlyGivenNames -underBinder y47
        extract_lets +onlyGivenNames -underBinder y48
        extract_lets +onlyGivenNames -underBinder y49
        obtain ⟨a_y49, c_y49, -⟩ : PQ zr105 zo105 _ y49 := d105 c_y2 _ _
        clear_value y49
        refine pq_chk a_y49 ?_
        extract_lets +onlyGivenNames -underBinder y50
        obtain ⟨a_y50, c_y50, -⟩ : PQ zr105 zo105 _ y50 := d105 c_y49 _ _
        clear_value y50
        refine pq_chk a_y50 ?_
        extract_lets +onlyGivenNames -underBinder y51
        obtain ⟨a_y51, c_y51, -⟩ : PQ zr108 zo108 _ y51 := d108 c_y50 _ _
        clear_value y51
        refine pq_chk a_y51 ?_
        refine pq_ite (fun _ => ?_) (fun _ => ?_)
        ·
          extract_lets +onlyGivenNames -underBinder y52
          extract_lets +onlyGivenNames -underBinder y53
          extract_lets +onlyGivenNames -underBinder y54
          obtain ⟨a_y54, c_y54, -⟩ : PQ zr105 zo105 _ y54 := d105 c_y51 _ _
          clear_value y54
          refine pq_chk a_y54 ?_
          extract_lets +onlyGivenNames -underBinder y55
          refine pq_ite (fun _ => ?_) (fun _ => ?_)
          ·
            extract_lets +onlyGivenNames -underBinder y56
            extract_lets +onlyGivenNames -underBinder y57
            extract_lets +onlyGivenNames -underBinder y58
            obtain ⟨a_y58, c_y58, -⟩ : PQ zr122 zo122 _ y58 := d122 c_y54 _ _ rfl
            clear_value y58
            refine pq_chk a_y58 ?_
            extract_lets +onlyGivenNames -underBinder y59
            extract_lets +onlyGivenNames -underBinder y60
            extract_lets +onlyGivenNames -underBinder y61
            exact ⟨rfl, c_y58, trivial⟩
          ·
            refine pq_ite (fun _ => ?_) (fun _ => ?_)
            ·
              extract_lets +onlyGivenNames -underBinder y62
              extract_lets +onlyGivenNames -underBinder y63
              extract_lets +onlyGivenNames -underBinder y64
              obtain ⟨a_y64, c_y64, -⟩ : PQ zr122 zo122 _ y64 := d122 c_y54 _ _ rfl
              clear_value y64
              refine pq_chk a_y64 ?_
              extract_lets +onlyGivenNames -underBinder y65
              extract_lets +onlyGivenNames -underBinder y66
              exact ⟨rfl, c_y64, trivial⟩
            ·
              refine pq_ite (fun _ => ?_) (fun _ => ?_)
              ·
                extract_lets +onlyGivenNames -underBinder y67
                extract_lets +onlyGivenNames -underBinder y68
                extract_lets +onlyGivenNames -underBinder y69
                obtain ⟨a_y69, c_y69, -⟩ : PQ zr122 zo122 _ y69 := d122 c_y54 _ _ rfl
                clear_value y69
                refine pq_chk a_y69 ?_
                extract_lets +onlyGivenNames -underBinder y70
                extract_lets +onlyGivenNames -underBinder y71
                exact ⟨rfl, c_y69, trivial⟩
              ·
                refine pq_ite (fun _ => ?_) (fun _ => ?_)
                ·
                  refine pq_chk (decide_eq_true (by have q1 := (show (⟨#[]⟩ : ByteArray).size ≤ 0 from Nat.le_of_eq rfl); have q2 := (show (⟨#[121]⟩ : ByteArray).size ≤ 1 from Nat.le_of_eq rfl); unfold lim; omega)) ?_
                  extract_lets +onlyGivenNames -underBinder y72
                  extract_lets +onlyGivenNames -underBinder y73
                  extract_lets +onlyGivenNames -underBinder y74
                  extract_lets +onlyGivenNames -underBinder y75
                  extract_lets +onlyGivenNames -underBinder y76
                  exact ⟨rfl, c_y54, trivial⟩
                ·
                  extract_lets +onlyGivenNames -underBinder k6
                  have h_k6 : ∀ (n17 : Int) (n18 : Int) (s19 : ByteArray) (s20 : ByteArray) (C_k6_n17 : Cu l1 n17), PQ zr126 zo126 (fun o => Cu l1 (asI (outC o 0 1)) ∧ True) (k6 n17 n18 s19 s20) := by
                    intro n17 n18 s19 s20 C_k6_n17
                    dsimp -zeta only [k6]
                    extract_lets +onlyGivenNames -underBinder y77
                    extract_lets +onlyGivenNames -underBinder y78
                    exact ⟨rfl, C_k6_n17, trivial⟩
                  refine pq_ite (fun _ => ?_) (fun _ => ?_)
                  ·
                    extract_lets +onlyGivenNames -underBinder y79
                    extract_lets +onlyGivenNames -underBinder y80
                    extract_lets +onlyGivenNames -underBinder y81
                    obtain ⟨a_y81, c_y81, p_y81_0_0, -⟩ : PQ zr129 zo129 _ y81 := d129 c_y54 _ _ rfl
                    clear_value y81
                    refine pq_chk a_y81 ?_
                    extract_lets +onlyGivenNames -underBinder y82
                    exact h_k6 (asI (outC y81 0 1)) (asI (outC y81 0 2)) y82 (asS (resC y81 0 0)) c_y81
                  ·
                    extract_lets +onlyGivenNames -underBinder y83
                    extract_lets +onlyGivenNames -underBinder y84
                    extract_lets +onlyGivenNames -underBinder y85
                    obtain ⟨a_y85, c_y85, p_y85_0_0, -⟩ : PQ zr130 zo130 _ y85 := d130 c_y54 _
                    clear_value y85
                    refine pq_chk a_y85 ?_
                    exact h_k6 (asI (outC y85 0 1)) (asI (outC y85 0 2)) (asS (resC y85 0 0)) (⟨#[]⟩ : ByteArray) c_y85
        ·
          extract_lets +onlyGivenNames -underBinder y86
          extract_lets +onlyGivenNames -underBinder y87
          extract_lets +onlyGivenNames -underBinder y88
          extract_lets +onlyGivenNames -underBinder y89
          extract_lets +onlyGivenNames -underBinder y90
          exact ⟨rfl, c_y51, trivial⟩
      ·
        refine pq_ite (fun _ => ?_) (fun _ => ?_)
        ·
          extract_lets +onlyGivenNames -underBinder y91
          extract_lets +onlyGivenNames -underBinder y92
          extract_lets +onlyGivenNames -underBinder y93
          obtain ⟨a_y93, c_y93, -⟩ : PQ zr105 zo105 _ y93 := d105 c_y2 _ _
          clear_value y93
          refine pq_chk a_y93 ?_
          extract_lets +onlyGivenNames -underBinder y94
          obtain ⟨a_y94, c_y94, p_y94_0_0, -⟩ : PQ zr109 zo109 _ y94 := d109 c_y93 _ _ (by decide)
          clear_value y94
          refine pq_chk a_y94 ?_
          extract_lets +onlyGivenNames -underBinder y95
          obtain ⟨a_y95, c_y95, -⟩ : PQ zr108 zo108 _ y95 := d108 c_y94 _ _
          clear_value y95
          refine pq_chk a_y95 ?_
          refine pq_ite (fun _ => ?_) (fun _ => ?_)
          ·
            extract_lets +onlyGivenNames -underBinder y96
            extract_lets +onlyGivenNames -underBinder y97
            extract_lets +onlyGivenNames -underBinder y98
            obtain ⟨a_y98, c_y98, -⟩ : PQ zr105 zo105 _ y98 := d105 c_y95 _ _
            clear_value y98
            refine pq_chk a_y98 ?_
            extract_lets +onlyGivenNames -underBinder y99
            refine pq_ite (fun _ => ?_) (fun _ => ?_)
            ·
              extract_lets +onlyGivenNames -underBinder y100
              extract_lets +onlyGivenNames -underBinder y101
              extract_lets +onlyGivenNames -underBinder y102
              obtain ⟨a_y102, c_y102, -⟩ : PQ zr122 zo122 _ y102 := d122 c_y98 _ _ rfl
              clear_value y102
              refine pq_chk a_y102 ?_
              extract_lets +onlyGivenNames -underBinder y103
              extract_lets +onlyGivenNames -underBinder y104
              extract_lets +onlyGivenNames -underBinder y105
              exact ⟨rfl, c_y102, trivial⟩
            ·
              refine pq_ite (fun _ => ?_) (fun _ => ?_)
              ·
                extract_lets +onlyGivenNames -underBinder y106
                extract_lets +onlyGivenNames -underBinder y107
                extract_lets +onlyGivenNames -underBinder y108
                obtain ⟨a_y108, c_y108, -⟩ : PQ zr122 zo122 _ y108 := d122 c_y98 _ _ rfl
                clear_value y108
                refine pq_chk a_y108 ?_
                extract_lets +onlyGivenNames -underBinder y109
                extract_lets +onlyGivenNames -underBinder y110
                exact ⟨rfl, c_y108, trivial⟩
              ·
                refine pq_ite (fun _ => ?_) (fun _ => ?_)
                ·
                  extract_lets +onlyGivenNames -underBinder y111
                  extract_lets +onlyGivenNames -underBinder y112
                  extract_lets +onlyGivenNames -underBinder y113
                  obtain ⟨a_y113, c_y113, -⟩ : PQ zr122 zo122 _ y113 := d122 c_y98 _ _ rfl
                  clear_value y113
                  refine pq_chk a_y113 ?_
                  extract_lets +onlyGivenNames -underBinder y114
                  extract_lets +onlyGivenNames -underBinder y115
                  extract_lets +onlyGivenNames -underBinder y116
                  exact ⟨rfl, c_y113, trivial⟩
                ·
                  refine pq_ite (fun _ => ?_) (fun _ => ?_)
                  ·
                    extract_lets +onlyGivenNames -underBinder y117
                    refine pq_chk (decide_eq_true (by have q1 := (show y117.size ≤ 1000 from (show (asS (resC y94 0 0)).size ≤ 1000 from p_y94_0_0)); have q2 := (show (⟨#[121]⟩ : ByteArray).size ≤ 1 from Nat.le_of_eq rfl); unfold lim; omega)) ?_
                    extract_lets +onlyGivenNames -underBinder y118
                    extract_lets +onlyGivenNames -underBinder y119
                    extract_lets +onlyGivenNames -underBinder y120
                    extract_lets +onlyGivenNames -underBinder y121
                    exact ⟨rfl, c_y98, trivial⟩
                  ·
                    extract_lets +onlyGivenNames -underBinder k7
                    have h_k7 : ∀ (n21 : Int) (n22 : Int) (s23 : ByteArray) (s24 : ByteArray) (C_k7_n21 : Cu l1 n21), PQ zr126 zo126 (fun o => Cu l1 (asI (outC o 0 1)) ∧ True) (k7 n21 n22 s23 s24) := by
                      intro n21 n22 s23 s24 C_k7_n21
                      dsimp -zeta only [k7]
                      extract_lets +onlyGivenNames -underBinder y122
                      extract_lets +onlyGivenNames -underBinder y123
                      exact ⟨rfl, C_k7_n21, trivial⟩
                    refine pq_ite (fun _ => ?_) (fun _ => ?_)
                    ·
                      extract_lets +onlyGivenNames -underBinder y124
                      extract_lets +onlyGivenNames -underBinder y125
                      extract_lets +onlyGivenNames -underBinder y126
                      obtain ⟨a_y126, c_y126, p_y126_0_0, -⟩ : PQ zr129 zo129 _ y126 := d129 c_y98 _ _ rfl
                      clear_value y126
                      refine pq_chk a_y126 ?_
                      extract_lets +onlyGivenNames -underBinder y127
                      exact h_k7 (asI (outC y126 0 1)) (asI (outC y126 0 2)) y127 (asS (resC y126 0 0)) c_y126
                    ·
                      extract_lets +onlyGivenNames -underBinder y128
                      extract_lets +onlyGivenNames -underBinder y129
                      extract_lets +onlyGivenNames -underBinder y130
                      obtain ⟨a_y130, c_y130, p_y130_0_0, -⟩ : PQ zr130 zo130 _ y130 := d130 c_y98 _
                      clear_value y130
                      refine pq_chk a_y130 ?_
                      exact h_k7 (asI (outC y130 0 1)) (asI (outC y130 0 2)) (asS (resC y130 0 0)) (⟨#[]⟩ : ByteArray) c_y130
          ·
            extract_lets +onlyGivenNames -underBinder y131
            extract_lets +onlyGivenNames -underBinder y132
            extract_lets +onlyGivenNames -underBinder y133
            extract_lets +onlyGivenNames -underBinder y134
            extract_lets +onlyGivenNames -underBinder y135
            exact ⟨rfl, c_y95, trivial⟩
        ·
          refine pq_ite (fun _ => ?_) (fun _ => ?_)
          ·
            extract_lets +onlyGivenNames -underBinder y136
            extract_lets +onlyGivenNames -underBinder y137
            extract_lets +onlyGivenNames -underBinder y138
            obtain ⟨a_y138, c_y138, p_y138_0_0, -⟩ : PQ zr109 zo109 _ y138 := d109 c_y2 _ _ (by decide)
            clear_value y138
            refine pq_chk a_y138 ?_
            extract_lets +onlyGivenNames -underBinder y139
            obtain ⟨a_y139, c_y139, -⟩ : PQ zr108 zo108 _ y139 := d108 c_y138 _ _
            clear_value y139
            refine pq_chk a_y139 ?_
            refine pq_ite (fun _ => ?_) (fun _ => ?_)
            ·
              extract_lets +onlyGivenNames -underBinder y140
              extract_lets +onlyGivenNames -underBinder y141
              extract_lets +onlyGivenNames -underBinder y142
              obtain ⟨a_y142, c_y142, -⟩ : PQ zr105 zo105 _ y142 := d105 c_y139 _ _
              clear_value y142
              refine pq_chk a_y142 ?_
              extract_lets +onlyGivenNames -underBinder y143
              refine pq_ite (fun _ => ?_) (fun _ => ?_)
              ·
                extract_lets +onlyGivenNames -underBinder y144
                extract_lets +onlyGivenNames -underBinder y145
                extract_lets +onlyGivenNames -underBinder y146
                obtain ⟨a_y146, c_y146, -⟩ : PQ zr122 zo122 _ y146 := d122 c_y142 _ _ rfl
                clear_value y146
                refine pq_chk a_y146 ?_
                extract_lets +onlyGivenNames -underBinder y147
                extract_lets +onlyGivenNames -underBinder y148
                exact ⟨rfl, c_y146, trivial⟩
              ·
                refine pq_ite (fun _ => ?_) (fun _ => ?_)
                ·
                  extract_lets +onlyGivenNames -underBinder y149
                  extract_lets +onlyGivenNames -underBinder y150
                  extract_lets +onlyGivenNames -underBinder y151
                  obtain ⟨a_y151, c_y151, -⟩ : PQ zr122 zo122 _ y151 := d122 c_y142 _ _ rfl
                  clear_value y151
                  refine pq_chk a_y151 ?_
                  extract_lets +onlyGivenNames -underBinder y152
                  extract_lets +onlyGivenNames -underBinder y153
                  exact ⟨rfl, c_y151, trivial⟩
                ·
                  refine pq_ite (fun _ => ?_) (fun _ => ?_)
                  ·
                    extract_lets +onlyGivenNames -underBinder y154
                    extract_lets +onlyGivenNames -underBinder y155
                    extract_lets +onlyGivenNames -underBinder y156
                    obtain ⟨a_y156, c_y156, -⟩ : PQ zr122 zo122 _ y156 := d122 c_y142 _ _ rfl
                    clear_value y156
                    refine pq_chk a_y156 ?_
                    extract_lets +onlyGivenNames -underBinder y157
                    extract_lets +onlyGivenNames -underBinder y158
                    exact ⟨rfl, c_y156, trivial⟩
                  ·
                    refine pq_ite (fun _ => ?_) (fun _ => ?_)
                    ·
                      extract_lets +onlyGivenNames -underBinder y159
                      refine pq_chk (decide_eq_true (by have q1 := (show y159.size ≤ 1000 from (show (asS (resC y138 0 0)).size ≤ 1000 from p_y138_0_0)); have q2 := (show (⟨#[121]⟩ : ByteArray).size ≤ 1 from Nat.le_of_eq rfl); unfold lim; omega)) ?_
                      extract_lets +onlyGivenNames -underBinder y160
                      extract_lets +onlyGivenNames -underBinder y161
                      extract_lets +onlyGivenNames -underBinder y162
                      exact ⟨rfl, c_y142, trivial⟩
                    ·
                      extract_lets +onlyGivenNames -underBinder k8
                      have h_k8 : ∀ (n25 : Int) (n26 : Int) (s27 : ByteArray) (s28 : ByteArray) (C_k8_n25 : Cu l1 n25), PQ zr126 zo126 (fun o => Cu l1 (asI (outC o 0 1)) ∧ True) (k8 n25 n26 s27 s28) := by
                        intro n25 n26 s27 s28 C_k8_n25
                        dsimp -zeta only [k8]
                        extract_lets +onlyGivenNames -underBinder y163
                        exact ⟨rfl, C_k8_n25, trivial⟩
                      refine pq_ite (fun _ => ?_) (fun _ => ?_)
                      ·
                        extract_lets +onlyGivenNames -underBinder y164
                        extract_lets +onlyGivenNames -underBinder y165
                        extract_lets +onlyGivenNames -underBinder y166
                        obtain ⟨a_y166, c_y166, p_y166_0_0, -⟩ : PQ zr129 zo129 _ y166 := d129 c_y142 _ _ rfl
                        clear_value y166
                        refine pq_chk a_y166 ?_
                        extract_lets +onlyGivenNames -underBinder y167
                        exact h_k8 (asI (outC y166 0 1)) (asI (outC y166 0 2)) y167 (asS (resC y166 0 0)) c_y166
                      ·
                        extract_lets +onlyGivenNames -underBinder y168
                        extract_lets +onlyGivenNames -underBinder y169
                        extract_lets +onlyGivenNames -underBinder y170
                        obtain ⟨a_y170, c_y170, p_y170_0_0, -⟩ : PQ zr130 zo130 _ y170 := d130 c_y142 _
                        clear_value y170
                        refine pq_chk a_y170 ?_
                        exact h_k8 (asI (outC y170 0 1)) (asI (outC y170 0 2)) (asS (resC y170 0 0)) (⟨#[]⟩ : ByteArray) c_y170
            ·
              extract_lets +onlyGivenNames -underBinder y171
              extract_lets +onlyGivenNames -underBinder y172
              extract_lets +onlyGivenNames -underBinder y173
              extract_lets +onlyGivenNames -underBinder y174
              exact ⟨rfl, c_y139, trivial⟩
          ·
            refine pq_ite (fun _ => ?_) (fun _ => ?_)
            ·
              extract_lets +onlyGivenNames -underBinder y175
              extract_lets +onlyGivenNames -underBinder y176
              extract_lets +onlyGivenNames -underBinder y177
              obtain ⟨a_y177, c_y177, -⟩ : PQ zr105 zo105 _ y177 := d105 c_y2 _ _
              clear_value y177
              refine pq_chk a_y177 ?_
              extract_lets +onlyGivenNames -underBinder y178
              obtain ⟨a_y178, c_y178, -⟩ : PQ zr108 zo108 _ y178 := d108 c_y177 _ _
              clear_value y178
              refine pq_chk a_y178 ?_
              refine pq_ite (fun _ => ?_) (fun _ => ?_)
              ·
                extract_lets +onlyGivenNames -underBinder y179
                extract_lets +onlyGivenNames -underBinder y180
                extract_lets +onlyGivenNames -underBinder y181
                obtain ⟨a_y181, c_y181, -⟩ : PQ zr105 zo105 _ y181 := d105 c_y178 _ _
                clear_value y181
                refine pq_chk a_y181 ?_
                extract_lets +onlyGivenNames -underBinder y182
                refine pq_ite (fun _ => ?_) (fun _ => ?_)
                ·
                  extract_lets +onlyGivenNames -underBinder y183
                  extract_lets +onlyGivenNames -underBinder y184
                  extract_lets +onlyGivenNames -underBinder y185
                  obtain ⟨a_y185, c_y185, -⟩ : PQ zr122 zo122 _ y185 := d122 c_y181 _ _ rfl
                  clear_value y185
                  refine pq_chk a_y185 ?_
                  extract_lets +onlyGivenNames -underBinder y186
                  extract_lets +onlyGivenNames -underBinder y187
                  exact ⟨rfl, c_y185, trivial⟩
                ·
                  refine pq_ite (fun _ => ?_) (fun _ => ?_)
                  ·
                    extract_lets +onlyGivenNames -underBinder y188
                    extract_lets +onlyGivenNames -underBinder y189
                    extract_lets +onlyGivenNames -underBinder y190
                    obtain ⟨a_y190, c_y190, -⟩ : PQ zr122 zo122 _ y190 := d122 c_y181 _ _ rfl
                    clear_value y190
                    refine pq_chk a_y190 ?_
                    extract_lets +onlyGivenNames -underBinder y191
                    exact ⟨rfl, c_y190, trivial⟩
                  ·
                    refine pq_ite (fun _ => ?_) (fun _ => ?_)
                    ·
                      extract_lets +onlyGivenNames -underBinder y192
                      extract_lets +onlyGivenNames -underBinder y193
                      extract_lets +onlyGivenNames -underBinder y194
                      obtain ⟨a_y194, c_y194, -⟩ : PQ zr122 zo122 _ y194 := d122 c_y181 _ _ rfl
                      clear_value y194
                      refine pq_chk a_y194 ?_
                      extract_lets +onlyGivenNames -underBinder y195
                      extract_lets +onlyGivenNames -underBinder y196
                      exact ⟨rfl, c_y194, trivial⟩
                    ·
                      refine pq_ite (fun _ => ?_) (fun _ => ?_)
                      ·
                        refine pq_chk (decide_eq_true (by have q1 := (show (⟨#[]⟩ : ByteArray).size ≤ 0 from Nat.le_of_eq rfl); have q2 := (show (⟨#[121]⟩ : ByteArray).size ≤ 1 from Nat.le_of_eq rfl); unfold lim; omega)) ?_
                        extract_lets +onlyGivenNames -underBinder y197
                        extract_lets +onlyGivenNames -underBinder y198
                        extract_lets +onlyGivenNames -underBinder y199
                        extract_lets +onlyGivenNames -underBinder y200
                        exact ⟨rfl, c_y181, trivial⟩
                      ·
                        extract_lets +onlyGivenNames -underBinder k9
                        have h_k9 : ∀ (n29 : Int) (n30 : Int) (s31 : ByteArray) (s32 : ByteArray) (C_k9_n29 : Cu l1 n29), PQ zr126 zo126 (fun o => Cu l1 (asI (outC o 0 1)) ∧ True) (k9 n29 n30 s31 s32) := by
                          intro n29 n30 s31 s32 C_k9_n29
                          dsimp -zeta only [k9]
                          extract_lets +onlyGivenNames -underBinder y201
                          exact ⟨rfl, C_k9_n29, trivial⟩
                        refine pq_ite (fun _ => ?_) (fun _ => ?_)
                        ·
                          extract_lets +onlyGivenNames -underBinder y202
                          extract_lets +onlyGivenNames -underBinder y203
                          extract_lets +onlyGivenNames -underBinder y204
                          obtain ⟨a_y204, c_y204, p_y204_0_0, -⟩ : PQ zr129 zo129 _ y204 := d129 c_y181 _ _ rfl
                          clear_value y204
                          refine pq_chk a_y204 ?_
                          extract_lets +onlyGivenNames -underBinder y205
                          exact h_k9 (asI (outC y204 0 1)) (asI (outC y204 0 2)) y205 (asS (resC y204 0 0)) c_y204
                        ·
                          extract_lets +onlyGivenNames -underBinder y206
                          extract_lets +onlyGivenNames -underBinder y207
                          extract_lets +onlyGivenNames -underBinder y208
                          obtain ⟨a_y208, c_y208, p_y208_0_0, -⟩ : PQ zr130 zo130 _ y208 := d130 c_y181 _
                          clear_value y208
                          refine pq_chk a_y208 ?_
                          exact h_k9 (asI (outC y208 0 1)) (asI (outC y208 0 2)) (asS (resC y208 0 0)) (⟨#[]⟩ : ByteArray) c_y208
              ·
                extract_lets +onlyGivenNames -underBinder y209
                extract_lets +onlyGivenNames -underBinder y210
                extract_lets +onlyGivenNames -underBinder y211
                extract_lets +onlyGivenNames -underBinder y212
                exact ⟨rfl, c_y178, trivial⟩
            ·
              extract_lets +onlyGivenNames -underBinder k3
              have h_k3 : ∀ (b8 : Bool), PQ zr126 zo126 (fun o => Cu l1 (asI (outC o 0 1)) ∧ True) (k3 b8) := by
                intro b8
                dsimp -zeta only [k3]
                refine pq_ite (fun _ => ?_) (fun _ => ?_)
                ·
                  extract_lets +onlyGivenNames -underBinder y213
                  extract_lets +onlyGivenNames -underBinder y214
                  extract_lets +onlyGivenNames -underBinder y215
                  obtain ⟨a_y215, c_y215, p_y215_0_0, -⟩ : PQ zr128 zo128 _ y215 := d128 c_y2 _ _ _ V
                  clear_value y215
                  refine pq_chk a_y215 ?_
                  extract_lets +onlyGivenNames -underBinder y216
                  obtain ⟨a_y216, c_y216, -⟩ : PQ zr108 zo108 _ y216 := d108 c_y215 _ _
                  clear_value y216
                  refine pq_chk a_y216 ?_
                  refine pq_ite (fun _ => ?_) (fun _ => ?_)
                  ·
                    extract_lets +onlyGivenNames -underBinder y217
                    extract_lets +onlyGivenNames -underBinder y218
                    extract_lets +onlyGivenNames -underBinder y219
                    obtain ⟨a_y219, c_y219, -⟩ : PQ zr105 zo105 _ y219 := d105 c_y216 _ _
                    clear_value y219
                    refine pq_chk a_y219 ?_
                    extract_lets +onlyGivenNames -underBinder y220
                    refine pq_ite (fun _ => ?_) (fun _ => ?_)
                    ·
                      extract_lets +onlyGivenNames -underBinder y221
                      extract_lets +onlyGivenNames -underBinder y222
                      extract_lets +onlyGivenNames -underBinder y223
                      obtain ⟨a_y223, c_y223, -⟩ : PQ zr122 zo122 _ y223 := d122 c_y219 _ _ rfl
                      clear_value y223
                      refine pq_chk a_y223 ?_
                      extract_lets +onlyGivenNames -underBinder y224
                      extract_lets +onlyGivenNames -underBinder y225
                      exact ⟨rfl, c_y223, trivial⟩
                    ·
                      refine pq_ite (fun _ => ?_) (fun _ => ?_)
                      ·
                        extract_lets +onlyGivenNames -underBinder y226
                        extract_lets +onlyGivenNames -underBinder y227
                        extract_lets +onlyGivenNames -underBinder y228
                        obtain ⟨a_y228, c_y228, -⟩ : PQ zr122 zo122 _ y228 := d122 c_y219 _ _ rfl
                        clear_value y228
                        refine pq_chk a_y228 ?_
                        extract_lets +onlyGivenNames -underBinder y229
                        extract_lets +onlyGivenNames -underBinder y230
                        exact ⟨rfl, c_y228, trivial⟩
                      ·
                        refine pq_ite (fun _ => ?_) (fun _ => ?_)
                        ·
                          extract_lets +onlyGivenNames -underBinder y231
                          extract_lets +onlyGivenNames -underBinder y232
                          extract_lets +onlyGivenNames -underBinder y233
                          obtain ⟨a_y233, c_y233, -⟩ : PQ zr122 zo122 _ y233 := d122 c_y219 _ _ rfl
                          clear_value y233
                          refine pq_chk a_y233 ?_
                          extract_lets +onlyGivenNames -underBinder y234
                          extract_lets +onlyGivenNames -underBinder y235
                          exact ⟨rfl, c_y233, trivial⟩
                        ·
                          refine pq_ite (fun _ => ?_) (fun _ => ?_)
                          ·
                            refine pq_chk (decide_eq_true (by have q1 := (show (⟨#[]⟩ : ByteArray).size ≤ 0 from Nat.le_of_eq rfl); have q2 := (show (⟨#[121]⟩ : ByteArray).size ≤ 1 from Nat.le_of_eq rfl); unfold lim; omega)) ?_
                            extract_lets +onlyGivenNames -underBinder y236
                            extract_lets +onlyGivenNames -underBinder y237
                            extract_lets +onlyGivenNames -underBinder y238
                            extract_lets +onlyGivenNames -underBinder y239
                            exact ⟨rfl, c_y219, trivial⟩
                          ·
                            extract_lets +onlyGivenNames -underBinder k10
                            have h_k10 : ∀ (n33 : Int) (n34 : Int) (s35 : ByteArray) (s36 : ByteArray) (C_k10_n33 : Cu l1 n33), PQ zr126 zo126 (fun o => Cu l1 (asI (outC o 0 1)) ∧ True) (k10 n33 n34 s35 s36) := by
                              intro n33 n34 s35 s36 C_k10_n33
                              dsimp -zeta only [k10]
                              exact ⟨rfl, C_k10_n33, trivial⟩
                            refine pq_ite (fun _ => ?_) (fun _ => ?_)
                            ·
                              extract_lets +onlyGivenNames -underBinder y240
                              extract_lets +onlyGivenNames -underBinder y241
                              extract_lets +onlyGivenNames -underBinder y242
                              obtain ⟨a_y242, c_y242, p_y242_0_0, -⟩ : PQ zr129 zo129 _ y242 := d129 c_y219 _ _ rfl
                              clear_value y242
                              refine pq_chk a_y242 ?_
                              extract_lets +onlyGivenNames -underBinder y243
                              exact h_k10 (asI (outC y242 0 1)) (asI (outC y242 0 2)) y243 (asS (resC y242 0 0)) c_y242
                            ·
                              extract_lets +onlyGivenNames -underBinder y244
                              extract_lets +onlyGivenNames -underBinder y245
                              extract_lets +onlyGivenNames -underBinder y246
                              obtain ⟨a_y246, c_y246, p_y246_0_0, -⟩ : PQ zr130 zo130 _ y246 := d130 c_y219 _
                              clear_value y246
                              refine pq_chk a_y246 ?_
                              extract_lets +onlyGivenNames -underBinder y247
                              exact h_k10 (asI (outC y246 0 1)) (asI (outC y246 0 2)) (asS (resC y246 0 0)) y247 c_y246
                  ·
                    extract_lets +onlyGivenNames -underBinder y248
                    extract_lets +onlyGivenNames -underBinder y249
                    extract_lets +onlyGivenNames -underBinder y250
                    extract_lets +onlyGivenNames -underBinder y251
                    exact ⟨rfl, c_y216, trivial⟩
                ·
                  refine pq_ite (fun _ => ?_) (fun _ => ?_)
                  ·
                    extract_lets +onlyGivenNames -underBinder y252
                    extract_lets +onlyGivenNames -underBinder y253
                    extract_lets +onlyGivenNames -underBinder y254
                    obtain ⟨a_y254, c_y254, p_y254_0_0, -⟩ : PQ zr129 zo129 _ y254 := d129 c_y2 _ _ rfl
                    clear_value y254
                    refine pq_chk a_y254 ?_
                    extract_lets +onlyGivenNames -underBinder y255
                    obtain ⟨a_y255, c_y255, -⟩ : PQ zr108 zo108 _ y255 := d108 c_y254 _ _
                    clear_value y255
                    refine pq_chk a_y255 ?_
                    refine pq_ite (fun _ => ?_) (fun _ => ?_)
                    ·
                      extract_lets +onlyGivenNames -underBinder y256
                      extract_lets +onlyGivenNames -underBinder y257
                      extract_lets +onlyGivenNames -underBinder y258
                      obtain ⟨a_y258, c_y258, -⟩ : PQ zr105 zo105 _ y258 := d105 c_y255 _ _
                      clear_value y258
                      refine pq_chk a_y258 ?_
                      extract_lets +onlyGivenNames -underBinder y259
                      refine pq_ite (fun _ => ?_) (fun _ => ?_)
                      ·
                        extract_lets +onlyGivenNames -underBinder y260
                        extract_lets +onlyGivenNames -underBinder y261
                        extract_lets +onlyGivenNames -underBinder y262
                        obtain ⟨a_y262, c_y262, -⟩ : PQ zr122 zo122 _ y262 := d122 c_y258 _ _ rfl
                        clear_value y262
                        refine pq_chk a_y262 ?_
                        extract_lets +onlyGivenNames -underBinder y263
                        extract_lets +onlyGivenNames -underBinder y264
                        exact ⟨rfl, c_y262, trivial⟩
                      ·
                        refine pq_ite (fun _ => ?_) (fun _ => ?_)
                        ·
                          extract_lets +onlyGivenNames -underBinder y265
                          extract_lets +onlyGivenNames -underBinder y266
                          extract_lets +onlyGivenNames -underBinder y267
                          obtain ⟨a_y267, c_y267, -⟩ : PQ zr122 zo122 _ y267 := d122 c_y258 _ _ rfl
                          clear_value y267
                          refine pq_chk a_y267 ?_
                          extract_lets +onlyGivenNames -underBinder y268
                          extract_lets +onlyGivenNames -underBinder y269
                          exact ⟨rfl, c_y267, trivial⟩
                        ·
                          refine pq_ite (fun _ => ?_) (fun _ => ?_)
                          ·
                            extract_lets +onlyGivenNames -underBinder y270
                            extract_lets +onlyGivenNames -underBinder y271
                            extract_lets +onlyGivenNames -underBinder y272
                            obtain ⟨a_y272, c_y272, -⟩ : PQ zr122 zo122 _ y272 := d122 c_y258 _ _ rfl
                            clear_value y272
                            refine pq_chk a_y272 ?_
                            extract_lets +onlyGivenNames -underBinder y273
                            extract_lets +onlyGivenNames -underBinder y274
                            exact ⟨rfl, c_y272, trivial⟩
                          ·
                            refine pq_ite (fun _ => ?_) (fun _ => ?_)
                            ·
                              refine pq_chk (decide_eq_true (by have q1 := (show (⟨#[]⟩ : ByteArray).size ≤ 0 from Nat.le_of_eq rfl); have q2 := (show (⟨#[121]⟩ : ByteArray).size ≤ 1 from Nat.le_of_eq rfl); unfold lim; omega)) ?_
                              extract_lets +onlyGivenNames -underBinder y275
                              extract_lets +onlyGivenNames -underBinder y276
                              extract_lets +onlyGivenNames -underBinder y277
                              extract_lets +onlyGivenNames -underBinder y278
                              exact ⟨rfl, c_y258, trivial⟩
                            ·
                              extract_lets +onlyGivenNames -underBinder k11
                              have h_k11 : ∀ (n37 : Int) (n38 : Int) (s39 : ByteArray) (s40 : ByteArray) (C_k11_n37 : Cu l1 n37), PQ zr126 zo126 (fun o => Cu l1 (asI (outC o 0 1)) ∧ True) (k11 n37 n38 s39 s40) := by
                                intro n37 n38 s39 s40 C_k11_n37
                                dsimp -zeta only [k11]
                                exact ⟨rfl, C_k11_n37, trivial⟩
                              refine pq_ite (fun _ => ?_) (fun _ => ?_)
                              ·
                                extract_lets +onlyGivenNames -underBinder y279
                                extract_lets +onlyGivenNames -underBinder y280
                                extract_lets +onlyGivenNames -underBinder y281
                                obtain ⟨a_y281, c_y281, p_y281_0_0, -⟩ : PQ zr129 zo129 _ y281 := d129 c_y258 _ _ rfl
                                clear_value y281
                                refine pq_chk a_y281 ?_
                                extract_lets +onlyGivenNames -underBinder y282
                                exact h_k11 (asI (outC y281 0 1)) (asI (outC y281 0 2)) y282 (asS (resC y281 0 0)) c_y281
                              ·
                                extract_lets +onlyGivenNames -underBinder y283
                                extract_lets +onlyGivenNames -underBinder y284
                                extract_lets +onlyGivenNames -underBinder y285
                                obtain ⟨a_y285, c_y285, p_y285_0_0, -⟩ : PQ zr130 zo130 _ y285 := d130 c_y258 _
                                clear_value y285
                                refine pq_chk a_y285 ?_
                                extract_lets +onlyGivenNames -underBinder y286
                                exact h_k11 (asI (outC y285 0 1)) (asI (outC y285 0 2)) (asS (resC y285 0 0)) y286 c_y285
                    ·
                      extract_lets +onlyGivenNames -underBinder y287
                      extract_lets +onlyGivenNames -underBinder y288
                      extract_lets +onlyGivenNames -underBinder y289
                      extract_lets +onlyGivenNames -underBinder y290
                      exact ⟨rfl, c_y255, trivial⟩
                  ·
                    refine pq_ite (fun _ => ?_) (fun _ => ?_)
                    ·
                      extract_lets +onlyGivenNames -underBinder y291
                      extract_lets +onlyGivenNames -underBinder y292
                      extract_lets +onlyGivenNames -underBinder y293
                      obtain ⟨a_y293, c_y293, -⟩ : PQ zr105 zo105 _ y293 := d105 c_y2 _ _
                      clear_value y293
                      refine pq_chk a_y293 ?_
                      extract_lets +onlyGivenNames -underBinder y294
                      obtain ⟨a_y294, c_y294, -⟩ : PQ zr108 zo108 _ y294 := d108 c_y293 _ _
                      clear_value y294
                      refine pq_chk a_y294 ?_
                      refine pq_ite (fun _ => ?_) (fun _ => ?_)
                      ·
                        extract_lets +onlyGivenNames -underBinder y295
                        extract_lets +onlyGivenNames -underBinder y296
                        extract_lets +onlyGivenNames -underBinder y297
                        obtain ⟨a_y297, c_y297, -⟩ : PQ zr105 zo105 _ y297 := d105 c_y294 _ _
                        clear_value y297
                        refine pq_chk a_y297 ?_
                        extract_lets +onlyGivenNames -underBinder y298
                        refine pq_ite (fun _ => ?_) (fun _ => ?_)
                        ·
                          extract_lets +onlyGivenNames -underBinder y299
                          extract_lets +onlyGivenNames -underBinder y300
                          extract_lets +onlyGivenNames -underBinder y301
                          obtain ⟨a_y301, c_y301, -⟩ : PQ zr122 zo122 _ y301 := d122 c_y297 _ _ rfl
                          clear_value y301
                          refine pq_chk a_y301 ?_
                          extract_lets +onlyGivenNames -underBinder y302
                          extract_lets +onlyGivenNames -underBinder y303
                          exact ⟨rfl, c_y301, trivial⟩
                        ·
                          refine pq_ite (fun _ => ?_) (fun _ => ?_)
                          ·
                            extract_lets +onlyGivenNames -underBinder y304
                            extract_lets +onlyGivenNames -underBinder y305
                            extract_lets +onlyGivenNames -underBinder y306
                            obtain ⟨a_y306, c_y306, -⟩ : PQ zr122 zo122 _ y306 := d122 c_y297 _ _ rfl
                            clear_value y306
                            refine pq_chk a_y306 ?_
                            extract_lets +onlyGivenNames -underBinder y307
                            exact ⟨rfl, c_y306, trivial⟩
                          ·
                            refine pq_ite (fun _ => ?_) (fun _ => ?_)
                            ·
                              extract_lets +onlyGivenNames -underBinder y308
                              extract_lets +onlyGivenNames -underBinder y309
                              extract_lets +onlyGivenNames -underBinder y310
                              obtain ⟨a_y310, c_y310, -⟩ : PQ zr122 zo122 _ y310 := d122 c_y297 _ _ rfl
                              clear_value y310
                              refine pq_chk a_y310 ?_
                              extract_lets +onlyGivenNames -underBinder y311
                              extract_lets +onlyGivenNames -underBinder y312
                              exact ⟨rfl, c_y310, trivial⟩
                            ·
                              refine pq_ite (fun _ => ?_) (fun _ => ?_)
                              ·
                                refine pq_chk (decide_eq_true (by have q1 := (show (⟨#[]⟩ : ByteArray).size ≤ 0 from Nat.le_of_eq rfl); have q2 := (show (⟨#[121]⟩ : ByteArray).size ≤ 1 from Nat.le_of_eq rfl); unfold lim; omega)) ?_
                                extract_lets +onlyGivenNames -underBinder y313
                                extract_lets +onlyGivenNames -underBinder y314
                                extract_lets +onlyGivenNames -underBinder y315
                                extract_lets +onlyGivenNames -underBinder y316
                                exact ⟨rfl, c_y297, trivial⟩
                              ·
                                extract_lets +onlyGivenNames -underBinder k12
                                have h_k12 : ∀ (n41 : Int) (n42 : Int) (s43 : ByteArray) (s44 : ByteArray) (C_k12_n41 : Cu l1 n41), PQ zr126 zo126 (fun o => Cu l1 (asI (outC o 0 1)) ∧ True) (k12 n41 n42 s43 s44) := by
                                  intro n41 n42 s43 s44 C_k12_n41
                                  dsimp -zeta only [k12]
                                  extract_lets +onlyGivenNames -underBinder y317
                                  exact ⟨rfl, C_k12_n41, trivial⟩
                                refine pq_ite (fun _ => ?_) (fun _ => ?_)
                                ·
                                  extract_lets +onlyGivenNames -underBinder y318
                                  extract_lets +onlyGivenNames -underBinder y319
                                  extract_lets +onlyGivenNames -underBinder y320
                                  obtain ⟨a_y320, c_y320, p_y320_0_0, -⟩ : PQ zr129 zo129 _ y320 := d129 c_y297 _ _ rfl
                                  clear_value y320
                                  refine pq_chk a_y320 ?_
                                  extract_lets +onlyGivenNames -underBinder y321
                                  exact h_k12 (asI (outC y320 0 1)) (asI (outC y320 0 2)) y321 (asS (resC y320 0 0)) c_y320
                                ·
                                  extract_lets +onlyGivenNames -underBinder y322
                                  extract_lets +onlyGivenNames -underBinder y323
                                  extract_lets +onlyGivenNames -underBinder y324
                                  obtain ⟨a_y324, c_y324, p_y324_0_0, -⟩ : PQ zr130 zo130 _ y324 := d130 c_y297 _
                                  clear_value y324
                                  refine pq_chk a_y324 ?_
                                  exact h_k12 (asI (outC y324 0 1)) (asI (outC y324 0 2)) (asS (resC y324 0 0)) (⟨#[]⟩ : ByteArray) c_y324
                      ·
                        extract_lets +onlyGivenNames -underBinder y325
                        extract_lets +onlyGivenNames -underBinder y326
                        extract_lets +onlyGivenNames -underBinder y327
                        extract_lets +onlyGivenNames -underBinder y328
                        exact ⟨rfl, c_y294, trivial⟩
                    ·
                      refine pq_ite (fun _ => ?_) (fun _ => ?_)
                      ·
                        extract_lets +onlyGivenNames -underBinder y329
                        extract_lets +onlyGivenNames -underBinder y330
                        extract_lets +onlyGivenNames -underBinder y331
                        obtain ⟨a_y331, c_y331, -⟩ : PQ zr122 zo122 _ y331 := d122 c_y2 _ _ rfl
                        clear_value y331
                        refine pq_chk a_y331 ?_
                        extract_lets +onlyGivenNames -underBinder y332
                        obtain ⟨a_y332, c_y332, -⟩ : PQ zr122 zo122 _ y332 := d122 c_y331 _ _ rfl
                        clear_value y332
                        refine pq_chk a_y332 ?_
                        extract_lets +onlyGivenNames -underBinder y333
                        obtain ⟨a_y333, c_y333, -⟩ : PQ zr108 zo108 _ y333 := d108 c_y332 _ _
                        clear_value y333
                        refine pq_chk a_y333 ?_
                        refine pq_ite (fun _ => ?_) (fun _ => ?_)
                        ·
                          extract_lets +onlyGivenNames -underBinder y334
                          extract_lets +onlyGivenNames -underBinder y335
                          extract_lets +onlyGivenNames -underBinder y336
                          obtain ⟨a_y336, c_y336, -⟩ : PQ zr105 zo105 _ y336 := d105 c_y333 _ _
                          clear_value y336
                          refine pq_chk a_y336 ?_
                          extract_lets +onlyGivenNames -underBinder y337
                          refine pq_ite (fun _ => ?_) (fun _ => ?_)
                          ·
                            extract_lets +onlyGivenNames -underBinder y338
                            extract_lets +onlyGivenNames -underBinder y339
                            extract_lets +onlyGivenNames -underBinder y340
                            obtain ⟨a_y340, c_y340, -⟩ : PQ zr122 zo122 _ y340 := d122 c_y336 _ _ rfl
                            clear_value y340
                            refine pq_chk a_y340 ?_
                            extract_lets +onlyGivenNames -underBinder y341
                            extract_lets +onlyGivenNames -underBinder y342
                            extract_lets +onlyGivenNames -underBinder y343
                            exact ⟨rfl, c_y340, trivial⟩
                          ·
                            refine pq_ite (fun _ => ?_) (fun _ => ?_)
                            ·
                              extract_lets +onlyGivenNames -underBinder y344
                              extract_lets +onlyGivenNames -underBinder y345
                              extract_lets +onlyGivenNames -underBinder y346
                              obtain ⟨a_y346, c_y346, -⟩ : PQ zr122 zo122 _ y346 := d122 c_y336 _ _ rfl
                              clear_value y346
                              refine pq_chk a_y346 ?_
                              extract_lets +onlyGivenNames -underBinder y347
                              extract_lets +onlyGivenNames -underBinder y348
                              exact ⟨rfl, c_y346, trivial⟩
                            ·
                              refine pq_ite (fun _ => ?_) (fun _ => ?_)
                              ·
                                extract_lets +onlyGivenNames -underBinder y349
                                extract_lets +onlyGivenNames -underBinder y350
                                extract_lets +onlyGivenNames -underBinder y351
                                obtain ⟨a_y351, c_y351, -⟩ : PQ zr122 zo122 _ y351 := d122 c_y336 _ _ rfl
                                clear_value y351
                                refine pq_chk a_y351 ?_
                                extract_lets +onlyGivenNames -underBinder y352
                                extract_lets +onlyGivenNames -underBinder y353
                                exact ⟨rfl, c_y351, trivial⟩
                              ·
                                refine pq_ite (fun _ => ?_) (fun _ => ?_)
                                ·
                                  refine pq_chk (decide_eq_true (by have q1 := (show (⟨#[]⟩ : ByteArray).size ≤ 0 from Nat.le_of_eq rfl); have q2 := (show (⟨#[121]⟩ : ByteArray).size ≤ 1 from Nat.le_of_eq rfl); unfold lim; omega)) ?_
                                  extract_lets +onlyGivenNames -underBinder y354
                                  extract_lets +onlyGivenNames -underBinder y355
                                  extract_lets +onlyGivenNames -underBinder y356
                                  extract_lets +onlyGivenNames -underBinder y357
                                  extract_lets +onlyGivenNames -underBinder y358
                                  exact ⟨rfl, c_y336, trivial⟩
                                ·
                                  extract_lets +onlyGivenNames -underBinder k13
                                  have h_k13 : ∀ (n45 : Int) (n46 : Int) (s47 : ByteArray) (s48 : ByteArray) (C_k13_n45 : Cu l1 n45), PQ zr126 zo126 (fun o => Cu l1 (asI (outC o 0 1)) ∧ True) (k13 n45 n46 s47 s48) := by
                                    intro n45 n46 s47 s48 C_k13_n45
                                    dsimp -zeta only [k13]
                                    extract_lets +onlyGivenNames -underBinder y359
                                    extract_lets +onlyGivenNames -underBinder y360
                                    exact ⟨rfl, C_k13_n45, trivial⟩
                                  refine pq_ite (fun _ => ?_) (fun _ => ?_)
                                  ·
                                    extract_lets +onlyGivenNames -underBinder y361
                                    extract_lets +onlyGivenNames -underBinder y362
                                    extract_lets +onlyGivenNames -underBinder y363
                                    obtain ⟨a_y363, c_y363, p_y363_0_0, -⟩ : PQ zr129 zo129 _ y363 := d129 c_y336 _ _ rfl
                                    clear_value y363
                                    refine pq_chk a_y363 ?_
                                    extract_lets +onlyGivenNames -underBinder y364
                                    exact h_k13 (asI (outC y363 0 1)) (asI (outC y363 0 2)) y364 (asS (resC y363 0 0)) c_y363
                                  ·
                                    extract_lets +onlyGivenNames -underBinder y365
                                    extract_lets +onlyGivenNames -underBinder y366
                                    extract_lets +onlyGivenNames -underBinder y367
                                    obtain ⟨a_y367, c_y367, p_y367_0_0, -⟩ : PQ zr130 zo130 _ y367 := d130 c_y336 _
                                    clear_value y367
                                    refine pq_chk a_y367 ?_
                                    exact h_k13 (asI (outC y367 0 1)) (asI (outC y367 0 2)) (asS (resC y367 0 0)) (⟨#[]⟩ : ByteArray) c_y367
                        ·
                          extract_lets +onlyGivenNames -underBinder y368
                          extract_lets +onlyGivenNames -underBinder y369
                          extract_lets +onlyGivenNames -underBinder y370
                          extract_lets +onlyGivenNames -underBinder y371
                          extract_lets +onlyGivenNames -underBinder y372
                          exact ⟨rfl, c_y333, trivial⟩
                      ·
                        refine pq_ite (fun _ => ?_) (fun _ => ?_)
                        ·
                          extract_lets +onlyGivenNames -underBinder y373
                          extract_lets +onlyGivenNames -underBinder y374
                          extract_lets +onlyGivenNames -underBinder y375
                          obtain ⟨a_y375, c_y375, -⟩ : PQ zr105 zo105 _ y375 := d105 c_y2 _ _
                          clear_value y375
                          refine pq_chk a_y375 ?_
                          extract_lets +onlyGivenNames -underBinder y376
                          obtain ⟨a_y376, c_y376, -⟩ : PQ zr108 zo108 _ y376 := d108 c_y375 _ _
                          clear_value y376
                          refine pq_chk a_y376 ?_
                          refine pq_ite (fun _ => ?_) (fun _ => ?_)
                          ·
                            extract_lets +onlyGivenNames -underBinder y377
                            extract_lets +onlyGivenNames -underBinder y378
                            extract_lets +onlyGivenNames -underBinder y379
                            obtain ⟨a_y379, c_y379, -⟩ : PQ zr105 zo105 _ y379 := d105 c_y376 _ _
                            clear_value y379
                            refine pq_chk a_y379 ?_
                            extract_lets +onlyGivenNames -underBinder y380
                            refine pq_ite (fun _ => ?_) (fun _ => ?_)
                            ·
                              extract_lets +onlyGivenNames -underBinder y381
                              extract_lets +onlyGivenNames -underBinder y382
                              extract_lets +onlyGivenNames -underBinder y383
                              obtain ⟨a_y383, c_y383, -⟩ : PQ zr122 zo122 _ y383 := d122 c_y379 _ _ rfl
                              clear_value y383
                              refine pq_chk a_y383 ?_
                              extract_lets +onlyGivenNames -underBinder y384
                              extract_lets +onlyGivenNames -underBinder y385
                              exact ⟨rfl, c_y383, trivial⟩
                            ·
                              refine pq_ite (fun _ => ?_) (fun _ => ?_)
                              ·
                                extract_lets +onlyGivenNames -underBinder y386
                                extract_lets +onlyGivenNames -underBinder y387
                                extract_lets +onlyGivenNames -underBinder y388
                                obtain ⟨a_y388, c_y388, -⟩ : PQ zr122 zo122 _ y388 := d122 c_y379 _ _ rfl
                                clear_value y388
                                refine pq_chk a_y388 ?_
                                extract_lets +onlyGivenNames -underBinder y389
                                exact ⟨rfl, c_y388, trivial⟩
                              ·
                                refine pq_ite (fun _ => ?_) (fun _ => ?_)
                                ·
                                  extract_lets +onlyGivenNames -underBinder y390
                                  extract_lets +onlyGivenNames -underBinder y391
                                  extract_lets +onlyGivenNames -underBinder y392
                                  obtain ⟨a_y392, c_y392, -⟩ : PQ zr122 zo122 _ y392 := d122 c_y379 _ _ rfl
                                  clear_value y392
                                  refine pq_chk a_y392 ?_
                                  extract_lets +onlyGivenNames -underBinder y393
                                  extract_lets +onlyGivenNames -underBinder y394
                                  exact ⟨rfl, c_y392, trivial⟩
                                ·
                                  refine pq_ite (fun _ => ?_) (fun _ => ?_)
                                  ·
                                    refine pq_chk (decide_eq_true (by have q1 := (show (⟨#[]⟩ : ByteArray).size ≤ 0 from Nat.le_of_eq rfl); have q2 := (show (⟨#[121]⟩ : ByteArray).size ≤ 1 from Nat.le_of_eq rfl); unfold lim; omega)) ?_
                                    extract_lets +onlyGivenNames -underBinder y395
                                    extract_lets +onlyGivenNames -underBinder y396
                                    extract_lets +onlyGivenNames -underBinder y397
                                    extract_lets +onlyGivenNames -underBinder y398
                                    exact ⟨rfl, c_y379, trivial⟩
                                  ·
                                    extract_lets +onlyGivenNames -underBinder k14
                                    have h_k14 : ∀ (n49 : Int) (n50 : Int) (s51 : ByteArray) (s52 : ByteArray) (C_k14_n49 : Cu l1 n49), PQ zr126 zo126 (fun o => Cu l1 (asI (outC o 0 1)) ∧ True) (k14 n49 n50 s51 s52) := by
                                      intro n49 n50 s51 s52 C_k14_n49
                                      dsimp -zeta only [k14]
                                      extract_lets +onlyGivenNames -underBinder y399
                                      exact ⟨rfl, C_k14_n49, trivial⟩
                                    refine pq_ite (fun _ => ?_) (fun _ => ?_)
                                    ·
                                      extract_lets +onlyGivenNames -underBinder y400
                                      extract_lets +onlyGivenNames -underBinder y401
                                      extract_lets +onlyGivenNames -underBinder y402
                                      obtain ⟨a_y402, c_y402, p_y402_0_0, -⟩ : PQ zr129 zo129 _ y402 := d129 c_y379 _ _ rfl
                                      clear_value y402
                                      refine pq_chk a_y402 ?_
                                      extract_lets +onlyGivenNames -underBinder y403
                                      exact h_k14 (asI (outC y402 0 1)) (asI (outC y402 0 2)) y403 (asS (resC y402 0 0)) c_y402
                                    ·
                                      extract_lets +onlyGivenNames -underBinder y404
                                      extract_lets +onlyGivenNames -underBinder y405
                                      extract_lets +onlyGivenNames -underBinder y406
                                      obtain ⟨a_y406, c_y406, p_y406_0_0, -⟩ : PQ zr130 zo130 _ y406 := d130 c_y379 _
                                      clear_value y406
                                      refine pq_chk a_y406 ?_
                                      exact h_k14 (asI (outC y406 0 1)) (asI (outC y406 0 2)) (asS (resC y406 0 0)) (⟨#[]⟩ : ByteArray) c_y406
                          ·
                            extract_lets +onlyGivenNames -underBinder y407
                            extract_lets +onlyGivenNames -underBinder y408
                            extract_lets +onlyGivenNames -underBinder y409
                            extract_lets +onlyGivenNames -underBinder y410
                            exact ⟨rfl, c_y376, trivial⟩
                        ·
                          extract_lets +onlyGivenNames -underBinder k4
                          have h_k4 : ∀ (n9 : Int) (n10 : Int) (n11 : Int) (n12 : Int) (C_k4_n9 : Cu l1 n9), PQ zr126 zo126 (fun o => Cu l1 (asI (outC o 0 1)) ∧ True) (k4 n9 n10 n11 n12) := by
                            intro n9 n10 n11 n12 C_k4_n9
                            dsimp -zeta only [k4]
                            extract_lets +onlyGivenNames -underBinder y411
                            obtain ⟨a_y411, c_y411, -⟩ : PQ zr108 zo108 _ y411 := d108 C_k4_n9 _ _
                            clear_value y411
                            refine pq_chk a_y411 ?_
                            refine pq_ite (fun _ => ?_) (fun _ => ?_)
                            ·
                              extract_lets +onlyGivenNames -underBinder y412
                              extract_lets +onlyGivenNames -underBinder y413
                              extract_lets +onlyGivenNames -underBinder y414
                              obtain ⟨a_y414, c_y414, -⟩ : PQ zr105 zo105 _ y414 := d105 c_y411 _ _
                              clear_value y414
                              refine pq_chk a_y414 ?_
                              extract_lets +onlyGivenNames -underBinder y415
                              refine pq_ite (fun _ => ?_) (fun _ => ?_)
                              ·
                                extract_lets +onlyGivenNames -underBinder y416
                                extract_lets +onlyGivenNames -underBinder y417
                                extract_lets +onlyGivenNames -underBinder y418
                                obtain ⟨a_y418, c_y418, -⟩ : PQ zr122 zo122 _ y418 := d122 c_y414 _ _ rfl
                                clear_value y418
                                refine pq_chk a_y418 ?_
                                extract_lets +onlyGivenNames -underBinder y419
                                exact ⟨rfl, c_y418, trivial⟩
                              ·
                                refine pq_ite (fun _ => ?_) (fun _ => ?_)
                                ·
                                  extract_lets +onlyGivenNames -underBinder y420
                                  extract_lets +onlyGivenNames -underBinder y421
                                  extract_lets +onlyGivenNames -underBinder y422
                                  obtain ⟨a_y422, c_y422, -⟩ : PQ zr122 zo122 _ y422 := d122 c_y414 _ _ rfl
                                  clear_value y422
                                  refine pq_chk a_y422 ?_
                                  extract_lets +onlyGivenNames -underBinder y423
                                  exact ⟨rfl, c_y422, trivial⟩
                                ·
                                  refine pq_ite (fun _ => ?_) (fun _ => ?_)
                                  ·
                                    extract_lets +onlyGivenNames -underBinder y424
                                    extract_lets +onlyGivenNames -underBinder y425
                                    extract_lets +onlyGivenNames -underBinder y426
                                    obtain ⟨a_y426, c_y426, -⟩ : PQ zr122 zo122 _ y426 := d122 c_y414 _ _ rfl
                                    clear_value y426
                                    refine pq_chk a_y426 ?_
                                    extract_lets +onlyGivenNames -underBinder y427
                                    exact ⟨rfl, c_y426, trivial⟩
                                  ·
                                    refine pq_ite (fun _ => ?_) (fun _ => ?_)
                                    ·
                                      refine pq_chk (decide_eq_true (by have q1 := (show (⟨#[]⟩ : ByteArray).size ≤ 0 from Nat.le_of_eq rfl); have q2 := (show (⟨#[121]⟩ : ByteArray).size ≤ 1 from Nat.le_of_eq rfl); unfold lim; omega)) ?_
                                      extract_lets +onlyGivenNames -underBinder y428
                                      extract_lets +onlyGivenNames -underBinder y429
                                      extract_lets +onlyGivenNames -underBinder y430
                                      exact ⟨rfl, c_y414, trivial⟩
                                    ·
                                      extract_lets +onlyGivenNames -underBinder k15
                                      have h_k15 : ∀ (n53 : Int) (n54 : Int) (s55 : ByteArray) (s56 : ByteArray) (C_k15_n53 : Cu l1 n53), PQ zr126 zo126 (fun o => Cu l1 (asI (outC o 0 1)) ∧ True) (k15 n53 n54 s55 s56) := by
                                        intro n53 n54 s55 s56 C_k15_n53
                                        dsimp -zeta only [k15]
                                        exact ⟨rfl, C_k15_n53, trivial⟩
                                      refine pq_ite (fun _ => ?_) (fun _ => ?_)
                                      ·
                                        extract_lets +onlyGivenNames -underBinder y431
                                        extract_lets +onlyGivenNames -underBinder y432
                                        extract_lets +onlyGivenNames -underBinder y433
                                        obtain ⟨a_y433, c_y433, p_y433_0_0, -⟩ : PQ zr129 zo129 _ y433 := d129 c_y414 _ _ rfl
                                        clear_value y433
                                        refine pq_chk a_y433 ?_
                                        extract_lets +onlyGivenNames -underBinder y434
                                        exact h_k15 (asI (outC y433 0 1)) (asI (outC y433 0 2)) y434 (asS (resC y433 0 0)) c_y433
                                      ·
                                        extract_lets +onlyGivenNames -underBinder y435
                                        extract_lets +onlyGivenNames -underBinder y436
                                        extract_lets +onlyGivenNames -underBinder y437
                                        obtain ⟨a_y437, c_y437, p_y437_0_0, -⟩ : PQ zr130 zo130 _ y437 := d130 c_y414 _
                                        clear_value y437
                                        refine pq_chk a_y437 ?_
                                        exact h_k15 (asI (outC y437 0 1)) (asI (outC y437 0 2)) (asS (resC y437 0 0)) (⟨#[]⟩ : ByteArray) c_y437
                            ·
                              extract_lets +onlyGivenNames -underBinder y438
                              extract_lets +onlyGivenNames -underBinder y439
                              extract_lets +onlyGivenNames -underBinder y440
                              exact ⟨rfl, c_y411, trivial⟩
                          refine pq_ite (fun _ => ?_) (fun _ => ?_)
                          ·
                            extract_lets +onlyGivenNames -underBinder y441
                            extract_lets +onlyGivenNames -underBinder y442
                            extract_lets +onlyGivenNames -underBinder y443
                            obtain ⟨a_y443, c_y443, -⟩ : PQ zr122 zo122 _ y443 := d122 c_y2 _ _ rfl
                            clear_value y443
                            refine pq_chk a_y443 ?_
                            extract_lets +onlyGivenNames -underBinder y444
                            obtain ⟨a_y444, c_y444, -⟩ : PQ zr122 zo122 _ y444 := d122 c_y443 _ _ rfl
                            clear_value y444
                            refine pq_chk a_y444 ?_
                            exact h_k4 (asI (outC y444 0 1)) (asI (outC y444 0 2)) (asI (resC y443 0 0)) (asI (resC y444 0 0)) c_y444
                          ·
                            extract_lets +onlyGivenNames -underBinder y445
                            extract_lets +onlyGivenNames -underBinder y446
                            exact h_k4 y445 y446 (0 : Int) (0 : Int) c_y2
              extract_lets +onlyGivenNames -underBinder y447
              refine pq_ite (fun _ => ?_) (fun _ => ?_)
              ·
                exact h_k3 y447
              ·
                exact h_k3 (y46 == (12 : Int))
  extract_lets +onlyGivenNames -underBinder y448
  extract_lets +onlyGivenNames -underBinder y449
  refine pq_ite (fun _ => ?_) (fun _ => ?_)
  ·
    exact h_k2 y449
  ·
    extract_lets +onlyGivenNames -underBinder k1
    have h_k1 : ∀ (b6 : Bool), PQ zr126 zo126 (fun o => Cu l1 (asI (outC o 0 1)) ∧ True) (k1 b6) := by
      intro b6
      dsimp -zeta only [k1]
      exact h_k2 b6
    extract_lets +onlyGivenNames -underBinder y450
    refine pq_ite (fun _ => ?_) (fun _ => ?_)
    ·
      exact h_k1 y450
    ·
      exact h_k1 (y448 == (15 : Int))

theorem d103 {l1 : List (List D)} {n2 : Int} (C : Cu l1 n2) (n3 : Int) : PQ zr103 zo103 (fun o => Cu l1 (asI (outC o 0 1)) ∧ True) (t103 l1 n2 n3) := by
  unfold t103 ta103
  extract_lets +onlyGivenNames -underBinder y1
  obtain ⟨a_y1, c_y1, -⟩ : PQ zr108 zo108 _ y1 := d108 C _ _
  clear_value y1
  refine pq_chk a_y1 ?_
  refine pq_ite (fun _ => ?_) (fun _ => ?_)
  ·
    extract_lets +onlyGivenNames -underBinder y2
    extract_lets +onlyGivenNames -underBinder y3
    extract_lets +onlyGivenNames -underBinder y4
    obtain ⟨a_y4, c_y4, -⟩ : PQ zr122 zo122 _ y4 := d122 c_y1 _ _ rfl
    clear_value y4
    refine pq_chk a_y4 ?_
    exact ⟨rfl, c_y4, trivial⟩
  ·
    extract_lets +onlyGivenNames -underBinder y5
    extract_lets +onlyGivenNames -underBinder y6
    extract_lets +onlyGivenNames -underBinder y7
    obtain ⟨a_y7, c_y7, -⟩ : PQ zr105 zo105 _ y7 := d105 c_y1 _ _
    clear_value y7
    refine pq_chk a_y7 ?_
    exact ⟨rfl, c_y7, trivial⟩
end Go.Den.L14

/- Draws of clients: what is called on the way. -/
namespace Go.Den.L14
open Go
theorem d123 {l : List (List D)} {i : Int} (C : Cu l i) (h : Int) : PQ zr123 zo123 (fun o => Cu l (asI (outC o 0 1)) ∧ True) (t123 l i h) := by
  unfold t123 ta123
  obtain ⟨a0, V, -⟩ := n127
  refine pq_chk a0 ?_
  generalize t127 = z0 at *
  extract_lets +onlyGivenNames -underBinder y1
  obtain ⟨a1, c1, -⟩ : PQ zr126 zo126 _ y1 := d126 C _ _ _ V
  clear_value y1
  exact pq_chk a1 ⟨rfl, c1, trivial⟩
theorem n24 (a b c : Int) (w : Bool) (k : Int) (p t : ByteArray) (n m : Int) (d : ByteArray) (e : Int) (k' : Int) (p' t' : ByteArray) (n' m' : Int) (d' : ByteArray) (e' : Int) : PQ zr24 zo24 (fun _ => True) (t24 a b c w k p t n m d e k' p' t' n' m' d' e') := by
  refine ⟨?_, trivial⟩
  rw [clientCall_spec]
  unfold callRes
  (repeat' split) <;> rfl
theorem n89 (n : Int) : PQ zr89 zo89 (fun o => (asS (resC o 0 0)).size ≤ 100 ∧ True) (t89 n) := by
  rw [var_spec]
  exact ⟨rfl, Nat.le_trans (varS_size n) (by omega), trivial⟩
theorem n106 (n : Int) (s : ByteArray) (hs : s.size ≤ 2000) : PQ zr106 zo106 (fun o => (asS (resC o 0 0)).size ≤ 3000 ∧ True) (t106 n s) := by
  unfold t106 ta106
  refine pq_chk (by rw [resOk_spec]; rfl) (pq_ite (fun _ => ?_) (fun _ => ?_))
  · exact ⟨rfl, by show (0 : Nat) ≤ _; omega, trivial⟩
  · obtain ⟨a, p, -⟩ := n89 n
    generalize t89 n = z at *
    refine pq_chk a ?_
    extract_lets +onlyGivenNames -underBinder y1
    have q : y1.size ≤ 100 := p
    exact pq_chk (decide_eq_true (by unfold lim; omega)) ⟨rfl, by show (y1 ++ s).size ≤ 3000; rw [ByteArray.size_append]; omega, trivial⟩
end Go.Den.L14

namespace Go.Den.L14
open Go
theorem d104 {l1 : List (List D)} {n2 : Int} (C : Cu l1 n2) (n3 : Int) : PQ zr104 zo104 (fun o => Cu l1 (asI (outC o 0 1)) ∧ True) (t104 l1 n2 n3) := by
  unfold t104 ta104
  extract_lets +onlyGivenNames -underBinder y1
  obtain ⟨a_y1, c_y1, -⟩ : PQ zr105 zo105 _ y1 := d105 C _ _
  clear_value y1
  refine pq_chk a_y1 ?_
  extract_lets +onlyGivenNames -underBinder y2
  obtain ⟨a_y2, c_y2, -⟩ : PQ zr105 zo105 _ y2 := d105 c_y1 _ _
  clear_value y2
  refine pq_chk a_y2 ?_
  extract_lets +onlyGivenNames -underBinder y3
  obtain ⟨a_y3, c_y3, -⟩ : PQ zr105 zo105 _ y3 := d105 c_y2 _ _
  clear_value y3
  refine pq_chk a_y3 ?_
  extract_lets +onlyGivenNames -underBinder y4
  obtain ⟨a_y4, c_y4, -⟩ : PQ zr108 zo108 _ y4 := d108 c_y3 _ _
  clear_value y4
  refine pq_chk a_y4 ?_
  refine pq_ite (fun _ => ?_) (fun _ => ?_)
  ·
    extract_lets +onlyGivenNames -underBinder y5
    extract_lets +onlyGivenNames -underBinder y6
    extract_lets +onlyGivenNames -underBinder y7
    obtain ⟨a_y7, c_y7, -⟩ : PQ zr123 zo123 _ y7 := d123 c_y4 _
    clear_value y7
    refine pq_chk a_y7 ?_
    extract_lets +onlyGivenNames -underBinder y8
    obtain ⟨a_y8, c_y8, -⟩ : PQ zr105 zo105 _ y8 := d105 c_y7 _ _
    clear_value y8
    refine pq_chk a_y8 ?_
    extract_lets +onlyGivenNames -underBinder y9
    extract_lets +onlyGivenNames -underBinder y10
    extract_lets +onlyGivenNames -underBinder y11
    extract_lets +onlyGivenNames -underBinder y12
    obtain ⟨a_y12, -⟩ : PQ zr24 zo24 _ y12 := n24 _ _ _ _ _ _ _ _ _ _ _ _ _ _ _ _ _ _
    clear_value y12
    refine pq_chk a_y12 ?_
    extract_lets +onlyGivenNames -underBinder k1
    have h_k1 : ∀ (n4 : Int) (n5 : Int) (n6 : Int) (b7 : Bool) (n8 : Int) (s9 : ByteArray) (s10 : ByteArray) (n11 : Int) (n12 : Int) (s13 : ByteArray) (n14 : Int), PQ zr104 zo104 (fun o => Cu l1 (asI (outC o 0 1)) ∧ True) (k1 n4 n5 n6 b7 n8 s9 s10 n11 n12 s13 n14) := by
      intro n4 n5 n6 b7 n8 s9 s10 n11 n12 s13 n14
      dsimp -zeta only [k1]
      extract_lets +onlyGivenNames -underBinder y13
      obtain ⟨a_y13, c_y13, -⟩ : PQ zr108 zo108 _ y13 := d108 c_y8 _ _
      clear_value y13
      refine pq_chk a_y13 ?_
      refine pq_ite (fun _ => ?_) (fun _ => ?_)
      ·
        extract_lets +onlyGivenNames -underBinder y14
        extract_lets +onlyGivenNames -underBinder y15
        extract_lets +onlyGivenNames -underBinder y16
        obtain ⟨a_y16, c_y16, -⟩ : PQ zr105 zo105 _ y16 := d105 c_y13 _ _
        clear_value y16
        refine pq_chk a_y16 ?_
        extract_lets +onlyGivenNames -underBinder y17
        refine pq_ite (fun _ => ?_) (fun _ => ?_)
        ·
          extract_lets +onlyGivenNames -underBinder y18
          extract_lets +onlyGivenNames -underBinder y19
          extract_lets +onlyGivenNames -underBinder y20
          obtain ⟨a_y20, c_y20, -⟩ : PQ zr122 zo122 _ y20 := d122 c_y16 _ _ rfl
          clear_value y20
          refine pq_chk a_y20 ?_
          exact ⟨rfl, c_y20, trivial⟩
        ·
          refine pq_ite (fun _ => ?_) (fun _ => ?_)
          ·
            extract_lets +onlyGivenNames -underBinder y21
            extract_lets +onlyGivenNames -underBinder y22
            extract_lets +onlyGivenNames -underBinder y23
            obtain ⟨a_y23, c_y23, -⟩ : PQ zr122 zo122 _ y23 := d122 c_y16 _ _ rfl
            clear_value y23
            refine pq_chk a_y23 ?_
            exact ⟨rfl, c_y23, trivial⟩
          ·
            refine pq_ite (fun _ => ?_) (fun _ => ?_)
            ·
              extract_lets +onlyGivenNames -underBinder y24
              extract_lets +onlyGivenNames -underBinder y25
              exact ⟨rfl, c_y16, trivial⟩
            ·
              extract_lets +onlyGivenNames -underBinder k2
              have h_k2 : ∀ (n15 : Int) (n16 : Int) (n17 : Int) (n18 : Int) (C_k2_n15 : Cu l1 n15), PQ zr104 zo104 (fun o => Cu l1 (asI (outC o 0 1)) ∧ True) (k2 n15 n16 n17 n18) := by
                intro n15 n16 n17 n18 C_k2_n15
                dsimp -zeta only [k2]
                exact ⟨rfl, C_k2_n15, trivial⟩
              refine pq_ite (fun _ => ?_) (fun _ => ?_)
              ·
                extract_lets +onlyGivenNames -underBinder y26
                extract_lets +onlyGivenNames -underBinder y27
                extract_lets +onlyGivenNames -underBinder y28
                obtain ⟨a_y28, c_y28, -⟩ : PQ zr122 zo122 _ y28 := d122 c_y16 _ _ rfl
                clear_value y28
                refine pq_chk a_y28 ?_
                exact h_k2 (asI (outC y28 0 1)) (asI (outC y28 0 2)) n4 (asI (resC y28 0 0)) c_y28
              ·
                extract_lets +onlyGivenNames -underBinder y29
                extract_lets +onlyGivenNames -underBinder y30
                extract_lets +onlyGivenNames -underBinder y31
                obtain ⟨a_y31, c_y31, -⟩ : PQ zr122 zo122 _ y31 := d122 c_y16 _ _ rfl
                clear_value y31
                refine pq_chk a_y31 ?_
                exact h_k2 (asI (outC y31 0 1)) (asI (outC y31 0 2)) (asI (resC y31 0 0)) n14 c_y31
      ·
        extract_lets +onlyGivenNames -underBinder y32
        extract_lets +onlyGivenNames -underBinder y33
        exact ⟨rfl, c_y13, trivial⟩
    refine pq_ite (fun _ => ?_) (fun _ => ?_)
    ·
      exact h_k1 (asI (resC y12 0 0)) (asI (resC y12 0 1)) (asI (resC y12 0 2)) (asB (resC y12 0 3)) (asI (resC y12 0 4)) (asS (resC y12 0 5)) (asS (resC y12 0 6)) (asI (resC y12 0 7)) (asI (resC y12 0 8)) (asS (resC y12 0 9)) (asI (resC y12 0 10))
    ·
      exact h_k1 y9 y10 y11 false (0 : Int) (⟨#[]⟩ : ByteArray) (⟨#[]⟩ : ByteArray) (0 : Int) (0 : Int) (⟨#[]⟩ : ByteArray) (0 : Int)
  ·
    extract_lets +onlyGivenNames -underBinder y34
    extract_lets +onlyGivenNames -underBinder y35
    extract_lets +onlyGivenNames -underBinder y36
    obtain ⟨a_y36, c_y36, -⟩ : PQ zr108 zo108 _ y36 := d108 c_y4 _ _
    clear_value y36
    refine pq_chk a_y36 ?_
    refine pq_ite (fun _ => ?_) (fun _ => ?_)
    ·
      extract_lets +onlyGivenNames -underBinder y37
      extract_lets +onlyGivenNames -underBinder y38
      extract_lets +onlyGivenNames -underBinder y39
      obtain ⟨a_y39, c_y39, -⟩ : PQ zr105 zo105 _ y39 := d105 c_y36 _ _
      clear_value y39
      refine pq_chk a_y39 ?_
      extract_lets +onlyGivenNames -underBinder y40
      refine pq_ite (fun _ => ?_) (fun _ => ?_)
      ·
        extract_lets +onlyGivenNames -underBinder y41
        extract_lets +onlyGivenNames -underBinder y42
        extract_lets +onlyGivenNames -underBinder y43
        obtain ⟨a_y43, c_y43, -⟩ : PQ zr122 zo122 _ y43 := d122 c_y39 _ _ rfl
        clear_value y43
        refine pq_chk a_y43 ?_
        extract_lets +onlyGivenNames -underBinder y44
        extract_lets +onlyGivenNames -underBinder y45
        exact ⟨rfl, c_y43, trivial⟩
      ·
        refine pq_ite (fun _ => ?_) (fun _ => ?_)
        ·
          extract_lets +onlyGivenNames -underBinder y46
          extract_lets +onlyGivenNames -underBinder y47
          extract_lets +onlyGivenNames -underBinder y48
          obtain ⟨a_y48, c_y48, -⟩ : PQ zr122 zo122 _ y48 := d122 c_y39 _ _ rfl
          clear_value y48
          refine pq_chk a_y48 ?_
          extract_lets +onlyGivenNames -underBinder y49
          extract_lets +onlyGivenNames -underBinder y50
          exact ⟨rfl, c_y48, trivial⟩
        ·
          refine pq_ite (fun _ => ?_) (fun _ => ?_)
          ·
            extract_lets +onlyGivenNames -underBinder y51
            extract_lets +onlyGivenNames -underBinder y52
            extract_lets +onlyGivenNames -underBinder y53
            extract_lets +onlyGivenNames -underBinder y54
            extract_lets +onlyGivenNames -underBinder y55
            exact ⟨rfl, c_y39, trivial⟩
          ·
            extract_lets +onlyGivenNames -underBinder k3
            have h_k3 : ∀ (n19 : Int) (n20 : Int) (n21 : Int) (n22 : Int) (C_k3_n19 : Cu l1 n19), PQ zr104 zo104 (fun o => Cu l1 (asI (outC o 0 1)) ∧ True) (k3 n19 n20 n21 n22) := by
              intro n19 n20 n21 n22 C_k3_n19
              dsimp -zeta only [k3]
              extract_lets +onlyGivenNames -underBinder y56
              extract_lets +onlyGivenNames -underBinder y57
              exact ⟨rfl, C_k3_n19, trivial⟩
            refine pq_ite (fun _ => ?_) (fun _ => ?_)
            ·
              extract_lets +onlyGivenNames -underBinder y58
              extract_lets +onlyGivenNames -underBinder y59
              extract_lets +onlyGivenNames -underBinder y60
              obtain ⟨a_y60, c_y60, -⟩ : PQ zr122 zo122 _ y60 := d122 c_y39 _ _ rfl
              clear_value y60
              refine pq_chk a_y60 ?_
              extract_lets +onlyGivenNames -underBinder y61
              exact h_k3 (asI (outC y60 0 1)) (asI (outC y60 0 2)) y61 (asI (resC y60 0 0)) c_y60
            ·
              extract_lets +onlyGivenNames -underBinder y62
              extract_lets +onlyGivenNames -underBinder y63
              extract_lets +onlyGivenNames -underBinder y64
              obtain ⟨a_y64, c_y64, -⟩ : PQ zr122 zo122 _ y64 := d122 c_y39 _ _ rfl
              clear_value y64
              refine pq_chk a_y64 ?_
              exact h_k3 (asI (outC y64 0 1)) (asI (outC y64 0 2)) (asI (resC y64 0 0)) (0 : Int) c_y64
    ·
      extract_lets +onlyGivenNames -underBinder y65
      extract_lets +onlyGivenNames -underBinder y66
      extract_lets +onlyGivenNames -underBinder y67
      extract_lets +onlyGivenNames -underBinder y68
      extract_lets +onlyGivenNames -underBinder y69
      exact ⟨rfl, c_y36, trivial⟩

theorem n59 (l1 : List (List D)) (hl : l1.length ≤ 1048576) (ht : ∀ r ∈ l1, typL [.i .u8] r) : PQ zr59 zo59 (fun o => True) (t59 l1) := by
  unfold t59 ta59
  obtain ⟨a_z1, c_z1, -⟩ := n102 l1 hl ht
  refine pq_chk a_z1 ?_
  generalize t102 l1 = z1 at *
  extract_lets +onlyGivenNames -underBinder y1
  extract_lets +onlyGivenNames -underBinder y2
  obtain ⟨a_y2, c_y2, -⟩ : PQ zr103 zo103 _ y2 := d103 c_z1 _
  clear_value y2
  refine pq_chk a_y2 ?_
  extract_lets +onlyGivenNames -underBinder y3
  obtain ⟨a_y3, c_y3, -⟩ : PQ zr104 zo104 _ y3 := d104 c_y2 _
  clear_value y3
  refine pq_chk a_y3 ?_
  extract_lets +onlyGivenNames -underBinder y4
  obtain ⟨a_y4, c_y4, -⟩ : PQ zr105 zo105 _ y4 := d105 c_y3 _ _
  clear_value y4
  refine pq_chk a_y4 ?_
  extract_lets +onlyGivenNames -underBinder y5
  obtain ⟨a_y5, c_y5, -⟩ : PQ zr105 zo105 _ y5 := d105 c_y4 _ _
  clear_value y5
  refine pq_chk a_y5 ?_
  extract_lets +onlyGivenNames -underBinder y6
  obtain ⟨a_y6, p_y6_0_0, -⟩ : PQ zr89 zo89 _ y6 := n89 _
  clear_value y6
  refine pq_chk a_y6 ?_
  extract_lets +onlyGivenNames -underBinder y7
  obtain ⟨a_y7, c_y7, p_y7_0_1, -⟩ : PQ zr107 zo107 _ y7 := d107 c_y5 _
  clear_value y7
  refine pq_chk a_y7 ?_
  extract_lets +onlyGivenNames -underBinder y8
  obtain ⟨a_y8, p_y8_0_0, -⟩ : PQ zr106 zo106 _ y8 := n106 _ _ (by have q := (show (asS (resC y7 0 1)).size ≤ 2000 from p_y7_0_1); omega)
  clear_value y8
  refine pq_chk a_y8 ?_
  extract_lets +onlyGivenNames -underBinder y9
  extract_lets +onlyGivenNames -underBinder y10
  refine pq_chk (decide_eq_true (by have q1 := (show y9.size ≤ 100 from (show (asS (resC y6 0 0)).size ≤ 100 from p_y6_0_0)); have q2 := (show y10.size ≤ 3000 from (show (asS (resC y8 0 0)).size ≤ 3000 from p_y8_0_0)); unfold lim; omega)) ?_
  extract_lets +onlyGivenNames -underBinder y11
  obtain ⟨a_y11, c_y11, -⟩ : PQ zr108 zo108 _ y11 := d108 c_y7 _ _
  clear_value y11
  refine pq_chk a_y11 ?_
  refine pq_ite (fun _ => ?_) (fun _ => ?_)
  ·
    extract_lets +onlyGivenNames -underBinder y12
    obtain ⟨a_y12, c_y12, -⟩ : PQ zr105 zo105 _ y12 := d105 c_y11 _ _
    clear_value y12
    refine pq_chk a_y12 ?_
    extract_lets +onlyGivenNames -underBinder y13
    refine pq_ite (fun _ => ?_) (fun _ => ?_)
    ·
      extract_lets +onlyGivenNames -underBinder y14
      extract_lets +onlyGivenNames -underBinder y15
      extract_lets +onlyGivenNames -underBinder y16
      extract_lets +onlyGivenNames -underBinder y17
      extract_lets +onlyGivenNames -underBinder y18
      extract_lets +onlyGivenNames -underBinder y19
      extract_lets +onlyGivenNames -underBinder y20
      extract_lets +onlyGivenNames -underBinder y21
      extract_lets +onlyGivenNames -underBinder y22
      extract_lets +onlyGivenNames -underBinder y23
      extract_lets +onlyGivenNames -underBinder y24
      extract_lets +onlyGivenNames -underBinder y25
      extract_lets +onlyGivenNames -underBinder y26
      extract_lets +onlyGivenNames -underBinder y27
      exact ⟨rfl, trivial⟩
    ·
      refine pq_ite (fun _ => ?_) (fun _ => ?_)
      ·
        extract_lets +onlyGivenNames -underBinder y28
        extract_lets +onlyGivenNames -underBinder y29
        extract_lets +onlyGivenNames -underBinder y30
        extract_lets +onlyGivenNames -underBinder y31
        extract_lets +onlyGivenNames -underBinder y32
        extract_lets +onlyGivenNames -underBinder y33
        extract_lets +onlyGivenNames -underBinder y34
        extract_lets +onlyGivenNames -underBinder y35
        extract_lets +onlyGivenNames -underBinder y36
        extract_lets +onlyGivenNames -underBinder y37
        extract_lets +onlyGivenNames -underBinder y38
        extract_lets +onlyGivenNames -underBinder y39
        extract_lets +onlyGivenNames -underBinder y40
        extract_lets +onlyGivenNames -underBinder y41
        exact ⟨rfl, trivial⟩
      ·
        refine pq_ite (fun _ => ?_) (fun _ => ?_)
        ·
          extract_lets +onlyGivenNames -underBinder y42
          extract_lets +onlyGivenNames -underBinder y43
          extract_lets +onlyGivenNames -underBinder y44
          obtain ⟨a_y44, c_y44, -⟩ : PQ zr105 zo105 _ y44 := d105 c_y12 _ _
          clear_value y44
          refine pq_chk a_y44 ?_
          extract_lets +onlyGivenNames -underBinder y45
          extract_lets +onlyGivenNames -underBinder y46
          extract_lets +onlyGivenNames -underBinder y47
          extract_lets +onlyGivenNames -underBinder y48
          extract_lets +onlyGivenNames -underBinder y49
          extract_lets +onlyGivenNames -underBinder y50
          extract_lets +onlyGivenNames -underBinder y51
          extract_lets +onlyGivenNames -underBinder y52
          extract_lets +onlyGivenNames -underBinder y53
          extract_lets +onlyGivenNames -underBinder y54
          extract_lets +onlyGivenNames -underBinder y55
          extract_lets +onlyGivenNames -underBinder y56
          extract_lets +onlyGivenNames -underBinder y57
          extract_lets +onlyGivenNames -underBinder y58
          exact ⟨rfl, trivial⟩
        ·
          extract_lets +onlyGivenNames -underBinder k1
          have h_k1 : ∀ (n2 : Int) (s3 : ByteArray) (n4 : Int) (n5 : Int), PQ zr59 zo59 (fun o => True) (k1 n2 s3 n4 n5) := by
            intro n2 s3 n4 n5
            dsimp -zeta only [k1]
            extract_lets +onlyGivenNames -underBinder y59
            extract_lets +onlyGivenNames -underBinder y60
            extract_lets +onlyGivenNames -underBinder y61
            extract_lets +onlyGivenNames -underBinder y62
            extract_lets +onlyGivenNames -underBinder y63
            extract_lets +onlyGivenNames -underBinder y64
            extract_lets +onlyGivenNames -underBinder y65
            extract_lets +onlyGivenNames -underBinder y66
            extract_lets +onlyGivenNames -underBinder y67
            extract_lets +onlyGivenNames -underBinder y68
            extract_lets +onlyGivenNames -underBinder y69
            extract_lets +onlyGivenNames -underBinder y70
            extract_lets +onlyGivenNames -underBinder y71
            exact ⟨rfl, trivial⟩
          refine pq_ite (fun _ => ?_) (fun _ => ?_)
          ·
            extract_lets +onlyGivenNames -underBinder y72
            extract_lets +onlyGivenNames -underBinder y73
            extract_lets +onlyGivenNames -underBinder y74
            obtain ⟨a_y74, c_y74, p_y74_0_0, -⟩ : PQ zr109 zo109 _ y74 := d109 c_y12 _ _ (by decide)
            clear_value y74
            refine pq_chk a_y74 ?_
            extract_lets +onlyGivenNames -underBinder y75
            exact h_k1 y75 (asS (resC y74 0 0)) (asI (outC y74 0 1)) (asI (outC y74 0 2))
          ·
            extract_lets +onlyGivenNames -underBinder y76
            extract_lets +onlyGivenNames -underBinder y77
            extract_lets +onlyGivenNames -underBinder y78
            obtain ⟨a_y78, c_y78, -⟩ : PQ zr105 zo105 _ y78 := d105 c_y12 _ _
            clear_value y78
            refine pq_chk a_y78 ?_
            extract_lets +onlyGivenNames -underBinder y79
            exact h_k1 (asI (resC y78 0 0)) y79 (asI (outC y78 0 1)) (asI (outC y78 0 2))
  ·
    extract_lets +onlyGivenNames -underBinder y80
    extract_lets +onlyGivenNames -underBinder y81
    extract_lets +onlyGivenNames -underBinder y82
    extract_lets +onlyGivenNames -underBinder y83
    extract_lets +onlyGivenNames -underBinder y84
    extract_lets +onlyGivenNames -underBinder y85
    extract_lets +onlyGivenNames -underBinder y86
    extract_lets +onlyGivenNames -underBinder y87
    extract_lets +onlyGivenNames -underBinder y88
    extract_lets +onlyGivenNames -underBinder y89
    extract_lets +onlyGivenNames -underBinder y90
    extract_lets +onlyGivenNames -underBinder y91
    extract_lets +onlyGivenNames -underBinder y92
    extract_lets +onlyGivenNames -underBinder y93
    exact ⟨rfl, trivial⟩
end Go.Den.L14

/- The law of clients. -/
namespace Go.Den.L14
open Go
theorem law14 (x1 : List (List D)) (w1 : x1.length ≤ maxLen) (t1 : ∀ r ∈ x1, typL [.i .u8] r) : t14 x1 = some ([.one (.b true)], []) := by
  unfold t14 ta14
  by_cases hb : (x1.length : Int) > 1048576
  · have e58 : t58 x1 = some ([.one (.b true)], []) := by unfold t58; rw [decide_eq_true hb]
    have ew58 : okR zr58 zo58 (some ([.one (.b true)], [])) = true := rfl
    have eB : ∀ x, asB (resC (some ([.one (.b x)], [])) 0 0) = x := fun _ => rfl
    simp only [e58, ew58, chk_true, eB, if_true]
  · have hl : x1.length ≤ 1048576 := by omega
    obtain ⟨a59, -⟩ := n59 x1 hl t1
    have e58 : t58 x1 = some ([.one (.b false)], []) := by unfold t58; rw [decide_eq_false hb]
    have ew58 : okR zr58 zo58 (some ([.one (.b false)], [])) = true := rfl
    have eB : ∀ x, asB (resC (some ([.one (.b x)], [])) 0 0) = x := fun _ => rfl
    have ewc : ∀ x, okR zr20 zo20 (some ([.one (.b x)], [])) = true := fun _ => rfl
    generalize t59 x1 = z at *
    simp only [e58, ew58, eB, a59, chk_true, Bool.false_eq_true, if_false]
    generalize asI (resC z 0 0) = n1
    generalize asI (resC z 0 1) = n2
    generalize asI (resC z 0 2) = n3
    generalize asB (resC z 0 3) = b4
    generalize asI (resC z 0 4) = n5
    generalize asS (resC z 0 5) = s6
    generalize asS (resC z 0 6) = s7
    generalize asI (resC z 0 7) = n8
    generalize asI (resC z 0 8) = n9
    generalize asS (resC z 0 9) = s10
    generalize asI (resC z 0 10) = n11
    generalize asI (resC z 1 0) = n12
    generalize asI (resC z 1 1) = n13
    generalize asI (resC z 1 2) = n14
    generalize asB (resC z 1 3) = b15
    generalize asI (resC z 1 4) = n16
    generalize asS (resC z 1 5) = s17
    generalize asI (resC z 2 0) = n18
    simp only [hear_spec, hear_impl, clientOk_spec, clientCall_impl, ewc, eB, Bool.true_or, chk_true]
    cases hc : clientOk n1 n2 n3 b4 n5 s6 s7 n8 n9 s10 n11
    · simp [hearD, hc, zr46, zo46, zr44, zo44]
    cases hh : hearB n1 n2 n3 b4 n12 n13 b15 n16 s17 n18
    · simp [hearD, hc, hh, zr46, zo46, zr44, zo44]
    have hh2 := hh
    simp only [hearB, Bool.and_eq_true, decide_eq_true_eq] at hh2
    obtain ⟨⟨⟨hb4, hb15⟩, h1, h2, h3, h4, h5, h6, h7, h8⟩, h9⟩ := hh2
    subst hb4 hb15
    have hc2 := hc
    simp only [clientOk, Bool.and_eq_true, decide_eq_true_eq, if_true] at hc2
    obtain ⟨hc3, hc4, hc5⟩ := hc2
    have hx : clientOk n1 n2 n3 false 0 ⟨#[]⟩ ⟨#[]⟩ 0 0 ⟨#[]⟩ 0 = true := by
      unfold clientOk
      rw [Bool.and_eq_true]
      exact ⟨decide_eq_true (by omega), rfl⟩
    have hy : hearB n1 n2 n3 false n12 n13 true n16 s17 n18 = false := by simp [hearB]
    have ho : hearB n1 n2 n3 true (Int.tmod (w64 (n12 + 1)) 3) n13 true n16 s17 n18 = false := by
      rw [w64_in _ (by omega)]
      have : Int.tmod (n12 + 1) 3 ≠ n1 := by rw [Int.tmod_eq_emod_of_nonneg (by omega)]; omega
      simp [hearB, this]
    have hs : hearB n1 n2 (w64 (n3 + 1)) true n12 n13 true n16 s17 n18 = false := by
      rw [w64_in _ (by omega)]
      have : n16 ≠ n3 + 1 := by omega
      simp [hearB, this]
    have g1 : decide (n18 < 0) = false := decide_eq_false (by omega)
    have g2 : decide (1000000 < n18) = false := decide_eq_false (by omega)
    have hD : hearD n1 n2 n3 true n5 s6 s7 n8 n9 s10 n11 n12 n13 n14 true n16 s17 n18 = [.agg [.i .i64 n1, .i .i64 n2, .i .i64 n3, .b false, .i .i64 0, .s (⟨#[]⟩ : ByteArray), .s (⟨#[]⟩ : ByteArray), .i .i64 0, .i .i64 0, .s (⟨#[]⟩ : ByteArray), .i .i64 0], .agg [.i .i64 n1, .i .i64 n2, .i .i64 n3, .i .i64 n5, .s s6, .s s7, .i .i64 n8, .i .i64 n9, .s s10, .i .i64 (rdV s17).1, .i .i64 (rdR (s17.extract (rdV s17).2.toNat s17.size)).2.1, .s (rdR (s17.extract (rdV s17).2.toNat s17.size)).2.2, .i .i64 n11, .i .i64 n18], .one (.b true)] := by
      simp only [hearD, hc, hh, if_true]
    have hD2 : hearD n1 n2 n3 false 0 ⟨#[]⟩ ⟨#[]⟩ 0 0 ⟨#[]⟩ 0 n12 n13 n14 true n16 s17 n18 = [.agg [.i .i64 n1, .i .i64 n2, .i .i64 n3, .b false, .i .i64 0, .s (⟨#[]⟩ : ByteArray), .s (⟨#[]⟩ : ByteArray), .i .i64 0, .i .i64 0, .s (⟨#[]⟩ : ByteArray), .i .i64 0], .agg [.i .i64 0, .i .i64 0, .i .i64 0, .i .i64 0, .s (⟨#[]⟩ : ByteArray), .s (⟨#[]⟩ : ByteArray), .i .i64 0, .i .i64 0, .s (⟨#[]⟩ : ByteArray), .i .i64 0, .i .i64 0, .s (⟨#[]⟩ : ByteArray), .i .i64 0, .i .i64 0], .one (.b false)] := by
      simp only [hearD, hx, hy, if_true, Bool.false_eq_true, if_false]
    have hD3 : hearD n1 n2 n3 true n5 s6 s7 n8 n9 s10 n11 (Int.tmod (w64 (n12 + 1)) 3) n13 n14 true n16 s17 n18 = [.agg [.i .i64 n1, .i .i64 n2, .i .i64 n3, .b true, .i .i64 n5, .s s6, .s s7, .i .i64 n8, .i .i64 n9, .s s10, .i .i64 n11], .agg [.i .i64 0, .i .i64 0, .i .i64 0, .i .i64 0, .s (⟨#[]⟩ : ByteArray), .s (⟨#[]⟩ : ByteArray), .i .i64 0, .i .i64 0, .s (⟨#[]⟩ : ByteArray), .i .i64 0, .i .i64 0, .s (⟨#[]⟩ : ByteArray), .i .i64 0, .i .i64 0], .one (.b false)] := by
      simp only [hearD, hc, ho, if_true, Bool.false_eq_true, if_false]
    by_cases hcl : n3 < 1000000
    · have g3 : decide (n3 ≥ 1000000) = false := decide_eq_false (by omega)
      have hR : callRes n1 n2 n3 false 0 ⟨#[]⟩ ⟨#[]⟩ 0 0 ⟨#[]⟩ 0 n5 s6 s7 n8 n9 s10 n18 = [.agg [.i .i64 n1, .i .i64 n2, .i .i64 (w64 (n3 + 1)), .b true, .i .i64 n5, .s s6, .s s7, .i .i64 n8, .i .i64 n9, .s s10, .i .i64 n18], .one (.b true)] := by
        simp only [callRes, hx, hc5, g1, g2, g3, if_true, Bool.not_true, Bool.or_self, Bool.false_eq_true, if_false]
      simp only [hD]
      cases hz : clientOk n1 n2 (w64 (n3 + 1)) true n5 s6 s7 n8 n9 s10 n18
      · have hD4 : hearD n1 n2 (w64 (n3 + 1)) true n5 s6 s7 n8 n9 s10 n18 n12 n13 n14 true n16 s17 n18 = [.agg [.i .i64 0, .i .i64 0, .i .i64 0, .b false, .i .i64 0, .s (⟨#[]⟩ : ByteArray), .s (⟨#[]⟩ : ByteArray), .i .i64 0, .i .i64 0, .s (⟨#[]⟩ : ByteArray), .i .i64 0], .agg [.i .i64 0, .i .i64 0, .i .i64 0, .i .i64 0, .s (⟨#[]⟩ : ByteArray), .s (⟨#[]⟩ : ByteArray), .i .i64 0, .i .i64 0, .s (⟨#[]⟩ : ByteArray), .i .i64 0, .i .i64 0, .s (⟨#[]⟩ : ByteArray), .i .i64 0, .i .i64 0], .one (.b false)] := by
          simp only [hearD, hz, Bool.false_eq_true, if_false]
        simp [hR, hD2, hD3, hD4, hcl, zr46, zo46, zr44, zo44, zr26, zo26]
      · have hD4 : hearD n1 n2 (w64 (n3 + 1)) true n5 s6 s7 n8 n9 s10 n18 n12 n13 n14 true n16 s17 n18 = [.agg [.i .i64 n1, .i .i64 n2, .i .i64 (w64 (n3 + 1)), .b true, .i .i64 n5, .s s6, .s s7, .i .i64 n8, .i .i64 n9, .s s10, .i .i64 n18], .agg [.i .i64 0, .i .i64 0, .i .i64 0, .i .i64 0, .s (⟨#[]⟩ : ByteArray), .s (⟨#[]⟩ : ByteArray), .i .i64 0, .i .i64 0, .s (⟨#[]⟩ : ByteArray), .i .i64 0, .i .i64 0, .s (⟨#[]⟩ : ByteArray), .i .i64 0, .i .i64 0], .one (.b false)] := by
          simp only [hearD, hz, hs, if_true, Bool.false_eq_true, if_false]
        simp [hR, hD2, hD3, hD4, hcl, zr46, zo46, zr44, zo44, zr26, zo26]
    · have g3 : decide (n3 ≥ 1000000) = true := decide_eq_true (by omega)
      have hR : callRes n1 n2 n3 false 0 ⟨#[]⟩ ⟨#[]⟩ 0 0 ⟨#[]⟩ 0 n5 s6 s7 n8 n9 s10 n18 = [.agg [.i .i64 n1, .i .i64 n2, .i .i64 n3, .b false, .i .i64 0, .s ⟨#[]⟩, .s ⟨#[]⟩, .i .i64 0, .i .i64 0, .s ⟨#[]⟩, .i .i64 0], .one (.b false)] := by
        simp only [callRes, hx, hc5, g1, g2, g3, if_true, Bool.not_true, Bool.or_self, Bool.true_or, Bool.or_true, Bool.false_eq_true, if_false]
      simp only [hD, hD2, hD3]
      simp [hR, hD2, hcl, zr46, zo46, zr44, zo44, zr26, zo26]
end Go.Den.L14
