/- Plain laws about what the functions compute; no condition. -/
import Derived.Test.YtkokejemgekfaaaL11Tw
import Derived.IntWalk
set_option linter.unusedVariables false
set_option linter.unusedSimpArgs false
/- How twins are taken apart. -/
namespace Go.Den.L11
open Go Go.IntWalk
theorem chk_true (x : Rs) : chk true x = x := rfl
theorem chk_ok {b : Bool} (h : b = true) (x : Rs) : chk b x = x := by rw [h]; rfl
attribute [simp] chk_true okR isVs isV isD isDs isOs resC outC nthR nthO cellsDV nthD asB asI asS asL
theorem bool_some (a b : Bool) (h : a = b) : (some ([DV.one (.b a)], ([] : List (List D))) : Rs) = some ([.one (.b b)], []) := by rw [h]
theorem nil_toList : (⟨#[]⟩ : ByteArray).toList = [] := by rw [ByteArray.toList_eq]
theorem toList_nil (s : ByteArray) : s.toList = [] ↔ (s.size : Int) = 0 := by
  have e : s.size = s.data.toList.length := by rw [Array.length_toList]; rfl
  rw [ByteArray.toList_eq, e]
  cases s.data.toList <;> simp <;> omega
theorem toList_isEmpty (s : ByteArray) : s.toList.isEmpty = decide ((s.size : Int) = 0) := by
  rw [Bool.eq_iff_iff, List.isEmpty_iff, toList_nil]; simp
attribute [simp] nil_toList toList_nil toList_isEmpty
theorem KK_eq : KK = 18446744073709551616 := Classical.choose_spec (⟨2 ^ 64, rfl⟩ : ∃ n : Nat, n = 2 ^ 64)
theorem w64_in (n : Int) (h : -9223372036854775808 ≤ n ∧ n ≤ 9223372036854775807) : w64 n = n := i64_in n h
theorem getD_in {l : List (List D)} {i : Nat} (hi : i < l.length) : l.getD i [] = l[i] := by simp [List.getD, hi]
theorem getD_row {l : List (List D)} {es : List Sh} (h : ∀ r ∈ l, typL es r) {i : Nat} (hi : i < l.length) : typL es (l.getD i []) := by
  rw [getD_in hi]; exact h _ (List.getElem_mem hi)
theorem w64_succ (i : Nat) (h : i < 4611686018427387904) : w64 ((i : Int) + 1) = ((i + 1 : Nat) : Int) := by
  rw [w64_in _ (by omega)]; rfl
theorem within_eq (a b c : Int) : t62 a b c = some ([.one (.b (decide (b ≤ a) && decide (a ≤ c)))], []) := rfl
theorem in_eq (a b c : Int) : t60 a b c = some ([.one (.b (decide (b ≤ a) && decide (a ≤ c)))], []) := rfl
end Go.Den.L11

/- Sizes; copies of rows. -/
namespace Go.Den.L11
open Go
mutual
/-- What was found small enough. -/
def szdD : Sh → D → Prop
  | .b, _ => True
  | .i _, _ => True
  | .s, d => (asS d).size ≤ 1048576
  | .l es, d => (asL d).length ≤ 1048576 ∧ ∀ r ∈ asL d, szdL es r
def szdL : List Sh → List D → Prop
  | [], _ => True
  | e :: es, ds => szdD e (nthD ds 0) ∧ szdL es ds.tail
end
theorem mem_getD {l : List (List D)} {i : Nat} (h : i < l.length) : l.getD i [] ∈ l := by rw [getD_in h]; exact List.getElem_mem h
theorem all_getD {l : List (List D)} {P : List D → Prop} (h : ∀ j, j < l.length → P (l.getD j [])) : ∀ r ∈ l, P r := by
  intro r hr
  obtain ⟨j, hj, rfl⟩ := List.mem_iff_getElem.1 hr
  rw [← getD_in hj]; exact h j hj
theorem nat_in {i n : Nat} (h : i < n) : decide ((i : Int) < (n : Int)) = true := by simp; omega
theorem nat_pos (i : Nat) : decide ((0 : Int) ≤ (i : Int)) = true := by simp
theorem modify_mid {α : Type} (f : α → α) : ∀ (a : List α) (x : α) (b : List α), (a ++ x :: b).modify a.length f = a ++ f x :: b
  | [], x, b => by simp
  | y :: a, x, b => by simp [modify_mid f a x b]
theorem stR_at (l : List (List D)) (i k : Nat) (z ys : List D) (hz : z.length ≤ ys.length) (e : i + (k + 1) = l.length) (hy : l.getD i [] = ys) : stR (l.take i ++ List.replicate (k + 1) z) i 0 ys = l.take (i + 1) ++ List.replicate k z := by
  have hi : i < l.length := by omega
  rw [getD_in hi] at hy
  have hl : (l.take i).length = i := by simp; omega
  have key := modify_mid (fun r => r.take 0 ++ ys ++ r.drop (0 + ys.length)) (l.take i) z (List.replicate k z)
  rw [hl] at key
  unfold stR
  rw [List.replicate_succ, key, List.take_succ_eq_append_getElem hi, hy]
  simp [List.drop_eq_nil_of_le hz]
end Go.Den.L11

/- Whole numbers as bytes; calls as bytes. -/
namespace Go.Den.L11
open Go Go.IntWalk
theorem ofInt_nat (n : Nat) (h : n < 2 ^ 64) : (BitVec.ofInt 64 (n : Int)).toNat = n := by
  rw [BitVec.toNat_ofInt]; omega
theorem orand (n : Nat) (h : n < 2 ^ 62) : bitOr .i64 (bitAnd .i64 (n : Int) 127) 128 = 128 + (n : Int) % 128 := by
  have e1 : bitAnd .i64 (n : Int) 127 = ((n % 128 : Nat) : Int) := by
    unfold bitAnd
    show IntKind.wrap .i64 (((BitVec.ofInt 64 (n : Int)) &&& (BitVec.ofInt 64 ((127 : Nat) : Int))).toNat : Int) = _
    rw [BitVec.toNat_and, ofInt_nat n (by omega), ofInt_nat 127 (by omega), show (127 : Nat) = 2 ^ 7 - 1 by rfl, Nat.and_two_pow_sub_one_eq_mod, i64_in _ (by omega)]
  rw [e1]
  unfold bitOr
  show IntKind.wrap .i64 (((BitVec.ofInt 64 ((n % 128 : Nat) : Int)) ||| (BitVec.ofInt 64 ((128 : Nat) : Int))).toNat : Int) = _
  have e2 : 2 ^ 7 + n % 128 = 2 ^ 7 ||| n % 128 := by
    have := Nat.two_pow_add_eq_or_of_lt (i := 7) (b := n % 128) (by omega) 1
    simpa using this
  rw [BitVec.toNat_or, ofInt_nat _ (by omega), ofInt_nat 128 (by omega), Nat.or_comm, show (128 : Nat) = 2 ^ 7 by rfl, ← e2, i64_in _ (by omega)]
  omega
/-- A whole number's bytes: what is left, what stands. -/
def vp : Nat → Int → List (List D) → Int × List (List D)
  | 0, n, l => (n, l)
  | k + 1, n, l => if n ≥ 128 then vp k (n / 128) (l ++ [[.i .u8 (128 + n % 128)]]) else (n, l)
theorem isBytes_snoc : ∀ {l : List (List D)} {x : Int}, isBytes l = true → isBytes (l ++ [[.i .u8 x]]) = true
  | [], x, _ => rfl
  | r :: l, x, h => by
    unfold isBytes at h
    split at h
    · rename_i e; cases e
    · rename_i e; cases e; simp only [List.cons_append, isBytes]; exact isBytes_snoc h
    · cases h
theorem bytesD_len : ∀ (l : List (List D)), (bytesD l).length ≤ l.length
  | [] => by simp [bytesD]
  | r :: l => by
    unfold bytesD
    split
    · rename_i e; cases e; simpa using bytesD_len l
    · simp
theorem vp_is : ∀ (k : Nat) (n : Int) (l : List (List D)), isBytes l = true → isBytes (vp k n l).2 = true ∧ (vp k n l).2.length ≤ l.length + k
  | 0, n, l, h => ⟨h, Nat.le_refl _⟩
  | k + 1, n, l, h => by
    unfold vp
    split
    · have := vp_is k (n / 128) (l ++ [[.i .u8 (128 + n % 128)]]) (isBytes_snoc h)
      simp only [List.length_append, List.length_cons, List.length_nil] at this
      exact ⟨this.1, by omega⟩
    · exact ⟨h, by simp only; omega⟩
theorem tdiv_pos (n : Int) (h : 0 ≤ n) : n.tdiv 128 = n / 128 := Int.tdiv_eq_ediv_of_nonneg h
theorem tmod_pos (n : Int) (h : 0 ≤ n) : n.tmod 128 = n % 128 := Int.tmod_eq_emod_of_nonneg h
theorem spec_loop (q : Int → Bool → List (List D) → Rs) (s0 : ByteArray) (b0 : Bool) : ∀ (k m : Nat) (n : Int) (v : SV) (l : List (List D)), 0 ≤ n → n < 128 ^ (k + 1) → n < 4611686018427387904 → k < m → l.length + k < 1000 →
    l89o1 s0 b0 q m n v l = q (vp k n l).1 false (vp k n l).2 := by
  intro k
  induction k with
  | zero =>
    intro m n v l h0 h1 h2 h3 h4
    obtain ⟨m, rfl⟩ : ∃ m', m = m' + 1 := ⟨m - 1, by omega⟩
    have e : ¬ n ≥ 128 := by omega
    simp [l89o1, e, vp]
  | succ k ih =>
    intro m n v l h0 h1 h2 h3 h4
    obtain ⟨m, rfl⟩ : ∃ m', m = m' + 1 := ⟨m - 1, by omega⟩
    by_cases e : n ≥ 128
    · simp only [l89o1, vp, e, decide_true, if_true, tmod_pos n h0, tdiv_pos n h0]
      rw [w64_in (n / 128) (by omega), w64_in (128 + n % 128) (by omega), u8_in _ (by omega), chk_ok (by simp [flatR, allSc, isSc, lim]; omega)]
      refine ih m (n / 128) _ _ (by omega) ?_ (by omega) (by omega) (by simp; omega)
      rw [Int.ediv_lt_iff_lt_mul (by omega)]
      rw [Int.pow_succ] at h1
      exact h1
    · simp [l89o1, e, vp]
theorem impl_loop (q : Int → Bool → List (List D) → Rs) (s0 : ByteArray) (b0 : Bool) : ∀ (k m : Nat) (n : Int) (v : SV) (l : List (List D)), 0 ≤ n → n < 128 ^ (k + 1) → n < 4611686018427387904 → k < m → l.length + k < 1000 →
    l91o1 s0 b0 q m n v l = q (vp k n l).1 false (vp k n l).2 := by
  intro k
  induction k with
  | zero =>
    intro m n v l h0 h1 h2 h3 h4
    obtain ⟨m, rfl⟩ : ∃ m', m = m' + 1 := ⟨m - 1, by omega⟩
    have e : ¬ n > 127 := by omega
    simp [l91o1, e, vp]
  | succ k ih =>
    intro m n v l h0 h1 h2 h3 h4
    obtain ⟨m, rfl⟩ : ∃ m', m = m' + 1 := ⟨m - 1, by omega⟩
    by_cases e : n ≥ 128
    · have e' : n > 127 := by omega
      have ea : bitOr .i64 (bitAnd .i64 n 127) 128 = 128 + n % 128 := by
        have := orand n.toNat (by omega)
        rwa [Int.toNat_of_nonneg h0] at this
      have ed : n.fdiv (2 ^ (min (7 : Int).toNat (IntKind.bits .i64))) = n / 128 := by
        rw [show (2 ^ (min (7 : Int).toNat (IntKind.bits .i64)) : Int) = 128 by rfl]
        exact Int.fdiv_eq_ediv_of_nonneg _ (by omega)
      simp only [l91o1, vp, e, e', decide_true, if_true, ea, ed]
      rw [u8_in _ (by omega), chk_ok (by simp [flatR, allSc, isSc, lim]; omega)]
      refine ih m (n / 128) _ _ (by omega) ?_ (by omega) (by omega) (by simp; omega)
      rw [Int.ediv_lt_iff_lt_mul (by omega)]
      rw [Int.pow_succ] at h1
      exact h1
    · have e' : ¬ n > 127 := by omega
      simp [l91o1, e, e', vp]
/-- A whole number as a text. -/
def varS (n : Int) : ByteArray := if 0 ≤ n ∧ n ≤ 562949953421311 then ⟨(bytesD ((vp 6 n []).2 ++ [[.i .u8 (IntKind.wrap .u8 (vp 6 n []).1)]])).toArray⟩ else ⟨#[]⟩
theorem varS_size (n : Int) : (varS n).size ≤ 10 := by
  unfold varS
  split
  · have h := (vp_is 6 n [] rfl).2
    have h2 := bytesD_len ((vp 6 n []).2 ++ [[.i .u8 (IntKind.wrap .u8 (vp 6 n []).1)]])
    simp only [List.length_append, List.length_cons, List.length_nil] at h h2
    show (List.toArray _).size ≤ 10
    simp only [List.size_toArray]
    omega
  · exact Nat.zero_le _
theorem var_spec (n : Int) : t89 n = some ([.one (.s (varS n))], []) := by
  unfold t89 varS
  simp only [in_eq, zr60, zo60]
  by_cases h : 0 ≤ n ∧ n ≤ 562949953421311
  · simp [h]
    rw [spec_loop _ _ _ 6 KK n .undef [] h.1 (by omega) (by omega) (by rw [KK_eq]; omega) (by simp)]
    have h1 := vp_is 6 n [] rfl
    simp only [List.length_nil] at h1
    rw [chk_ok (by simp [flatR, allSc, isSc, lim]; omega), chk_ok (isBytes_snoc h1.1)]
  · have : ((decide (0 ≤ n) && decide (n ≤ 562949953421311)) = false) := by simpa using h
    simp [h, this]
theorem var_impl (n : Int) : t91 n = some ([.one (.s (varS n))], []) := by
  unfold t91 varS
  simp only [within_eq, zr62, zo62]
  by_cases h : 0 ≤ n ∧ n ≤ 562949953421311
  · simp [h]
    rw [impl_loop _ _ _ 6 KK n .undef [] h.1 (by omega) (by omega) (by rw [KK_eq]; omega) (by simp)]
    have h1 := vp_is 6 n [] rfl
    simp only [List.length_nil] at h1
    rw [chk_ok (by simp [flatR, allSc, isSc, lim]; omega), chk_ok (isBytes_snoc h1.1)]
  · have : ((decide (0 ≤ n) && decide (n ≤ 562949953421311)) = false) := by simpa using h
    simp [h, this]
def zig (n : Int) : Int := if n < 0 then w64 (w64 (-2 * n) - 1) else w64 (2 * n)
def pieceS (s : ByteArray) : ByteArray := varS (s.size : Int) ++ s
theorem pieceS_size (s : ByteArray) : (pieceS s).size ≤ 10 + s.size := by
  unfold pieceS; rw [ByteArray.size_append]; have := varS_size (s.size : Int); omega
theorem piece_impl (s : ByteArray) (h : (s.size : Int) ≤ 1000000000) : t83 s = some ([.one (.s (pieceS s))], []) := by
  have := varS_size (s.size : Int)
  simp only [t83, var_impl, zr91, zo91, resC, nthR, cellsDV, nthD, asS, okR, isVs, isV, isD, isOs, Bool.and_true, chk_true]
  rw [chk_ok (decide_eq_true (by unfold lim; omega))]; rfl
end Go.Den.L11

/- Types Entry EntryS Msg: sizes, copies, likeness (printed by fam.py). -/
namespace Go.Den.L11
open Go
abbrev shEntry : List Sh := [.i .i64, .s]
theorem Entry_row {r : List D} (h : typL shEntry r) : ∃ x1 x2, r = [.i .i64 x1, .s x2] ∧ x2.size ≤ maxLen := by
  obtain ⟨_, _, rfl, ⟨x1, rfl, _⟩, ⟨_, _, rfl, ⟨x2, rfl, wx2⟩, rfl⟩⟩ := h
  exact ⟨x1, x2, rfl, wx2⟩
theorem szEntry_ok (x1 : Int) (x2 : ByteArray) (wx2 : x2.size ≤ maxLen) (n : Int) (h0 : 0 ≤ n) (h1 : n ≤ 1048576) : ∃ y, t113 x1 x2 n = some ([.one (.i .i64 y)], []) ∧ y ≤ n ∧ (0 ≤ y → szdL shEntry [.i .i64 x1, .s x2]) := by
  simp only [t113]
  have e1 : w64 (n - (x2.size : Int)) = n - (x2.size : Int) := w64_in _ (by simp only [maxLen] at wx2; omega)
  simp only [e1]
  by_cases g1 : (n - (x2.size : Int)) < 0
  · exact ⟨-1, by simp only [g1, decide_true, if_true, chk_true], by omega, by omega⟩
  simp only [g1, decide_false, Bool.false_eq_true, if_false, chk_true]
  exact ⟨_, rfl, by omega, fun _ => ⟨trivial, (by omega : x2.size ≤ 1048576), trivial⟩⟩
theorem toEntry_eq (x1 : Int) (x2 : ByteArray)  : t115 x1 x2 = some ([.agg [.i .i64 x1, .s x2]], []) := rfl
theorem eqEntry_self (x1 : Int) (x2 : ByteArray)  : t117 x1 x2 x1 x2 = some ([.one (.b true)], []) := by
  simp only [t117, bne_self_eq_false, Bool.not_true, Bool.false_eq_true, if_false, okR, isVs, isV, isD, isDs, isOs, resC, outC, nthR, nthO, cellsDV, nthD, asB, asI, asS, asL, Bool.and_true, Bool.true_and, BEq.rfl, chk_true]
theorem szEntryS_loop (n0 : Int) (b0 : Bool) (q1 : Int → Int → Bool → Bool → Rs) (q2 : Int → Int → Bool → SV → Rs) (h1 : ∀ a b c d, q1 a b c d = some ([.one (.i .i64 (-1))], [])) (h2 : ∀ a b c d, q2 a b c d = some ([.one (.i .i64 a)], []))
    (l : List (List D)) (h : ∀ r ∈ l, typL shEntry r) (hl : l.length < 4611686018427387904) : ∀ (k i m : Nat) (n : Int) (v w : SV), i + k = l.length → k < m → 0 ≤ n → n ≤ 1048576 → ∃ y, l71o1 l n0 b0 q1 q2 m n i v w = some ([.one (.i .i64 y)], []) ∧ y ≤ n ∧ (0 ≤ y → ∀ j, i ≤ j → j < l.length → szdL shEntry (l.getD j [])) := by
  intro k
  induction k with
  | zero =>
    intro i m n v w e hm g0 g1
    obtain ⟨m, rfl⟩ : ∃ m', m = m' + 1 := ⟨m - 1, by omega⟩
    have ei : decide ((i : Int) < (l.length : Int)) = false := by simp; omega
    refine ⟨n, ?_, by omega, by omega⟩
    simp only [l71o1, ei, h2, Bool.false_eq_true, if_false]
  | succ k ih =>
    intro i m n v w e hm g0 g1
    obtain ⟨m, rfl⟩ : ∃ m', m = m' + 1 := ⟨m - 1, by omega⟩
    have hr := getD_row h (i := i) (by omega)
    obtain ⟨c1, c2, er, wc2⟩ := Entry_row hr
    obtain ⟨z, hz, hzn, hzo⟩ := szEntry_ok c1 c2 wc2 n g0 g1
    have e1 : decide ((i : Int) < (l.length : Int)) = true := by simp; omega
    have e2 : decide ((0 : Int) ≤ (i : Int)) = true := by simp
    have ez : isRow z144 [.i .i64 c1, .s c2] = true := rfl
    have ew : okR zr113 zo113 (some ([.one (.i .i64 z)], [])) = true := rfl
    simp only [l71o1, e1, e2, Int.toNat_natCast, er, ez, nthD, asI, asS, asB, asL, hz, resC, nthR, cellsDV, ew, Bool.and_true, chk_true, if_true]
    by_cases g : z < 0
    · exact ⟨-1, by simp only [g, decide_true, if_true, h1], by omega, by omega⟩
    · simp only [g, decide_false, Bool.false_eq_true, if_false]
      rw [w64_succ i (by omega)]
      obtain ⟨y, ey, hy1, hy2⟩ := ih (i + 1) m z (.d (.b true)) (.d (.b false)) (by omega) (by omega) (by omega) (by omega)
      refine ⟨y, ey, by omega, fun hy j hj1 hj2 => ?_⟩
      by_cases hj : j = i
      · subst hj; rw [er]; exact hzo (by omega)
      · exact hy2 hy j (by omega) hj2
theorem szEntryS_ok (l : List (List D)) (hl : l.length ≤ maxLen) (h : ∀ r ∈ l, typL shEntry r) (n : Int) (h0 : 0 ≤ n) (h1 : n ≤ 1048576) : ∃ y, t71 l n = some ([.one (.i .i64 y)], []) ∧ y ≤ n ∧ (0 ≤ y → l.length ≤ 1048576 ∧ ∀ r ∈ l, szdL shEntry r) := by
  have e : w64 (n - (l.length : Int)) = n - (l.length : Int) := w64_in _ (by simp only [maxLen] at hl; omega)
  simp only [t71, e]
  by_cases g : n - (l.length : Int) < 0
  · exact ⟨-1, by simp only [g, decide_true, if_true], by omega, by omega⟩
  · simp only [g, decide_false, Bool.false_eq_true, if_false]
    obtain ⟨y, ey, hy1, hy2⟩ := szEntryS_loop 0 false (fun _ _ _ _ => some ([.one (.i .i64 (-1))], [])) (fun a _ _ _ => some ([.one (.i .i64 a)], [])) (fun _ _ _ _ => rfl) (fun _ _ _ _ => rfl) l h (by omega) l.length 0 KK (n - (l.length : Int)) .undef .undef (by omega) (by rw [KK_eq]; omega) (by omega) (by omega)
    refine ⟨y, ey, by omega, fun hy => ⟨by omega, all_getD (fun j hj => hy2 hy j (by omega) hj)⟩⟩
theorem toEntryS_loop (q : Int → Bool → List (List D) → Rs) (l : List (List D)) (h : ∀ r ∈ l, typL shEntry r) (hs : ∀ r ∈ l, szdL shEntry r) (hl : l.length < 4611686018427387904) : ∀ (k i m : Nat) (v : SV), i + k = l.length → k < m →
    l76o0 l q m i v (l.take i ++ List.replicate k z119) = q l.length false l := by
  intro k
  induction k with
  | zero =>
    intro i m v e hm
    obtain ⟨m, rfl⟩ : ∃ m', m = m' + 1 := ⟨m - 1, by omega⟩
    have ei : decide ((i : Int) < (l.length : Int)) = false := by simp; omega
    have e0 : i = l.length := by omega
    simp only [l76o0, ei, e0]
    simp
  | succ k ih =>
    intro i m v e hm
    obtain ⟨m, rfl⟩ : ∃ m', m = m' + 1 := ⟨m - 1, by omega⟩
    have hr := getD_row h (i := i) (by omega)
    obtain ⟨c1, c2, er, wc2⟩ := Entry_row hr
    have e1 : decide ((i : Int) < (l.length : Int)) = true := by simp; omega
    have e2 : decide ((0 : Int) ≤ (i : Int)) = true := by simp
    have e3 : decide ((i : Int) < ((l.take i ++ List.replicate (k + 1) z119).length : Int)) = true := by simp; omega
    have e4 : decide (2 ≤ 2 ∧ i < (l.take i ++ List.replicate (k + 1) z119).length) = true := by simp; omega
    have ez : isRow z144 [.i .i64 c1, .s c2] = true := rfl
    have ew : okR zr115 zo115 (some ([.agg [.i .i64 c1, .s c2]], [])) = true := rfl
    simp only [l76o0, e1, e2, Int.toNat_natCast, er, ez, nthD, asI, asS, asB, asL, toEntry_eq c1 c2, resC, nthR, cellsDV, ew, e3, e4, Bool.and_true, chk_true, if_true]
    rw [stR_at l i k _ _ (by simp [z119]) e er, w64_succ i (by omega)]
    exact ih (i + 1) m _ (by omega) (by omega)
theorem toEntryS_eq (l : List (List D)) (hl : l.length ≤ 1048576) (h : ∀ r ∈ l, typL shEntry r) (hs : ∀ r ∈ l, szdL shEntry r) : t76 l = some ([.one (.l l)], []) := by
  unfold t76
  have e1 : l.length ≤ lim := by unfold lim; omega
  have := toEntryS_loop (fun _ _ l => some ([.one (.l l)], [])) l h hs (by omega) l.length 0 KK .undef (by omega) (by rw [KK_eq]; omega)
  simpa [e1] using this
theorem eqEntryS_loop (b0 b1 : Bool) (q1 : Int → Bool → Bool → Rs) (q2 : Int → Bool → SV → Rs) (h2 : ∀ a b c, q2 a b c = some ([.one (.b true)], [])) (l : List (List D)) (h : ∀ r ∈ l, typL shEntry r) (hl : l.length < 4611686018427387904) : ∀ (k i m : Nat) (v w : SV), i + k = l.length → k < m →
    l80o1 l l b0 b1 q1 q2 m i v w = some ([.one (.b true)], []) := by
  intro k
  induction k with
  | zero =>
    intro i m v w e hm
    obtain ⟨m, rfl⟩ : ∃ m', m = m' + 1 := ⟨m - 1, by omega⟩
    have ei : decide ((i : Int) < (l.length : Int)) = false := by simp; omega
    simp only [l80o1, ei, h2]
    simp
  | succ k ih =>
    intro i m v w e hm
    obtain ⟨m, rfl⟩ : ∃ m', m = m' + 1 := ⟨m - 1, by omega⟩
    have hr := getD_row h (i := i) (by omega)
    obtain ⟨c1, c2, er, wc2⟩ := Entry_row hr
    have e1 : decide ((i : Int) < (l.length : Int)) = true := by simp; omega
    have e2 : decide ((0 : Int) ≤ (i : Int)) = true := by simp
    have ez : isRow z119 [.i .i64 c1, .s c2] = true := rfl
    have ew : okR zr117 zo117 (some ([.one (.b true)], [])) = true := rfl
    simp only [l80o1, e1, e2, Int.toNat_natCast, er, ez, nthD, asI, asS, asB, asL, eqEntry_self c1 c2, resC, nthR, cellsDV, ew, Bool.and_true, chk_true, if_true, Bool.not_true, Bool.false_eq_true, if_false]
    rw [w64_succ i (by omega)]
    exact ih (i + 1) m _ _ (by omega) (by omega)
theorem eqEntryS_self (l : List (List D)) (hl : l.length ≤ 1048576) (h : ∀ r ∈ l, typL shEntry r) : t80 l l = some ([.one (.b true)], []) := by
  have := eqEntryS_loop false false (fun _ _ _ => some ([.one (.b false)], [])) (fun _ _ _ => some ([.one (.b true)], [])) (fun _ _ _ => rfl) l h (by omega) l.length 0 KK .undef .undef (by omega) (by rw [KK_eq]; omega)
  simpa [t80] using this
abbrev shMsg : List Sh := [.i .i64, .i .i64, .i .i64, .i .i64, .i .i64, .i .i64, .i .i64, .b, .l [.i .i64, .s], .s]
theorem Msg_row {r : List D} (h : typL shMsg r) : ∃ x1 x2 x3 x4 x5 x6 x7 x8 x9 x10, r = [.i .i64 x1, .i .i64 x2, .i .i64 x3, .i .i64 x4, .i .i64 x5, .i .i64 x6, .i .i64 x7, .b x8, .l x9, .s x10] ∧ x9.length ≤ maxLen ∧ (∀ r ∈ x9, typL shEntry r) ∧ x10.size ≤ maxLen := by
  obtain ⟨_, _, rfl, ⟨x1, rfl, _⟩, ⟨_, _, rfl, ⟨x2, rfl, _⟩, ⟨_, _, rfl, ⟨x3, rfl, _⟩, ⟨_, _, rfl, ⟨x4, rfl, _⟩, ⟨_, _, rfl, ⟨x5, rfl, _⟩, ⟨_, _, rfl, ⟨x6, rfl, _⟩, ⟨_, _, rfl, ⟨x7, rfl, _⟩, ⟨_, _, rfl, ⟨x8, rfl⟩, ⟨_, _, rfl, ⟨x9, rfl, wx9, tx9⟩, ⟨_, _, rfl, ⟨x10, rfl, wx10⟩, rfl⟩⟩⟩⟩⟩⟩⟩⟩⟩⟩ := h
  exact ⟨x1, x2, x3, x4, x5, x6, x7, x8, x9, x10, rfl, wx9, tx9, wx10⟩
theorem szMsg_ok (x1 : Int) (x2 : Int) (x3 : Int) (x4 : Int) (x5 : Int) (x6 : Int) (x7 : Int) (x8 : Bool) (x9 : List (List D)) (x10 : ByteArray) (wx9 : x9.length ≤ maxLen) (tx9 : ∀ r ∈ x9, typL shEntry r) (wx10 : x10.size ≤ maxLen) (n : Int) (h0 : 0 ≤ n) (h1 : n ≤ 1048576) : ∃ y, t36 x1 x2 x3 x4 x5 x6 x7 x8 x9 x10 n = some ([.one (.i .i64 y)], []) ∧ y ≤ n ∧ (0 ≤ y → szdL shMsg [.i .i64 x1, .i .i64 x2, .i .i64 x3, .i .i64 x4, .i .i64 x5, .i .i64 x6, .i .i64 x7, .b x8, .l x9, .s x10]) := by
  simp only [t36]
  obtain ⟨y1, e1, h1a, o1⟩ := szEntryS_ok x9 wx9 tx9 n (by omega) (by omega)
  simp only [e1, zr71, zo71, okR, isVs, isV, isD, isDs, isOs, resC, outC, nthR, nthO, cellsDV, nthD, asB, asI, asS, asL, Bool.and_true, Bool.true_and, BEq.rfl, chk_true]
  by_cases g1 : y1 < 0
  · exact ⟨-1, by simp only [g1, decide_true, if_true, chk_true], by omega, by omega⟩
  simp only [g1, decide_false, Bool.false_eq_true, if_false, chk_true]
  have e2 : w64 (y1 - (x10.size : Int)) = y1 - (x10.size : Int) := w64_in _ (by simp only [maxLen] at wx10; omega)
  simp only [e2]
  by_cases g2 : (y1 - (x10.size : Int)) < 0
  · exact ⟨-1, by simp only [g2, decide_true, if_true, chk_true], by omega, by omega⟩
  simp only [g2, decide_false, Bool.false_eq_true, if_false, chk_true]
  exact ⟨_, rfl, by omega, fun _ => ⟨trivial, trivial, trivial, trivial, trivial, trivial, trivial, trivial, (o1 (by omega)), (by omega : x10.size ≤ 1048576), trivial⟩⟩
theorem toMsg_eq (x1 : Int) (x2 : Int) (x3 : Int) (x4 : Int) (x5 : Int) (x6 : Int) (x7 : Int) (x8 : Bool) (x9 : List (List D)) (x10 : ByteArray) (wx9 : x9.length ≤ 1048576) (tx9 : ∀ r ∈ x9, typL shEntry r) (sx9 : ∀ r ∈ x9, szdL shEntry r) : t38 x1 x2 x3 x4 x5 x6 x7 x8 x9 x10 = some ([.agg [.i .i64 x1, .i .i64 x2, .i .i64 x3, .i .i64 x4, .i .i64 x5, .i .i64 x6, .i .i64 x7, .b x8, .l x9, .s x10]], []) := by
  simp only [t38, toEntryS_eq x9 wx9 tx9 sx9, zr76, zo76, okR, isVs, isV, isD, isDs, isOs, resC, outC, nthR, nthO, cellsDV, nthD, asB, asI, asS, asL, Bool.and_true, Bool.true_and, BEq.rfl, chk_true]
theorem eqMsg_self (x1 : Int) (x2 : Int) (x3 : Int) (x4 : Int) (x5 : Int) (x6 : Int) (x7 : Int) (x8 : Bool) (x9 : List (List D)) (x10 : ByteArray) (wx9 : x9.length ≤ 1048576) (tx9 : ∀ r ∈ x9, typL shEntry r) : t40 x1 x2 x3 x4 x5 x6 x7 x8 x9 x10 x1 x2 x3 x4 x5 x6 x7 x8 x9 x10 = some ([.one (.b true)], []) := by
  simp only [t40, bne_self_eq_false, Bool.not_true, Bool.false_eq_true, if_false, eqEntryS_self x9 wx9 tx9, zr80, zo80, okR, isVs, isV, isD, isDs, isOs, resC, outC, nthR, nthO, cellsDV, nthD, asB, asI, asS, asL, Bool.and_true, Bool.true_and, BEq.rfl, chk_true]
end Go.Den.L11

/- Messages. -/
namespace Go.Den.L11
open Go
theorem row_in {sh : List Sh} {l : List (List D)} (h : ∀ r ∈ l, typL sh r) (z : List D) (hz : ∀ r, typL sh r → isRow z r = true) (i : Nat) (hi : i < l.length) : isRow z (l.getD i []) = true := hz _ (getD_row h hi)
theorem entry_row : ∀ r, typL shEntry r → isRow z119 r = true := fun r h => by
  obtain ⟨a, b, rfl, _⟩ := Entry_row h; rfl
theorem sameEs_nil (l : List (List D)) : t114 l [] = some ([.one (.b (decide (l.length = 0)))], []) := by
  obtain ⟨k, hk⟩ : ∃ k, KK = k + 1 := ⟨KK - 1, by rw [KK_eq]⟩
  unfold t114
  rw [hk]
  cases l with
  | nil => simp [l114o1]
  | cons r l => simp [bne]; omega
theorem sameEi_nil (l : List (List D)) : t116 l [] = some ([.one (.b (decide (l.length = 0)))], []) := by
  obtain ⟨k, hk⟩ : ∃ k, KK = k + 1 := ⟨KK - 1, by rw [KK_eq]⟩
  unfold t116
  rw [hk]
  cases l with
  | nil => simp [l116o1]
  | cons r l => simp [bne]; omega
theorem sameEs_loop (b0 b1 : Bool) (q1 : Int → Bool → Bool → Rs) (q2 : Int → Bool → SV → Rs) (h2 : ∀ a b c, q2 a b c = some ([.one (.b true)], [])) (l : List (List D)) (h : ∀ r ∈ l, typL shEntry r) (hl : l.length < 4611686018427387904) : ∀ (k i m : Nat) (v w : SV), i + k = l.length → k < m →
    l114o1 l l b0 b1 q1 q2 m i v w = some ([.one (.b true)], []) := by
  intro k
  induction k with
  | zero =>
    intro i m v w e hm
    obtain ⟨m, rfl⟩ : ∃ m', m = m' + 1 := ⟨m - 1, by omega⟩
    have ei : decide ((i : Int) < (l.length : Int)) = false := by simp; omega
    simp only [l114o1, ei, h2]
    simp
  | succ k ih =>
    intro i m v w e hm
    obtain ⟨m, rfl⟩ : ∃ m', m = m' + 1 := ⟨m - 1, by omega⟩
    have e1 := nat_in (i := i) (n := l.length) (by omega)
    have ez := row_in h _ entry_row i (by omega)
    simp only [l114o1, e1, nat_pos, Int.toNat_natCast, ez, BEq.rfl, Bool.and_true, chk_true, if_true, Bool.not_true, Bool.false_eq_true, if_false]
    rw [w64_succ i (by omega)]
    exact ih (i + 1) m _ _ (by omega) (by omega)
theorem sameEs_self (l : List (List D)) (hl : l.length ≤ 1048576) (h : ∀ r ∈ l, typL shEntry r) : t114 l l = some ([.one (.b true)], []) := by
  have := sameEs_loop false false (fun _ _ _ => some ([.one (.b false)], [])) (fun _ _ _ => some ([.one (.b true)], [])) (fun _ _ _ => rfl) l h (by omega) l.length 0 KK .undef .undef (by omega) (by rw [KK_eq]; omega)
  simpa [t114] using this
theorem sameEi_loop (b0 b1 : Bool) (q1 : Int → Bool → Bool → Rs) (q2 : SV → Int → Bool → SV → Rs) (h2 : ∀ a b c d, q2 a b c d = some ([.one (.b true)], [])) (l : List (List D)) (h : ∀ r ∈ l, typL shEntry r) (hl : l.length < 4611686018427387904) : ∀ (k i m : Nat) (u v w : SV), i + k = l.length → k < m →
    l116o1 l l b0 b1 (l.length : Int) q1 q2 m u i v w = some ([.one (.b true)], []) := by
  intro k
  induction k with
  | zero =>
    intro i m u v w e hm
    obtain ⟨m, rfl⟩ : ∃ m', m = m' + 1 := ⟨m - 1, by omega⟩
    have ei : decide ((i : Int) < (l.length : Int)) = false := by simp; omega
    simp only [l116o1, ei, h2]
    simp
  | succ k ih =>
    intro i m u v w e hm
    obtain ⟨m, rfl⟩ : ∃ m', m = m' + 1 := ⟨m - 1, by omega⟩
    have e1 := nat_in (i := i) (n := l.length) (by omega)
    have ez := row_in h _ entry_row i (by omega)
    simp only [l116o1, e1, nat_pos, Int.toNat_natCast, ez, BEq.rfl, Bool.and_true, chk_true, if_true, Bool.not_true, Bool.false_eq_true, if_false]
    rw [w64_succ i (by omega)]
    exact ih (i + 1) m _ _ _ (by omega) (by omega)
theorem sameEi_self (l : List (List D)) (hl : l.length ≤ 1048576) (h : ∀ r ∈ l, typL shEntry r) : t116 l l = some ([.one (.b true)], []) := by
  have := sameEi_loop false false (fun _ _ _ => some ([.one (.b false)], [])) (fun _ _ _ _ => some ([.one (.b true)], [])) (fun _ _ _ _ => rfl) l h (by omega) l.length 0 KK .undef .undef .undef (by omega) (by rw [KK_eq]; omega)
  simpa [t116] using this
/-- A batch: terms that do not fall, up to t; none too long. -/
def runB (l : List (List D)) (t : Int) : Nat → Nat → Int → Bool
  | 0, _, _ => true
  | k + 1, i, p => decide (p ≤ asI (nthD (l.getD i []) 0) ∧ asI (nthD (l.getD i []) 0) ≤ t ∧ ((asS (nthD (l.getD i []) 1)).size : Int) ≤ 1600) && runB l t k (i + 1) (asI (nthD (l.getD i []) 0))
theorem run_loop (t : Int) (b0 b1 : Bool) (q1 : Int → Int → Bool → Bool → Rs) (q2 : Int → Int → Bool → SV → Rs) (h1 : ∀ a b c d, q1 a b c d = some ([.one (.b false)], [])) (h2 : ∀ a b c d, q2 a b c d = some ([.one (.b true)], [])) (l : List (List D)) (h : ∀ r ∈ l, typL shEntry r) (hl : l.length < 4611686018427387904) : ∀ (k i m : Nat) (p : Int) (v w : SV), i + k = l.length → k < m →
    l74o1 l t b0 b1 q1 q2 m p i v w = some ([.one (.b (runB l t k i p))], []) := by
  intro k
  induction k with
  | zero =>
    intro i m p v w e hm
    obtain ⟨m, rfl⟩ : ∃ m', m = m' + 1 := ⟨m - 1, by omega⟩
    have ei : decide ((i : Int) < (l.length : Int)) = false := by simp; omega
    simp only [l74o1, ei, h2, runB]
    simp
  | succ k ih =>
    intro i m p v w e hm
    obtain ⟨m, rfl⟩ : ∃ m', m = m' + 1 := ⟨m - 1, by omega⟩
    have e1 := nat_in (i := i) (n := l.length) (by omega)
    have ez := row_in h _ entry_row i (by omega)
    have ew : ∀ x, okR zr60 zo60 (some ([.one (.b x)], [])) = true := fun _ => rfl
    have eb : ∀ x, asB (resC (some ([.one (.b x)], [])) 0 0) = x := fun _ => rfl
    simp only [l74o1, e1, nat_pos, Int.toNat_natCast, ez, in_eq, ew, eb, Bool.and_true, Bool.true_or, chk_true, if_true, runB]
    rw [w64_succ i (by omega)]
    by_cases g : p ≤ asI (nthD (l.getD i []) 0) ∧ asI (nthD (l.getD i []) 0) ≤ t ∧ ((asS (nthD (l.getD i []) 1)).size : Int) ≤ 1600
    · have g1 : (!(decide (p ≤ asI (nthD (l.getD i []) 0)) && decide (asI (nthD (l.getD i []) 0) ≤ t)) || decide (((asS (nthD (l.getD i []) 1)).size : Int) > 1600)) = false := by
        simp only [Bool.or_eq_false_iff, Bool.not_eq_false', Bool.and_eq_true, decide_eq_false_iff_not, decide_eq_true_eq]; omega
      simp only [g1, decide_eq_true g, Bool.true_and, Bool.false_eq_true, if_false]
      exact ih (i + 1) m _ _ _ (by omega) (by omega)
    · have g1 : (!(decide (p ≤ asI (nthD (l.getD i []) 0)) && decide (asI (nthD (l.getD i []) 0) ≤ t)) || decide (((asS (nthD (l.getD i []) 1)).size : Int) > 1600)) = true := by
        simp only [Bool.or_eq_true, Bool.not_eq_true', Bool.and_eq_false_iff, decide_eq_false_iff_not, decide_eq_true_eq]; omega
      simp only [g1, if_true, h1, decide_eq_false g, Bool.false_and]
theorem run_spec (l : List (List D)) (hl : l.length ≤ 1048576) (h : ∀ r ∈ l, typL shEntry r) (p t : Int) : t74 l p t = some ([.one (.b (runB l t l.length 0 (if p < 1 then 1 else p)))], []) := by
  have := fun q => run_loop t false (decide (p < 1)) (fun _ _ _ _ => some ([.one (.b false)], [])) (fun _ _ _ _ => some ([.one (.b true)], [])) (fun _ _ _ _ => rfl) (fun _ _ _ _ => rfl) l h (by omega) l.length 0 KK q .undef .undef (by omega) (by rw [KK_eq]; omega)
  by_cases g : p < 1
  · simpa [t74, g] using this 1
  · simpa [t74, g] using this p
theorem batch_loop (n1 n2 n3 n4 n5 n6 n7 : Int) (b8 : Bool) (l9 : List (List D)) (s10 : ByteArray) (b0 : Bool) (q1 : Int → Int → Bool → Bool → Int → ByteArray → Rs) (q2 : Int → Int → Bool → SV → Rs) (g : Bool) (h1 : ∀ a b c d e f, q1 a b c d e f = some ([.one (.b false)], [])) (h2 : ∀ a b c d, q2 a b c d = some ([.one (.b g)], [])) (l : List (List D)) (h : ∀ r ∈ l, typL shEntry r) (hl : l.length < 4611686018427387904) : ∀ (k i m : Nat) (p : Int) (v w : SV), i + k = l.length → k < m →
    l78o0 n1 n2 n3 n4 n5 n6 n7 b8 l9 s10 b0 l (l.length : Int) q1 q2 m p i v w = some ([.one (.b (runB l n4 k i p && g))], []) := by
  intro k
  induction k with
  | zero =>
    intro i m p v w e hm
    obtain ⟨m, rfl⟩ : ∃ m', m = m' + 1 := ⟨m - 1, by omega⟩
    have ei : decide ((i : Int) < (l.length : Int)) = false := by simp; omega
    simp only [l78o0, ei, h2, runB]
    simp
  | succ k ih =>
    intro i m p v w e hm
    obtain ⟨m, rfl⟩ : ∃ m', m = m' + 1 := ⟨m - 1, by omega⟩
    have e1 := nat_in (i := i) (n := l.length) (by omega)
    have ez := row_in h _ entry_row i (by omega)
    have ew : ∀ x, okR zr62 zo62 (some ([.one (.b x)], [])) = true := fun _ => rfl
    have eb : ∀ x, asB (resC (some ([.one (.b x)], [])) 0 0) = x := fun _ => rfl
    simp only [l78o0, e1, nat_pos, Int.toNat_natCast, ez, within_eq, ew, eb, Bool.and_true, Bool.true_or, chk_true, if_true, runB]
    rw [w64_succ i (by omega)]
    by_cases g' : p ≤ asI (nthD (l.getD i []) 0) ∧ asI (nthD (l.getD i []) 0) ≤ n4 ∧ ((asS (nthD (l.getD i []) 1)).size : Int) ≤ 1600
    · have g1 : (decide (((asS (nthD (l.getD i []) 1)).size : Int) > 1600) || !(decide (p ≤ asI (nthD (l.getD i []) 0)) && decide (asI (nthD (l.getD i []) 0) ≤ n4))) = false := by
        simp only [Bool.or_eq_false_iff, Bool.not_eq_false', Bool.and_eq_true, decide_eq_false_iff_not, decide_eq_true_eq]; omega
      simp only [g1, decide_eq_true g', Bool.true_and, Bool.false_eq_true, if_false]
      exact ih (i + 1) m _ _ _ (by omega) (by omega)
    · have g1 : (decide (((asS (nthD (l.getD i []) 1)).size : Int) > 1600) || !(decide (p ≤ asI (nthD (l.getD i []) 0)) && decide (asI (nthD (l.getD i []) 0) ≤ n4))) = true := by
        simp only [Bool.or_eq_true, Bool.not_eq_true', Bool.and_eq_false_iff, decide_eq_false_iff_not, decide_eq_true_eq]; omega
      simp only [g1, if_true, h1, decide_eq_false g', Bool.false_and]
theorem batch_impl (n1 n2 n3 n4 n5 n6 n7 : Int) (b8 : Bool) (l : List (List D)) (s10 : ByteArray) (hl : l.length ≤ 1048576) (h : ∀ r ∈ l, typL shEntry r) : t78 n1 n2 n3 n4 n5 n6 n7 b8 l s10 = some ([.one (.b (runB l n4 l.length 0 (if n6 < 1 then 1 else n6) && (decide ((l.length : Int) ≤ 4) && decide (w64 (n5 + (l.length : Int)) ≤ 100000))))], []) := by
  have := batch_loop n1 n2 n3 n4 n5 n6 n7 b8 l s10 false (fun _ _ _ _ _ _ => some ([.one (.b false)], [])) (fun _ _ _ _ => some ([.one (.b (decide ((l.length : Int) ≤ 4) && decide (w64 (n5 + (l.length : Int)) ≤ 100000)))], [])) _ (fun _ _ _ _ _ _ => rfl) (fun _ _ _ _ => rfl) l h (by omega) l.length 0 KK (if n6 < 1 then 1 else n6) .undef .undef (by omega) (by rw [KK_eq]; omega)
  have e : (if n6 > 1 then n6 else 1) = (if n6 < 1 then 1 else n6) := by split <;> split <;> omega
  unfold t78
  rw [e]
  exact this
theorem same_spec {n1 n2 n3 n4 n5 n6 n7 : Int} {b8 : Bool} {l9 : List (List D)} {s10 : ByteArray} {m1 m2 m3 m4 m5 m6 m7 : Int} {c8 : Bool} {k9 : List (List D)} {r10 : ByteArray} {e : Bool} (h : t114 l9 k9 = some ([.one (.b e)], [])) :
    t75 n1 n2 n3 n4 n5 n6 n7 b8 l9 s10 m1 m2 m3 m4 m5 m6 m7 c8 k9 r10 = some ([.one (.b (n1 == m1 && (n2 == m2 && (n3 == m3 && (n4 == m4 && (n5 == m5 && (n6 == m6 && (n7 == m7 && (b8 == c8 && (e && (s10.toList == r10.toList))))))))))) ], []) := by
  simp only [t75, h, zr114, zo114, okR, isVs, isV, isD, isOs, resC, nthR, cellsDV, nthD, asB, Bool.and_true, chk_true]
  split
  · apply bool_some
    rename_i g
    cases e
    · simp
    · simp at g
      simp
      intro a1 a2 a3 a4 a5 a6 a7 a8 a9
      simp_all
  · apply bool_some
    rename_i g
    simp at g
    obtain ⟨⟨⟨⟨⟨⟨⟨⟨g1, g2⟩, g3⟩, g4⟩, g5⟩, g6⟩, g7⟩, g8⟩, g9⟩ := g
    simp [g1, g2, g3, g4, g5, g6, g7, g8, g9]
theorem same_impl {n1 n2 n3 n4 n5 n6 n7 : Int} {b8 : Bool} {l9 : List (List D)} {s10 : ByteArray} {m1 m2 m3 m4 m5 m6 m7 : Int} {c8 : Bool} {k9 : List (List D)} {r10 : ByteArray} {e : Bool} (h : t116 l9 k9 = some ([.one (.b e)], [])) :
    t79 n1 n2 n3 n4 n5 n6 n7 b8 l9 s10 m1 m2 m3 m4 m5 m6 m7 c8 k9 r10 = some ([.one (.b (n1 == m1 && (n2 == m2 && (n3 == m3 && (n4 == m4 && (n5 == m5 && (n6 == m6 && (n7 == m7 && (b8 == c8 && (e && (s10.toList == r10.toList))))))))))) ], []) := by
  simp only [t79, h, zr116, zo116, okR, isVs, isV, isD, isOs, resC, nthR, cellsDV, nthD, asB, Bool.and_true, Bool.true_or, chk_true, Bool.and_assoc]
/-- A message that may be. -/
def placeB (a b : Int) : Bool := decide ((a = 0 ∧ b = 0) ∨ (1 ≤ a ∧ a ≤ 100000 ∧ 1 ≤ b ∧ b ≤ 100000))
theorem place_spec (a b : Int) : t73 a b = some ([.one (.b (placeB a b))], []) := by
  simp only [t73, in_eq, zr60, zo60, okR, isVs, isV, isD, isOs, resC, nthR, cellsDV, nthD, asB, Bool.and_true, Bool.true_or, chk_true]
  split <;> (apply bool_some; unfold placeB; rw [Bool.eq_iff_iff]; simp_all; try omega)
theorem place_impl (a b : Int) : t77 a b = some ([.one (.b (placeB a b))], []) := by
  simp only [t77, within_eq, zr62, zo62, okR, isVs, isV, isD, isOs, resC, nthR, cellsDV, nthD, asB, Bool.and_true, Bool.true_or, chk_true]
  apply bool_some; unfold placeB; rw [Bool.eq_iff_iff]; simp; omega
theorem server_eq (a : Int) : t72 a = some ([.one (.b (decide (0 ≤ a) && decide (a ≤ 4)))], []) := rfl
def msgOk (n1 n2 n3 n4 n5 n6 n7 : Int) (b8 : Bool) (l9 : List (List D)) (s10 : ByteArray) : Bool :=
  (((decide (0 ≤ n2) && decide (n2 ≤ 4)) && (decide (0 ≤ n3) && decide (n3 ≤ 4))) && (n2 != n3)) && ((decide (1 ≤ n4) && decide (n4 ≤ 100000)) &&
  (if n1 = 1 then placeB n5 n6 && (decide (n6 ≤ n4 ∧ n7 = 0 ∧ l9.length = 0 ∧ (s10.size : Int) = 0) && !b8)
   else if n1 = 2 then decide (n5 = 0 ∧ n6 = 0 ∧ n7 = 0 ∧ l9.length = 0 ∧ (s10.size : Int) = 0)
   else if n1 = 3 then placeB n5 n6 && (decide (n6 ≤ n4 ∧ 0 ≤ n7 ∧ n7 ≤ 100000 ∧ l9.length ≤ 4 ∧ w64 (n5 + (l9.length : Int)) ≤ 100000 ∧ (s10.size : Int) = 0) && (!b8 && runB l9 n4 l9.length 0 (if n6 < 1 then 1 else n6)))
   else if n1 = 4 then decide (0 ≤ n5 ∧ n5 ≤ 100000 ∧ n6 = 0 ∧ n7 = 0 ∧ l9.length = 0 ∧ (s10.size : Int) = 0)
   else if n1 = 5 then decide (1 ≤ n5 ∧ n5 ≤ 100000 ∧ 1 ≤ n6 ∧ n6 ≤ n4 ∧ n7 = 0 ∧ l9.length = 0 ∧ (s10.size : Int) ≤ 20000) && !b8
   else false))
theorem msgOk_spec (n1 n2 n3 n4 n5 n6 n7 : Int) (b8 : Bool) (l9 : List (List D)) (s10 : ByteArray) (hl : l9.length ≤ 1048576) (h : ∀ r ∈ l9, typL shEntry r) : t37 n1 n2 n3 n4 n5 n6 n7 b8 l9 s10 = some ([.one (.b (msgOk n1 n2 n3 n4 n5 n6 n7 b8 l9 s10))], []) := by
  simp only [t37, server_eq, in_eq, place_spec, same_spec (sameEs_nil l9), same_spec (sameEs_self l9 hl h), run_spec l9 hl h, zr72, zo72, zr60, zo60, zr73, zo73, zr75, zo75, zr74, zo74, okR, isVs, isV, isD, isOs, resC, nthR, cellsDV, nthD, asB, Bool.and_true, Bool.true_or, chk_true]
  unfold msgOk
  generalize runB l9 n4 l9.length 0 (if n6 < 1 then 1 else n6) = ru
  generalize placeB n5 n6 = pl
  generalize (((decide (0 ≤ n2) && decide (n2 ≤ 4)) && (decide (0 ≤ n3) && decide (n3 ≤ 4))) && (n2 != n3)) = sv
  generalize (decide (1 ≤ n4) && decide (n4 ≤ 100000)) = tm
  cases sv
  · simp only [Bool.false_and, Bool.false_eq_true, if_false, Bool.not_false, Bool.or_true, chk_true]
    (repeat' split) <;> rfl
  cases tm
  · simp only [Bool.and_false, Bool.false_and, Bool.true_and, Bool.false_eq_true, if_false, if_true, Bool.not_false, Bool.or_true, chk_true]
    (repeat' split) <;> rfl
  simp only [Bool.true_and, if_true]
  by_cases k1 : n1 = 1
  · subst k1
    simp only [show ((1 : Int) == 1) = true from rfl, if_true]
    cases ru <;> cases pl <;> cases b8 <;> (apply bool_some; rw [Bool.eq_iff_iff]; simp [-ByteArray.size_eq_zero_iff, -List.length_eq_zero_iff]; try omega)
  have j1 : (n1 == 1) = false := by simpa using k1
  by_cases k2 : n1 = 2
  · subst k2
    simp only [j1, k1, show ((2 : Int) == 2) = true from rfl, Bool.false_eq_true, if_false, if_true]
    cases ru <;> cases pl <;> cases b8 <;> (apply bool_some; rw [Bool.eq_iff_iff]; simp [-ByteArray.size_eq_zero_iff, -List.length_eq_zero_iff]; try omega)
  have j2 : (n1 == 2) = false := by simpa using k2
  by_cases k3 : n1 = 3
  · subst k3
    simp only [j1, k1, j2, k2, show ((3 : Int) == 3) = true from rfl, Bool.false_eq_true, if_false, if_true]
    cases ru <;> cases pl <;> cases b8 <;> (apply bool_some; rw [Bool.eq_iff_iff]; simp [-ByteArray.size_eq_zero_iff, -List.length_eq_zero_iff]; try omega)
  have j3 : (n1 == 3) = false := by simpa using k3
  by_cases k4 : n1 = 4
  · subst k4
    simp only [j1, k1, j2, k2, j3, k3, show ((4 : Int) == 4) = true from rfl, Bool.false_eq_true, if_false, if_true]
    cases ru <;> cases pl <;> cases b8 <;> (apply bool_some; rw [Bool.eq_iff_iff]; simp [-ByteArray.size_eq_zero_iff, -List.length_eq_zero_iff]; try omega)
  have j4 : (n1 == 4) = false := by simpa using k4
  by_cases k5 : n1 = 5
  · subst k5
    simp only [j1, k1, j2, k2, j3, k3, j4, k4, show ((5 : Int) == 5) = true from rfl, Bool.false_eq_true, if_false, if_true]
    cases ru <;> cases pl <;> cases b8 <;> (apply bool_some; rw [Bool.eq_iff_iff]; simp [-ByteArray.size_eq_zero_iff, -List.length_eq_zero_iff]; try omega)
  have j5 : (n1 == 5) = false := by simpa using k5
  simp only [j1, k1, j2, k2, j3, k3, j4, k4, j5, k5, Bool.false_eq_true, if_false, Bool.false_and, Bool.not_false, Bool.or_true, chk_true]
theorem msgOk_impl (n1 n2 n3 n4 n5 n6 n7 : Int) (b8 : Bool) (l9 : List (List D)) (s10 : ByteArray) (hl : l9.length ≤ 1048576) (h : ∀ r ∈ l9, typL shEntry r) : t39 n1 n2 n3 n4 n5 n6 n7 b8 l9 s10 = some ([.one (.b (msgOk n1 n2 n3 n4 n5 n6 n7 b8 l9 s10))], []) := by
  simp only [t39, within_eq, place_impl, same_impl (sameEi_nil l9), same_impl (sameEi_self l9 hl h), batch_impl _ _ _ _ _ _ _ _ l9 _ hl h, zr62, zo62, zr77, zo77, zr79, zo79, zr78, zo78, okR, isVs, isV, isD, isOs, resC, nthR, cellsDV, nthD, asB, Bool.and_true, Bool.true_or, chk_true]
  unfold msgOk
  generalize runB l9 n4 l9.length 0 (if n6 < 1 then 1 else n6) = ru
  generalize placeB n5 n6 = pl
  generalize (((decide (0 ≤ n2) && decide (n2 ≤ 4)) && (decide (0 ≤ n3) && decide (n3 ≤ 4))) && (n2 != n3)) = sv
  generalize (decide (1 ≤ n4) && decide (n4 ≤ 100000)) = tm
  cases sv
  · simp only [Bool.false_and, Bool.false_eq_true, if_false, Bool.not_false, Bool.or_true, chk_true]
    (repeat' split) <;> rfl
  cases tm
  · simp only [Bool.and_false, Bool.false_and, Bool.true_and, Bool.false_eq_true, if_false, if_true, Bool.not_false, Bool.or_true, chk_true]
    (repeat' split) <;> rfl
  simp only [Bool.true_and, if_true]
  by_cases k1 : n1 = 1
  · subst k1
    simp only [show ((1 : Int) == 1) = true from rfl, if_true]
    cases ru <;> cases pl <;> cases b8 <;> (apply bool_some; rw [Bool.eq_iff_iff]; simp [-ByteArray.size_eq_zero_iff, -List.length_eq_zero_iff]; try omega)
  have j1 : (n1 == 1) = false := by simpa using k1
  by_cases k2 : n1 = 2
  · subst k2
    simp only [j1, k1, show ((2 : Int) == 2) = true from rfl, Bool.false_eq_true, if_false, if_true]
    cases ru <;> cases pl <;> cases b8 <;> (apply bool_some; rw [Bool.eq_iff_iff]; simp [-ByteArray.size_eq_zero_iff, -List.length_eq_zero_iff]; try omega)
  have j2 : (n1 == 2) = false := by simpa using k2
  by_cases k3 : n1 = 3
  · subst k3
    simp only [j1, k1, j2, k2, show ((3 : Int) == 3) = true from rfl, Bool.false_eq_true, if_false, if_true]
    cases ru <;> cases pl <;> cases b8 <;> (apply bool_some; rw [Bool.eq_iff_iff]; simp [-ByteArray.size_eq_zero_iff, -List.length_eq_zero_iff]; try omega)
  have j3 : (n1 == 3) = false := by simpa using k3
  by_cases k4 : n1 = 4
  · subst k4
    simp only [j1, k1, j2, k2, j3, k3, show ((4 : Int) == 4) = true from rfl, Bool.false_eq_true, if_false, if_true]
    cases ru <;> cases pl <;> cases b8 <;> (apply bool_some; rw [Bool.eq_iff_iff]; simp [-ByteArray.size_eq_zero_iff, -List.length_eq_zero_iff]; try omega)
  have j4 : (n1 == 4) = false := by simpa using k4
  by_cases k5 : n1 = 5
  · subst k5
    simp only [j1, k1, j2, k2, j3, k3, j4, k4, show ((5 : Int) == 5) = true from rfl, Bool.false_eq_true, if_false, if_true]
    cases ru <;> cases pl <;> cases b8 <;> (apply bool_some; rw [Bool.eq_iff_iff]; simp [-ByteArray.size_eq_zero_iff, -List.length_eq_zero_iff]; try omega)
  have j5 : (n1 == 5) = false := by simpa using k5
  simp only [j1, k1, j2, k2, j3, k3, j4, k4, j5, k5, Bool.false_eq_true, if_false, Bool.false_and, Bool.not_false, Bool.or_true, chk_true]
end Go.Den.L11

/- Messages as texts. -/
namespace Go.Den.L11
open Go
def varsR : List (List D) → ByteArray → ByteArray
  | [], s => s
  | r :: l, s => varsR l (s ++ varS (asI (nthD r 0)))
theorem vars_loop (l l8 : List (List D)) (s9 : ByteArray) (h : ∀ r ∈ l, isRow z3 r = true) (hl : l.length ≤ 1000) (q : ByteArray → SV → Int → Bool → Rs) (hq : ∀ a b c d, q a b c d = some ([.one (.s a)], [])) : ∀ (k i m : Nat) (s : ByteArray) (v w : SV), i + k = l.length → k < m → s.size ≤ 10 * i →
    l82o0 l8 s9 l (l.length : Int) q m s v i w = some ([.one (.s (varsR (l.drop i) s))], []) := by
  intro k
  induction k with
  | zero =>
    intro i m s v w e hm hs
    obtain ⟨m, rfl⟩ : ∃ m', m = m' + 1 := ⟨m - 1, by omega⟩
    have ei : decide ((i : Int) < (l.length : Int)) = false := by simp; omega
    simp only [l82o0, ei, hq, List.drop_eq_nil_of_le (show l.length ≤ i by omega), varsR]
    simp
  | succ k ih =>
    intro i m s v w e hm hs
    obtain ⟨m, rfl⟩ : ∃ m', m = m' + 1 := ⟨m - 1, by omega⟩
    have e1 := nat_in (i := i) (n := l.length) (by omega)
    have ez := h _ (mem_getD (l := l) (i := i) (by omega))
    have ew : ∀ x, okR zr91 zo91 (some ([.one (.s x)], [])) = true := fun _ => rfl
    have eb : ∀ x, asS (resC (some ([.one (.s x)], [])) 0 0) = x := fun _ => rfl
    have z := varS_size (asI (nthD (l.getD i []) 0))
    have el : decide (s.size + (varS (asI (nthD (l.getD i []) 0))).size ≤ lim) = true := decide_eq_true (by unfold lim; omega)
    simp only [l82o0, e1, nat_pos, Int.toNat_natCast, ez, var_impl, ew, eb, el, Bool.and_true, chk_true, if_true]
    rw [w64_succ i (by omega), ih (i + 1) m _ _ _ (by omega) (by omega) (by rw [ByteArray.size_append]; omega)]
    rw [List.drop_eq_getElem_cons (show i < l.length by omega), varsR, ← getD_in (show i < l.length by omega)]
theorem vars_eq (l : List (List D)) (h : ∀ r ∈ l, isRow z3 r = true) (hl : l.length ≤ 1000) : t82 l = some ([.one (.s (varsR l ⟨#[]⟩))], []) := by
  have := vars_loop l l ⟨#[]⟩ h hl (fun s _ _ _ => some ([.one (.s s)], [])) (fun _ _ _ _ => rfl) l.length 0 KK ⟨#[]⟩ .undef .undef (by omega) (by rw [KK_eq]; omega) (Nat.zero_le _)
  exact this
def entS (l : List (List D)) : Nat → Nat → ByteArray → ByteArray
  | 0, _, s => s
  | k + 1, i, s => entS l k (i + 1) (s ++ varS (asI (nthD (l.getD i []) 0)) ++ pieceS (asS (nthD (l.getD i []) 1)))
theorem entS_app (l : List (List D)) (a : ByteArray) : ∀ (k i : Nat) (s : ByteArray), entS l k i (a ++ s) = a ++ entS l k i s
  | 0, _, _ => rfl
  | k + 1, i, s => by
    simp only [entS]
    rw [← entS_app l a k (i + 1)]
    simp only [ByteArray.append_assoc]
theorem entS_size (l : List (List D)) (hd : ∀ i, (asS (nthD (l.getD i []) 1)).size ≤ 1048576) : ∀ (k i : Nat) (s : ByteArray), (entS l k i s).size ≤ s.size + k * 1048596
  | 0, _, _ => by simp [entS]
  | k + 1, i, s => by
    simp only [entS]
    have := entS_size l hd k (i + 1) (s ++ varS (asI (nthD (l.getD i []) 0)) ++ pieceS (asS (nthD (l.getD i []) 1)))
    have a := varS_size (asI (nthD (l.getD i []) 0)); have b := pieceS_size (asS (nthD (l.getD i []) 1)); have c := hd i
    simp only [ByteArray.size_append] at this
    omega
theorem showM_spec (n35 n36 n37 n38 n39 n40 n41 : Int) (b42 : Bool) (l43 : List (List D)) (s44 s45 : ByteArray) (b48 : Bool) (n50 n51 n52 n53 n54 n55 n56 : Int) (b57 : Bool) (s59 : ByteArray) (q : ByteArray → Int → Bool → Rs) (l : List (List D)) (h : ∀ r ∈ l, typL shEntry r) (hl : l.length ≤ 4) (hd : ∀ i, (asS (nthD (l.getD i []) 1)).size ≤ 1048576) : ∀ (k i m : Nat) (s : ByteArray) (v : SV), i + k = l.length → k < m → s.size ≤ 200 + i * 1048596 →
    l48o1 n35 n36 n37 n38 n39 n40 n41 b42 l43 s44 s45 b48 n50 n51 n52 n53 n54 n55 n56 b57 l s59 q m s i v = q (entS l k i s) l.length false := by
  intro k
  induction k with
  | zero =>
    intro i m s v e hm hs
    obtain ⟨m, rfl⟩ : ∃ m', m = m' + 1 := ⟨m - 1, by omega⟩
    have ei : decide ((i : Int) < (l.length : Int)) = false := by simp; omega
    have e0 : i = l.length := by omega
    simp only [l48o1, ei, entS, e0]
    simp
  | succ k ih =>
    intro i m s v e hm hs
    obtain ⟨m, rfl⟩ : ∃ m', m = m' + 1 := ⟨m - 1, by omega⟩
    have e1 := nat_in (i := i) (n := l.length) (by omega)
    have ez := row_in h _ entry_row i (by omega)
    have ew : ∀ x, okR zr89 zo89 (some ([.one (.s x)], [])) = true := fun _ => rfl
    have eb : ∀ x, asS (resC (some ([.one (.s x)], [])) 0 0) = x := fun _ => rfl
    have a := varS_size (asI (nthD (l.getD i []) 0)); have b := varS_size ((asS (nthD (l.getD i []) 1)).size : Int); have c := hd i
    simp only [l48o1, e1, nat_pos, Int.toNat_natCast, ez, var_spec, ew, eb, Bool.and_true, chk_true, if_true, ByteArray.size_append]
    rw [chk_ok (decide_eq_true (by unfold lim; omega)), chk_ok (decide_eq_true (by unfold lim; omega)), chk_ok (decide_eq_true (by unfold lim; omega)), w64_succ i (by omega), ih (i + 1) m _ _ (by omega) (by omega) (by simp only [ByteArray.size_append]; omega)]
    simp only [entS, pieceS, ByteArray.append_assoc]
theorem showM_impl (n35 n36 n37 n38 n39 n40 n41 : Int) (b42 : Bool) (l43 : List (List D)) (s44 s45 : ByteArray) (n46 : Int) (b47 b48 : Bool) (n50 n51 n52 n53 n54 n55 n56 : Int) (b57 : Bool) (l58 : List (List D)) (s59 : ByteArray) (l60 : List (List D)) (q : ByteArray → Int → Bool → Rs) (l : List (List D)) (h : ∀ r ∈ l, typL shEntry r) (hl : l.length ≤ 4) (hd : ∀ i, (asS (nthD (l.getD i []) 1)).size ≤ 1048576) : ∀ (k i m : Nat) (s : ByteArray) (v : SV), i + k = l.length → k < m → s.size ≤ 200 + i * 1048596 →
    l49o2 n35 n36 n37 n38 n39 n40 n41 b42 l43 s44 s45 n46 b47 b48 l (l.length : Int) n50 n51 n52 n53 n54 n55 n56 b57 l58 s59 l60 q m s i v = q (entS l k i s) l.length false := by
  intro k
  induction k with
  | zero =>
    intro i m s v e hm hs
    obtain ⟨m, rfl⟩ : ∃ m', m = m' + 1 := ⟨m - 1, by omega⟩
    have ei : decide ((i : Int) < (l.length : Int)) = false := by simp; omega
    have e0 : i = l.length := by omega
    simp only [l49o2, ei, entS, e0]
    simp
  | succ k ih =>
    intro i m s v e hm hs
    obtain ⟨m, rfl⟩ : ∃ m', m = m' + 1 := ⟨m - 1, by omega⟩
    have e1 := nat_in (i := i) (n := l.length) (by omega)
    have ez := row_in h _ entry_row i (by omega)
    have ew : ∀ x, okR zr91 zo91 (some ([.one (.s x)], [])) = true := fun _ => rfl
    have ew2 : ∀ x, okR zr83 zo83 (some ([.one (.s x)], [])) = true := fun _ => rfl
    have eb : ∀ x, asS (resC (some ([.one (.s x)], [])) 0 0) = x := fun _ => rfl
    have a := varS_size (asI (nthD (l.getD i []) 0)); have b := pieceS_size (asS (nthD (l.getD i []) 1)); have c := hd i
    have hp := piece_impl (asS (nthD (l.getD i []) 1)) (by omega)
    simp only [l49o2, e1, nat_pos, Int.toNat_natCast, ez, var_impl, hp, ew, ew2, eb, Bool.and_true, chk_true, if_true, ByteArray.size_append]
    rw [chk_ok (decide_eq_true (by unfold lim; omega)), chk_ok (decide_eq_true (by unfold lim; omega)), w64_succ i (by omega), ih (i + 1) m _ _ (by omega) (by omega) (by simp only [ByteArray.size_append]; omega)]
    simp only [entS, ByteArray.append_assoc]
theorem msgOk_len {n1 n2 n3 n4 n5 n6 n7 : Int} {b8 : Bool} {l9 : List (List D)} {s10 : ByteArray} (h : msgOk n1 n2 n3 n4 n5 n6 n7 b8 l9 s10 = true) : l9.length ≤ 4 := by
  unfold msgOk at h
  rw [Bool.and_eq_true] at h
  have h := h.2
  rw [Bool.and_eq_true] at h
  have h := h.2
  split at h
  · simp only [Bool.and_eq_true, decide_eq_true_eq] at h; omega
  split at h
  · simp only [decide_eq_true_eq] at h; omega
  split at h
  · simp only [Bool.and_eq_true, decide_eq_true_eq] at h; omega
  split at h
  · simp only [decide_eq_true_eq] at h; omega
  split at h
  · simp only [Bool.and_eq_true, decide_eq_true_eq] at h; omega
  · cases h
def yesI (b : Bool) : Int := if b then 1 else 0
def msgS (n1 n2 n3 n4 n5 n6 n7 : Int) (b8 : Bool) (l9 : List (List D)) (s10 : ByteArray) : ByteArray :=
  if msgOk n1 n2 n3 n4 n5 n6 n7 b8 l9 s10 then entS l9 l9.length 0 (⟨#[109]⟩ ++ (varS n1 ++ varS n2 ++ varS n3 ++ varS n4 ++ varS n5 ++ varS n6 ++ varS n7 ++ varS (yesI b8) ++ varS (l9.length : Int))) ++ s10 else ⟨#[]⟩
theorem showMsg_spec (n1 n2 n3 n4 n5 n6 n7 : Int) (b8 : Bool) (l9 : List (List D)) (s10 : ByteArray) (hl : l9.length ≤ 1048576) (h : ∀ r ∈ l9, typL shEntry r) (hd : ∀ i, (asS (nthD (l9.getD i []) 1)).size ≤ 1048576) (hs : s10.size ≤ 1048576) : t48 n1 n2 n3 n4 n5 n6 n7 b8 l9 s10 = some ([.one (.s (msgS n1 n2 n3 n4 n5 n6 n7 b8 l9 s10))], []) := by
  have eo := msgOk_spec n1 n2 n3 n4 n5 n6 n7 b8 l9 s10 hl h
  cases hc : msgOk n1 n2 n3 n4 n5 n6 n7 b8 l9 s10
  · simp [t48, eo, hc, msgS, zr37, zo37]
  · have h4 := msgOk_len hc
    have ey : t90 b8 = some ([.one (.i .i64 (yesI b8))], []) := by cases b8 <;> rfl
    have ew : ∀ x, okR zr89 zo89 (some ([.one (.s x)], [])) = true := fun _ => rfl
    have ew2 : ∀ x, okR zr90 zo90 (some ([.one (.i .i64 x)], [])) = true := fun _ => rfl
    have ew3 : ∀ x, okR zr37 zo37 (some ([.one (.b x)], [])) = true := fun _ => rfl
    have eb : ∀ x, asS (resC (some ([.one (.s x)], [])) 0 0) = x := fun _ => rfl
    have ei : ∀ x, asI (resC (some ([.one (.i .i64 x)], [])) 0 0) = x := fun _ => rfl
    have eB : ∀ x, asB (resC (some ([.one (.b x)], [])) 0 0) = x := fun _ => rfl
    have a1 := varS_size n1; have a2 := varS_size n2; have a3 := varS_size n3; have a4 := varS_size n4; have a5 := varS_size n5; have a6 := varS_size n6; have a7 := varS_size n7; have a8 := varS_size (yesI b8); have a9 := varS_size (l9.length : Int)
    have key := fun q m hm => showM_spec n1 n2 n3 n4 n5 n6 n7 b8 l9 s10 ⟨#[]⟩ false n1 n2 n3 n4 n5 n6 n7 b8 s10 q l9 h h4 hd l9.length 0 m (varS n1 ++ varS n2 ++ varS n3 ++ varS n4 ++ varS n5 ++ varS n6 ++ varS n7 ++ varS (yesI b8) ++ varS (l9.length : Int)) .undef (by omega) hm (by simp only [ByteArray.size_append]; omega)
    have zz := entS_size l9 hd l9.length 0 (varS n1 ++ varS n2 ++ varS n3 ++ varS n4 ++ varS n5 ++ varS n6 ++ varS n7 ++ varS (yesI b8) ++ varS (l9.length : Int))
    simp only [ByteArray.size_append] at zz
    have e0 : (⟨#[109]⟩ : ByteArray).size = 1 := rfl
    simp only [t48, eo, hc, ew, ew2, ew3, eb, ei, eB, ey, var_spec, chk_true, Bool.not_true, Bool.false_eq_true, if_false, ByteArray.size_append]
    rw [chk_ok (decide_eq_true (by unfold lim; omega)), chk_ok (decide_eq_true (by unfold lim; omega)), chk_ok (decide_eq_true (by unfold lim; omega)), chk_ok (decide_eq_true (by unfold lim; omega)), chk_ok (decide_eq_true (by unfold lim; omega)), chk_ok (decide_eq_true (by unfold lim; omega)), chk_ok (decide_eq_true (by unfold lim; omega)), chk_ok (decide_eq_true (by unfold lim; omega))]
    have := key (fun s88 n89 b90 => chk (decide (s88.size + s10.size ≤ lim)) <| chk (decide ((⟨#[109]⟩ : ByteArray).size + (s88.size + s10.size) ≤ lim)) <| some ([.one (.s ((⟨#[109]⟩ : ByteArray) ++ (s88 ++ s10)))], [])) KK (by rw [KK_eq]; omega)
    refine Eq.trans this ?_
    have f1 : (entS l9 l9.length 0 (varS n1 ++ varS n2 ++ varS n3 ++ varS n4 ++ varS n5 ++ varS n6 ++ varS n7 ++ varS (yesI b8) ++ varS (l9.length : Int))).size + s10.size ≤ lim := by unfold lim; omega
    have f2 : (⟨#[109]⟩ : ByteArray).size + ((entS l9 l9.length 0 (varS n1 ++ varS n2 ++ varS n3 ++ varS n4 ++ varS n5 ++ varS n6 ++ varS n7 ++ varS (yesI b8) ++ varS (l9.length : Int))).size + s10.size) ≤ lim := by unfold lim; omega
    rw [chk_ok (decide_eq_true f1), chk_ok (decide_eq_true f2)]
    simp only [msgS, hc, if_true, entS_app, ByteArray.append_assoc]
theorem showMsg_impl (n1 n2 n3 n4 n5 n6 n7 : Int) (b8 : Bool) (l9 : List (List D)) (s10 : ByteArray) (hl : l9.length ≤ 1048576) (h : ∀ r ∈ l9, typL shEntry r) (hd : ∀ i, (asS (nthD (l9.getD i []) 1)).size ≤ 1048576) (hs : s10.size ≤ 1048576) : t49 n1 n2 n3 n4 n5 n6 n7 b8 l9 s10 = some ([.one (.s (msgS n1 n2 n3 n4 n5 n6 n7 b8 l9 s10))], []) := by
  have eo := msgOk_impl n1 n2 n3 n4 n5 n6 n7 b8 l9 s10 hl h
  cases hc : msgOk n1 n2 n3 n4 n5 n6 n7 b8 l9 s10
  · simp [t49, eo, hc, msgS, zr39, zo39]
  · have h4 := msgOk_len hc
    have ew : ∀ x, okR zr82 zo82 (some ([.one (.s x)], [])) = true := fun _ => rfl
    have ew3 : ∀ x, okR zr39 zo39 (some ([.one (.b x)], [])) = true := fun _ => rfl
    have eb : ∀ x, asS (resC (some ([.one (.s x)], [])) 0 0) = x := fun _ => rfl
    have eB : ∀ x, asB (resC (some ([.one (.b x)], [])) 0 0) = x := fun _ => rfl
    have ev : ∀ x, t82 [[.i .i64 n1], [.i .i64 n2], [.i .i64 n3], [.i .i64 n4], [.i .i64 n5], [.i .i64 n6], [.i .i64 n7], [.i .i64 x], [.i .i64 (l9.length : Int)]] = some ([.one (.s (varS n1 ++ varS n2 ++ varS n3 ++ varS n4 ++ varS n5 ++ varS n6 ++ varS n7 ++ varS x ++ varS (l9.length : Int)))], []) := fun x => by
      rw [vars_eq _ (by intro r hr; simp only [List.mem_cons, List.not_mem_nil, or_false] at hr; rcases hr with rfl | rfl | rfl | rfl | rfl | rfl | rfl | rfl | rfl <;> rfl) (by simp)]
      simp only [varsR, nthD, asI]
      rw [show (⟨#[]⟩ : ByteArray) ++ varS n1 = varS n1 from ByteArray.empty_append]
    have a1 := varS_size n1; have a2 := varS_size n2; have a3 := varS_size n3; have a4 := varS_size n4; have a5 := varS_size n5; have a6 := varS_size n6; have a7 := varS_size n7; have a8 := varS_size (yesI b8); have a9 := varS_size (l9.length : Int)
    have e0 : (⟨#[109]⟩ : ByteArray).size = 1 := rfl
    generalize ht : varS n1 ++ varS n2 ++ varS n3 ++ varS n4 ++ varS n5 ++ varS n6 ++ varS n7 ++ varS (yesI b8) ++ varS (l9.length : Int) = t
    have hts : t.size ≤ 90 := by rw [← ht]; simp only [ByteArray.size_append]; omega
    have key := fun q m hm n46 l60 => showM_impl n1 n2 n3 n4 n5 n6 n7 b8 l9 s10 ⟨#[]⟩ n46 false b8 n1 n2 n3 n4 n5 n6 n7 b8 l9 s10 l60 q l9 h h4 hd l9.length 0 m (⟨#[109]⟩ ++ t) .undef (by omega) hm (by simp only [ByteArray.size_append]; omega)
    have zz := entS_size l9 hd l9.length 0 (⟨#[109]⟩ ++ t)
    simp only [ByteArray.size_append] at zz
    have f1 : (entS l9 l9.length 0 (⟨#[109]⟩ ++ t)).size + s10.size ≤ lim := by unfold lim; omega
    have f2 : (⟨#[109]⟩ : ByteArray).size + t.size ≤ lim := by unfold lim; omega
    have fin : msgS n1 n2 n3 n4 n5 n6 n7 b8 l9 s10 = entS l9 l9.length 0 (⟨#[109]⟩ ++ t) ++ s10 := by simp only [msgS, hc, if_true, ht]
    rw [fin]
    cases b8
    · have ht' : varS n1 ++ varS n2 ++ varS n3 ++ varS n4 ++ varS n5 ++ varS n6 ++ varS n7 ++ varS 0 ++ varS (l9.length : Int) = t := ht
      simp only [t49, eo, hc, ew, ew3, eb, eB, ev, ht', chk_true, Bool.not_true, Bool.false_eq_true, if_false, chk_ok (decide_eq_true f2)]
      refine Eq.trans (key _ KK (by rw [KK_eq]; omega) _ _) ?_
      rw [chk_ok (decide_eq_true f1)]
    · have ht' : varS n1 ++ varS n2 ++ varS n3 ++ varS n4 ++ varS n5 ++ varS n6 ++ varS n7 ++ varS 1 ++ varS (l9.length : Int) = t := ht
      simp only [t49, eo, hc, ew, ew3, eb, eB, ev, ht', chk_true, Bool.not_true, Bool.false_eq_true, if_false, if_true, chk_ok (decide_eq_true f2)]
      refine Eq.trans (key _ KK (by rw [KK_eq]; omega) _ _) ?_
      rw [chk_ok (decide_eq_true f1)]
theorem law11 (n1 n2 n3 n4 n5 n6 n7 : Int) (b8 : Bool) (l9 : List (List D)) (h1 : l9.length ≤ maxLen) (h : ∀ r ∈ l9, typL shEntry r) (s10 : ByteArray) (h2 : s10.size ≤ maxLen) : t11 n1 n2 n3 n4 n5 n6 n7 b8 l9 s10 = some ([.one (.b true)], []) := by
  obtain ⟨y, hy, _, hz⟩ := szMsg_ok n1 n2 n3 n4 n5 n6 n7 b8 l9 s10 h1 h h2 1048576 (by omega) (by omega)
  by_cases hn : y < 0
  · simp [t11, hy, hn, zr36, zo36]
  · have hs := hz (by omega)
    have hl : l9.length ≤ 1048576 := hs.2.2.2.2.2.2.2.2.1.1
    have hsz : ∀ r ∈ l9, szdL shEntry r := hs.2.2.2.2.2.2.2.2.1.2
    have hs10 : s10.size ≤ 1048576 := hs.2.2.2.2.2.2.2.2.2.1
    have hd : ∀ i, (asS (nthD (l9.getD i []) 1)).size ≤ 1048576 := fun i => by
      by_cases hi : i < l9.length
      · have hr := getD_row h (i := i) hi
        obtain ⟨a, b, er, _⟩ := Entry_row hr
        have := hsz _ (mem_getD hi)
        rw [er] at this ⊢
        exact this.2.1
      · have : l9.getD i [] = [] := by simp [List.getD, List.getElem?_eq_none (show l9.length ≤ i by omega)]
        rw [this]; exact Nat.zero_le _
    simp only [t11, hy, hn, toMsg_eq n1 n2 n3 n4 n5 n6 n7 b8 l9 s10 hl h hsz, showMsg_spec _ _ _ _ _ _ _ _ l9 _ hl h hd hs10, showMsg_impl _ _ _ _ _ _ _ _ l9 _ hl h hd hs10, eqMsg_self _ _ _ _ _ _ _ _ l9 _ hl h, zr36, zo36, zr38, zo38, zr48, zo48, zr49, zo49, zr40, zo40, okR, isVs, isV, isD, isDs, isOs, resC, nthR, cellsDV, nthD, asB, asI, asS, asL, Bool.and_true, chk_true, decide_true, decide_false, Bool.false_eq_true, if_false, BEq.rfl, Bool.not_true]
end Go.Den.L11
