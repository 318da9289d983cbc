/- Plain laws about what the functions compute; no condition. -/
import Derived.Test.YtkokejemgekfaaaL6Tw
import Derived.IntWalk
set_option linter.unusedVariables false
set_option linter.unusedSimpArgs false
/- How twins are taken apart. -/
namespace Go.Den.L6
open Go Go.IntWalk
theorem chk_true (x : Rs) : chk true x = x := rfl
theorem chk_ok {b : Bool} (h : b = true) (x : Rs) : chk b x = x := by rw [h]; rfl
attribute [simp] chk_true okR isVs isV isD isDs isOs resC outC nthR nthO cellsDV nthD asB asI asS asL
theorem bool_some (a b : Bool) (h : a = b) : (some ([DV.one (.b a)], ([] : List (List D))) : Rs) = some ([.one (.b b)], []) := by rw [h]
theorem nil_toList : (⟨#[]⟩ : ByteArray).toList = [] := by rw [ByteArray.toList_eq]
theorem toList_nil (s : ByteArray) : s.toList = [] ↔ (s.size : Int) = 0 := by
  have e : s.size = s.data.toList.length := by rw [Array.length_toList]; rfl
  rw [ByteArray.toList_eq, e]
  cases s.data.toList <;> simp <;> omega
theorem toList_isEmpty (s : ByteArray) : s.toList.isEmpty = decide ((s.size : Int) = 0) := by
  rw [Bool.eq_iff_iff, List.isEmpty_iff, toList_nil]; simp
attribute [simp] nil_toList toList_nil toList_isEmpty
theorem KK_eq : KK = 18446744073709551616 := Classical.choose_spec (⟨2 ^ 64, rfl⟩ : ∃ n : Nat, n = 2 ^ 64)
theorem w64_in (n : Int) (h : -9223372036854775808 ≤ n ∧ n ≤ 9223372036854775807) : w64 n = n := i64_in n h
theorem getD_in {l : List (List D)} {i : Nat} (hi : i < l.length) : l.getD i [] = l[i] := by simp [List.getD, hi]
theorem getD_row {l : List (List D)} {es : List Sh} (h : ∀ r ∈ l, typL es r) {i : Nat} (hi : i < l.length) : typL es (l.getD i []) := by
  rw [getD_in hi]; exact h _ (List.getElem_mem hi)
theorem w64_succ (i : Nat) (h : i < 4611686018427387904) : w64 ((i : Int) + 1) = ((i + 1 : Nat) : Int) := by
  rw [w64_in _ (by omega)]; rfl
end Go.Den.L6

/- Calls, slots. -/
namespace Go.Den.L6
open Go
theorem within_eq (a b c : Int) : t62 a b c = some ([.one (.b (decide (b ≤ a) && decide (a ≤ c)))], []) := rfl
theorem in_eq (a b c : Int) : t60 a b c = some ([.one (.b (decide (b ≤ a) && decide (a ≤ c)))], []) := rfl
def callOk (k : Int) (p t : ByteArray) (n m : Int) (d : ByteArray) : Bool :=
  decide (1 ≤ k ∧ k ≤ 22 ∧ (p.size : Int) ≤ 60 ∧ (t.size : Int) ≤ 60 ∧ (d.size : Int) ≤ 64 ∧ -1000000 ≤ n ∧ n ≤ 1000000 ∧ -1000000 ≤ m ∧ m ≤ 1000000 ∧ ((t.size : Int) = 0 ∨ k = 9 ∨ k = 10 ∨ k = 12) ∧ ((d.size : Int) = 0 ∨ k = 5 ∨ k = 6))
theorem callOk_spec (k : Int) (p t : ByteArray) (n m : Int) (d : ByteArray) : t61 k p t n m d = some ([.one (.b (callOk k p t n m d))], []) := by
  simp [-ByteArray.size_eq_zero_iff, t61, in_eq, zr60, zo60, nil_toList, callOk]
  (repeat' split) <;> (apply bool_some; rw [Bool.eq_iff_iff]; simp [-ByteArray.size_eq_zero_iff]; omega)
theorem callOk_impl (k : Int) (p t : ByteArray) (n m : Int) (d : ByteArray) : t63 k p t n m d = some ([.one (.b (callOk k p t n m d))], []) := by
  simp [-ByteArray.size_eq_zero_iff, t63, within_eq, zr62, zo62, nil_toList, callOk]
  (repeat' split) <;> (apply bool_some; rw [Bool.eq_iff_iff]; simp [-ByteArray.size_eq_zero_iff]; omega)
end Go.Den.L6

/- Slots; sizes. -/
namespace Go.Den.L6
open Go
def slotOk (a b c k : Int) (p t : ByteArray) (n m : Int) (d : ByteArray) : Bool :=
  decide (0 ≤ a ∧ a ≤ 2 ∧ 1 ≤ b ∧ b ≤ 3 ∧ 1 ≤ c ∧ c ≤ 1000000) && callOk k p t n m d
theorem slotOk_spec (a b c k : Int) (p t : ByteArray) (n m : Int) (d : ByteArray) : t16 a b c k p t n m d = some ([.one (.b (slotOk a b c k p t n m d))], []) := by
  simp [-ByteArray.size_eq_zero_iff, t16, in_eq, callOk_spec, zr60, zo60, zr61, zo61, slotOk]
  rw [Bool.eq_iff_iff]; simp [-ByteArray.size_eq_zero_iff]; omega
theorem slotOk_impl (a b c k : Int) (p t : ByteArray) (n m : Int) (d : ByteArray) : t18 a b c k p t n m d = some ([.one (.b (slotOk a b c k p t n m d))], []) := by
  simp [-ByteArray.size_eq_zero_iff, t18, within_eq, callOk_impl, zr62, zo62, zr63, zo63, slotOk]
  rw [Bool.eq_iff_iff]; simp [-ByteArray.size_eq_zero_iff]; omega
theorem toCall_eq (k : Int) (p t : ByteArray) (n m : Int) (d : ByteArray) : t25 k p t n m d = some ([.agg [.i .i64 k, .s p, .s t, .i .i64 n, .i .i64 m, .s d]], []) := rfl
theorem toSlot_eq (a b c k : Int) (p t : ByteArray) (n m : Int) (d : ByteArray) : t17 a b c k p t n m d = some ([.agg [.i .i64 a, .i .i64 b, .i .i64 c, .i .i64 k, .s p, .s t, .i .i64 n, .i .i64 m, .s d]], []) := rfl
theorem szCall_eq (k : Int) (p t : ByteArray) (n m : Int) (d : ByteArray) (z : Int) : ∃ y, t23 k p t n m d z = some ([.one (.i .i64 y)], []) := by
  simp only [t23]; (repeat' split) <;> exact ⟨_, rfl⟩
theorem szSlot_eq (a b c k : Int) (p t : ByteArray) (n m : Int) (d : ByteArray) (z : Int) : ∃ y, t15 a b c k p t n m d z = some ([.one (.i .i64 y)], []) := by
  obtain ⟨y, hy⟩ := szCall_eq k p t n m d z
  simp [-ByteArray.size_eq_zero_iff, t15, hy, zr23, zo23]; (repeat' split) <;> exact ⟨_, rfl⟩
end Go.Den.L6

/- Frames. -/
namespace Go.Den.L6
open Go
abbrev slotSh : List Sh := [.i .i64, .i .i64, .i .i64, .i .i64, .s, .s, .i .i64, .i .i64, .s]
theorem slot_row {r : List D} (h : typL slotSh r) : ∃ a b c k p t n m d, r = [.i .i64 a, .i .i64 b, .i .i64 c, .i .i64 k, .s p, .s t, .i .i64 n, .i .i64 m, .s d] := by
  obtain ⟨_, _, rfl, ⟨a, rfl, _⟩, ⟨_, _, rfl, ⟨b, rfl, _⟩, ⟨_, _, rfl, ⟨c, rfl, _⟩, ⟨_, _, rfl, ⟨k, rfl, _⟩, ⟨_, _, rfl, ⟨p, rfl, _⟩, ⟨_, _, rfl, ⟨t, rfl, _⟩, ⟨_, _, rfl, ⟨n, rfl, _⟩, ⟨_, _, rfl, ⟨m, rfl, _⟩, ⟨_, _, rfl, ⟨d, rfl, _⟩, rfl⟩⟩⟩⟩⟩⟩⟩⟩⟩ := h
  exact ⟨a, b, c, k, p, t, n, m, d, rfl⟩
theorem szSlotS_loop (n0 : Int) (b0 : Bool) (q1 : Int → Int → Bool → Bool → Rs) (q2 : Int → Int → Bool → SV → Rs) (h1 : ∀ a b c d, ∃ y, q1 a b c d = some ([.one (.i .i64 y)], [])) (h2 : ∀ a b c d, ∃ y, q2 a b c d = some ([.one (.i .i64 y)], []))
    (l : List (List D)) (h : ∀ r ∈ l, typL slotSh r) (hl : l.length < 4611686018427387904) : ∀ (k i m : Nat) (n : Int) (v w : SV), i + k = l.length → k < m → ∃ y, l28o1 l n0 b0 q1 q2 m n i v w = some ([.one (.i .i64 y)], []) := by
  intro k
  induction k with
  | zero =>
    intro i m n v w e hm
    obtain ⟨m, rfl⟩ : ∃ m', m = m' + 1 := ⟨m - 1, by omega⟩
    simp only [l28o1]
    rw [if_neg (by simp; omega)]
    exact h2 _ _ _ _
  | succ k ih =>
    intro i m n v w e hm
    obtain ⟨m, rfl⟩ : ∃ m', m = m' + 1 := ⟨m - 1, by omega⟩
    simp only [l28o1]
    rw [if_pos (by simp; omega)]
    have hr := getD_row h (i := i) (by omega)
    simp only [Int.toNat_natCast]
    obtain ⟨a, b, c, kk, p, t, x, y, d, er⟩ := slot_row hr
    obtain ⟨z, hz⟩ := szSlot_eq a b c kk p t x y d n
    have ei : (decide ((0 : Int) ≤ (i : Int)) && decide ((i : Int) < (l.length : Int))) = true := by simp; omega
    have ez : isRow z25 [.i .i64 a, .i .i64 b, .i .i64 c, .i .i64 kk, .s p, .s t, .i .i64 x, .i .i64 y, .s d] = true := rfl
    simp only [er, ei, ez, nthD, asI, asS, hz, resC, nthR, cellsDV, okR, isVs, isV, isD, isOs, zr15, zo15, Bool.and_true, BEq.rfl, chk_true]
    split
    · exact h1 _ _ _ _
    · rw [w64_succ i (by omega)]
      exact ih (i + 1) m z _ _ (by omega) (by omega)
theorem szSlotS_eq (l : List (List D)) (h : ∀ r ∈ l, typL slotSh r) (hl : l.length ≤ maxLen) : ∃ y, t28 l 1048576 = some ([.one (.i .i64 y)], []) ∧ (0 ≤ y → l.length ≤ 1048576) := by
  have e : w64 (1048576 - (l.length : Int)) = 1048576 - (l.length : Int) := w64_in _ (by simp only [maxLen] at hl; omega)
  simp only [t28, e]
  split
  · exact ⟨-1, rfl, by omega⟩
  · rename_i hn
    simp only [decide_eq_true_eq] at hn
    obtain ⟨y, hy⟩ := szSlotS_loop 0 (decide (1048576 - (l.length : Int) < 0)) _ _ (fun _ _ _ _ => ⟨-1, rfl⟩) (fun a _ _ _ => ⟨a, rfl⟩) l h (by omega) l.length 0 KK (1048576 - (l.length : Int)) .undef .undef (by omega) (by rw [KK_eq]; omega)
    exact ⟨y, hy, by omega⟩
theorem modify_mid {α : Type} (f : α → α) : ∀ (a : List α) (x : α) (b : List α), (a ++ x :: b).modify a.length f = a ++ f x :: b
  | [], x, b => by simp
  | y :: a, x, b => by simp [modify_mid f a x b]
theorem stR_at (l : List (List D)) (i k : Nat) (z ys : List D) (hz : z.length ≤ ys.length) (e : i + (k + 1) = l.length) (hy : l.getD i [] = ys) : stR (l.take i ++ List.replicate (k + 1) z) i 0 ys = l.take (i + 1) ++ List.replicate k z := by
  have hi : i < l.length := by omega
  rw [getD_in hi] at hy
  have hl : (l.take i).length = i := by simp; omega
  have key := modify_mid (fun r => r.take 0 ++ ys ++ r.drop (0 + ys.length)) (l.take i) z (List.replicate k z)
  rw [hl] at key
  unfold stR
  rw [List.replicate_succ, key, List.take_succ_eq_append_getElem hi, hy]
  simp [List.drop_eq_nil_of_le hz]
theorem toSlotS_loop (q : Int → Bool → List (List D) → Rs) (l : List (List D)) (h : ∀ r ∈ l, typL slotSh r) (hl : l.length < 4611686018427387904) : ∀ (k i m : Nat) (v : SV), i + k = l.length → k < m →
    l30o0 l q m i v (l.take i ++ List.replicate k z30) = q l.length false l := by
  intro k
  induction k with
  | zero =>
    intro i m v e hm
    obtain ⟨m, rfl⟩ : ∃ m', m = m' + 1 := ⟨m - 1, by omega⟩
    have ei : decide ((i : Int) < (l.length : Int)) = false := by simp; omega
    have e0 : i = l.length := by omega
    simp only [l30o0, ei, e0]
    simp
  | succ k ih =>
    intro i m v e hm
    obtain ⟨m, rfl⟩ : ∃ m', m = m' + 1 := ⟨m - 1, by omega⟩
    have hr := getD_row h (i := i) (by omega)
    obtain ⟨a, b, c, kk, p, t, x, y, d, er⟩ := slot_row hr
    have e1 : decide ((i : Int) < (l.length : Int)) = true := by simp; omega
    have e2 : decide ((0 : Int) ≤ (i : Int)) = true := by simp
    have e3 : decide ((i : Int) < ((l.take i ++ List.replicate (k + 1) z30).length : Int)) = true := by simp; omega
    have e4 : decide (9 ≤ 9 ∧ i < (l.take i ++ List.replicate (k + 1) z30).length) = true := by simp; omega
    have ez : isRow z25 [.i .i64 a, .i .i64 b, .i .i64 c, .i .i64 kk, .s p, .s t, .i .i64 x, .i .i64 y, .s d] = true := rfl
    have ew : okR zr17 zo17 (some ([.agg [.i .i64 a, .i .i64 b, .i .i64 c, .i .i64 kk, .s p, .s t, .i .i64 x, .i .i64 y, .s d]], [])) = true := rfl
    simp only [l30o0, e1, e2, Int.toNat_natCast, er, ez, toSlot_eq, nthD, asI, asS, resC, nthR, cellsDV, ew, e3, e4, Bool.and_true, chk_true, if_true]
    rw [stR_at l i k _ _ (by simp [z30]) e er, w64_succ i (by omega)]
    exact ih (i + 1) m _ (by omega) (by omega)
theorem toSlotS_eq (l : List (List D)) (h : ∀ r ∈ l, typL slotSh r) (hl : l.length ≤ 1048576) : t30 l = some ([.one (.l l)], []) := by
  unfold t30
  have e1 : l.length ≤ lim := by unfold lim; omega
  have := toSlotS_loop (fun _ _ l => some ([.one (.l l)], [])) l h (by omega) l.length 0 KK .undef (by omega) (by rw [KK_eq]; omega)
  simpa [e1] using this
theorem eqSlot_self (a b c k : Int) (p t : ByteArray) (n m : Int) (d : ByteArray) : t68 a b c k p t n m d a b c k p t n m d = some ([.one (.b true)], []) := by
  have : t65 k p t n m d k p t n m d = some ([.one (.b true)], []) := by simp [t65]
  simp [t68, this, zr65, zo65]
theorem eqSlotS_loop (b0 b1 : Bool) (q1 : Int → Bool → Bool → Rs) (q2 : Int → Bool → SV → Rs) (h2 : ∀ a b c, q2 a b c = some ([.one (.b true)], [])) (l : List (List D)) (h : ∀ r ∈ l, typL slotSh r) (hl : l.length < 4611686018427387904) : ∀ (k i m : Nat) (v w : SV), i + k = l.length → k < m →
    l32o1 l l b0 b1 q1 q2 m i v w = some ([.one (.b true)], []) := by
  intro k
  induction k with
  | zero =>
    intro i m v w e hm
    obtain ⟨m, rfl⟩ : ∃ m', m = m' + 1 := ⟨m - 1, by omega⟩
    have ei : decide ((i : Int) < (l.length : Int)) = false := by simp; omega
    simp only [l32o1, ei, h2]
    simp
  | succ k ih =>
    intro i m v w e hm
    obtain ⟨m, rfl⟩ : ∃ m', m = m' + 1 := ⟨m - 1, by omega⟩
    have hr := getD_row h (i := i) (by omega)
    obtain ⟨a, b, c, kk, p, t, x, y, d, er⟩ := slot_row hr
    have e1 : decide ((i : Int) < (l.length : Int)) = true := by simp; omega
    have e2 : decide ((0 : Int) ≤ (i : Int)) = true := by simp
    have ez : isRow z30 [.i .i64 a, .i .i64 b, .i .i64 c, .i .i64 kk, .s p, .s t, .i .i64 x, .i .i64 y, .s d] = true := rfl
    have ew : okR zr68 zo68 (some ([.one (.b true)], [])) = true := rfl
    simp only [l32o1, e1, e2, Int.toNat_natCast, er, ez, eqSlot_self, nthD, asI, asS, asB, resC, nthR, cellsDV, ew, Bool.and_true, chk_true, if_true, Bool.not_true, Bool.false_eq_true, if_false]
    rw [w64_succ i (by omega)]
    exact ih (i + 1) m _ _ (by omega) (by omega)
theorem eqSlotS_self (l : List (List D)) (h : ∀ r ∈ l, typL slotSh r) (hl : l.length ≤ 1048576) : t32 l l = some ([.one (.b true)], []) := by
  unfold t32
  have := eqSlotS_loop false false (fun _ _ _ => some ([.one (.b false)], [])) (fun _ _ _ => some ([.one (.b true)], [])) (fun _ _ _ => rfl) l h (by omega) l.length 0 KK .undef .undef (by omega) (by rw [KK_eq]; omega)
  simpa using this
def rowOk (r : List D) : Bool := slotOk (asI (nthD r 0)) (asI (nthD r 1)) (asI (nthD r 2)) (asI (nthD r 3)) (asS (nthD r 4)) (asS (nthD r 5)) (asI (nthD r 6)) (asI (nthD r 7)) (asS (nthD r 8))
def tn (l : List (List D)) (i : Nat) : Int := asI (nthD (l.getD i []) 0)
theorem row_ok (l : List (List D)) (h : ∀ r ∈ l, typL slotSh r) (i : Nat) (hi : i < l.length) : isRow z30 (l.getD i []) = true := by
  obtain ⟨a, b, c, kk, p, t, x, y, d, er⟩ := slot_row (getD_row h hi)
  rw [er]; rfl
theorem nat_in {i n : Nat} (h : i < n) : decide ((i : Int) < (n : Int)) = true := by simp; omega
theorem nat_pos (i : Nat) : decide ((0 : Int) ≤ (i : Int)) = true := by simp
def sbad (l : List (List D)) (i : Nat) : Bool := !rowOk (l.getD i []) || (decide (1 ≤ i) && decide (tn l (i - 1) > tn l i)) || (decide (2 ≤ i) && decide (tn l (i - 2) = tn l i))
theorem spec_step (l : List (List D)) (h : ∀ r ∈ l, typL slotSh r) (hl : l.length ≤ 1048576) (b0 : Bool) (q1 : Int → Bool → Bool → Rs) (q2 : Int → Bool → SV → Rs) (i m : Nat) (v w : SV) (hi : i < l.length) :
    l66o0 l 2 b0 q1 q2 (m + 1) i v w = if sbad l i then q1 i true true else l66o0 l 2 b0 q1 q2 m ((i + 1 : Nat) : Int) (.d (.b true)) (.d (.b false)) := by
  have e1 := nat_in hi
  have hi0 := row_ok l h i hi
  have hw := w64_succ i (by omega)
  have ew : ∀ b, okR zr16 zo16 (some ([.one (.b b)], [])) = true := fun _ => rfl
  have er : ∀ r : List D, t16 (asI (nthD r 0)) (asI (nthD r 1)) (asI (nthD r 2)) (asI (nthD r 3)) (asS (nthD r 4)) (asS (nthD r 5)) (asI (nthD r 6)) (asI (nthD r 7)) (asS (nthD r 8)) = some ([.one (.b (rowOk r))], []) := fun r => slotOk_spec _ _ _ _ _ _ _ _ _
  have eb : ∀ b, asB (resC (some ([.one (.b b)], [])) 0 0) = b := fun _ => rfl
  simp only [l66o0, e1, nat_pos, Int.toNat_natCast, hi0, er, ew, eb, Bool.and_true, Bool.true_or, chk_true, if_true, hw]
  by_cases h1 : 1 ≤ i
  · obtain ⟨j, hj⟩ : ∃ j, j + 1 = i := ⟨i - 1, by omega⟩
    have g0 : decide ((i : Int) > 0) = true := by simp; omega
    have e4 : w64 ((i : Int) - 1) = (j : Int) := by rw [w64_in _ (by omega)]; omega
    have f1 := row_ok l h j (by omega)
    have f0 := nat_in (i := j) (n := l.length) (by omega)
    have k1 : decide (1 ≤ i) = true := by simpa using h1
    have j1 : i - 1 = j := by omega
    by_cases h2 : 2 ≤ i
    · obtain ⟨k, hk⟩ : ∃ k, k + 2 = i := ⟨i - 2, by omega⟩
      have g1 : decide ((i : Int) ≥ 2) = true := by simp; omega
      have e5 : w64 ((i : Int) - 2) = (k : Int) := by rw [w64_in _ (by omega)]; omega
      have f2 := row_ok l h k (by omega)
      have f3 := nat_in (i := k) (n := l.length) (by omega)
      have k2 : decide (2 ≤ i) = true := by simpa using h2
      have j2 : i - 2 = k := by omega
      have e : sbad l i = (!rowOk (l.getD i []) || decide (asI (nthD (l.getD j []) 0) > asI (nthD (l.getD i []) 0)) || asI (nthD (l.getD k []) 0) == asI (nthD (l.getD i []) 0)) := by
        simp only [sbad, k1, k2, j1, j2, Bool.true_and, tn]; rfl
      simp only [e4, e5, Int.toNat_natCast, f0, f1, f2, f3, g0, g1, nat_pos, Bool.and_true, Bool.true_or, Bool.true_and, chk_true]
      rw [← e]; cases sbad l i <;> rfl
    · have g1 : decide ((i : Int) ≥ 2) = false := by simp; omega
      have k2 : decide (2 ≤ i) = false := by simpa using h2
      have e : sbad l i = (!rowOk (l.getD i []) || decide (asI (nthD (l.getD j []) 0) > asI (nthD (l.getD i []) 0))) := by
        simp only [sbad, k1, k2, j1, Bool.true_and, Bool.false_and, Bool.or_false, tn]
      simp only [e4, Int.toNat_natCast, f0, f1, g0, g1, nat_pos, Bool.and_true, Bool.true_or, Bool.true_and, Bool.and_false, Bool.not_false, Bool.or_true, Bool.false_and, Bool.or_false, chk_true]
      rw [← e]; cases sbad l i <;> rfl
  · have g0 : decide ((i : Int) > 0) = false := by simp; omega
    have g1 : decide ((i : Int) ≥ 2) = false := by simp; omega
    have k1 : decide (1 ≤ i) = false := by simpa using h1
    have k2 : decide (2 ≤ i) = false := by simp; omega
    have e : sbad l i = !rowOk (l.getD i []) := by simp only [sbad, k1, k2, Bool.false_and, Bool.or_false]
    simp only [g0, g1, Bool.and_false, Bool.not_false, Bool.or_true, chk_true, Bool.false_and, Bool.or_false]
    rw [← e]; cases sbad l i <;> rfl
def ic (l : List (List D)) (i : Nat) (r : Int) : Int := if (decide (1 ≤ i) && (tn l (i - 1) != tn l i)) = true then 1 else r + 1
def ib (l : List (List D)) (i : Nat) (r : Int) : Bool := (!rowOk (l.getD i []) || (decide (1 ≤ i) && decide (tn l (i - 1) > tn l i))) || decide (ic l i r > 2)
theorem impl_step (l : List (List D)) (h : ∀ r ∈ l, typL slotSh r) (hl : l.length ≤ 1048576) (b0 : Bool) (q1 : Int → Int → Bool → Bool → Bool → Int → Int → Int → Int → ByteArray → ByteArray → Int → Int → ByteArray → Rs) (q2 : Int → SV → Int → Bool → SV → SV → Rs)
    (hq : ∀ a b c d e f g h i j k l m n, q1 a b c d e f g h i j k l m n = some ([.one (.b false)], [])) (i m : Nat) (r : Int) (hr : 0 ≤ r ∧ r ≤ 2) (v w x y : SV) (hi : i < l.length) :
    (ib l i r = true → l67o0 l 2 b0 l (l.length : Int) q1 q2 (m + 1) r v i w x y = some ([.one (.b false)], [])) ∧
    (ib l i r = false → ∃ v' w' x' y', l67o0 l 2 b0 l (l.length : Int) q1 q2 (m + 1) r v i w x y = l67o0 l 2 b0 l (l.length : Int) q1 q2 m (ic l i r) v' ((i + 1 : Nat) : Int) w' x' y') := by
  have e1 := nat_in hi
  have hi0 := row_ok l h i hi
  have hw := w64_succ i (by omega)
  have hr1 : w64 (r + 1) = r + 1 := w64_in _ (by omega)
  have ew : ∀ b, okR zr18 zo18 (some ([.one (.b b)], [])) = true := fun _ => rfl
  have er : ∀ r : List D, t18 (asI (nthD r 0)) (asI (nthD r 1)) (asI (nthD r 2)) (asI (nthD r 3)) (asS (nthD r 4)) (asS (nthD r 5)) (asI (nthD r 6)) (asI (nthD r 7)) (asS (nthD r 8)) = some ([.one (.b (rowOk r))], []) := fun r => slotOk_impl _ _ _ _ _ _ _ _ _
  have eb : ∀ b, asB (resC (some ([.one (.b b)], [])) 0 0) = b := fun _ => rfl
  have fin : ∀ (bb cc : Bool) (A : Rs) (B : SV → SV → SV → SV → Rs) (v w x y : SV), bb = cc → A = some ([.one (.b false)], []) → (cc = true → (if bb = true then A else B v w x y) = some ([.one (.b false)], [])) ∧ (cc = false → ∃ v' w' x' y', (if bb = true then A else B v w x y) = B v' w' x' y') := by
    intro bb cc A B v w x y hb hA
    subst hb
    exact ⟨fun hh => by rw [if_pos hh, hA], fun hh => ⟨v, w, x, y, by rw [if_neg (by simp [hh])]⟩⟩
  simp only [l67o0, e1, nat_pos, Int.toNat_natCast, hi0, er, ew, eb, Bool.and_true, Bool.true_or, chk_true, if_true, hw, hr1]
  by_cases h1 : 1 ≤ i
  · obtain ⟨j, hj⟩ : ∃ j, j + 1 = i := ⟨i - 1, by omega⟩
    have g0 : decide ((i : Int) > 0) = true := by simp; omega
    have e4 : w64 ((i : Int) - 1) = (j : Int) := by rw [w64_in _ (by omega)]; omega
    have f1 := row_ok l h j (by omega)
    have f0 := nat_in (i := j) (n := l.length) (by omega)
    have k1 : decide (1 ≤ i) = true := by simpa using h1
    have j1 : i - 1 = j := by omega
    have c1 : ic l i r = if (asI (nthD (l.getD j []) 0) != asI (nthD (l.getD i []) 0)) = true then 1 else r + 1 := by
      simp only [ic, k1, j1, Bool.true_and, tn]
    have c2 : ib l i r = ((!rowOk (l.getD i []) || decide (asI (nthD (l.getD j []) 0) > asI (nthD (l.getD i []) 0))) || decide (ic l i r > 2)) := by
      simp only [ib, k1, j1, Bool.true_and, tn]
    simp only [e4, Int.toNat_natCast, f0, f1, g0, nat_pos, Bool.and_true, Bool.true_or, Bool.true_and, chk_true]
    cases hb : (asI (nthD (l.getD j []) 0) != asI (nthD (l.getD i []) 0))
    · rw [hb] at c1
      simp only [Bool.false_eq_true, if_false] at c1 ⊢
      rw [c1] at c2 ⊢
      exact fin _ _ _ (fun v' w' x' y' => l67o0 l 2 b0 l (l.length : Int) q1 q2 m (r + 1) v' ((i + 1 : Nat) : Int) w' x' y') _ _ _ _ c2.symm (hq _ _ _ _ _ _ _ _ _ _ _ _ _ _)
    · rw [hb] at c1
      simp only [if_true] at c1 ⊢
      rw [c1] at c2 ⊢
      exact fin _ _ _ (fun v' w' x' y' => l67o0 l 2 b0 l (l.length : Int) q1 q2 m 1 v' ((i + 1 : Nat) : Int) w' x' y') _ _ _ _ c2.symm (hq _ _ _ _ _ _ _ _ _ _ _ _ _ _)
  · have g0 : decide ((i : Int) > 0) = false := by simp; omega
    have k1 : decide (1 ≤ i) = false := by simpa using h1
    have c1 : ic l i r = r + 1 := by simp only [ic, k1, Bool.false_and, Bool.false_eq_true, if_false]
    have c2 : ib l i r = (!rowOk (l.getD i []) || decide (ic l i r > 2)) := by simp only [ib, k1, Bool.false_and, Bool.or_false]
    simp only [g0, Bool.and_false, Bool.not_false, Bool.or_true, chk_true, Bool.false_and, Bool.or_false, Bool.false_eq_true, if_false]
    rw [c1] at c2 ⊢
    exact fin _ _ _ (fun v' w' x' y' => l67o0 l 2 b0 l (l.length : Int) q1 q2 m (r + 1) v' ((i + 1 : Nat) : Int) w' x' y') _ _ _ _ c2.symm (hq _ _ _ _ _ _ _ _ _ _ _ _ _ _)
theorem frame_joint (l : List (List D)) (h : ∀ r ∈ l, typL slotSh r) (hl : l.length ≤ 1048576) (b0 b1 : Bool) (q1 : Int → Bool → Bool → Rs) (q2 : Int → Bool → SV → Rs) (p1 : Int → Int → Bool → Bool → Bool → Int → Int → Int → Int → ByteArray → ByteArray → Int → Int → ByteArray → Rs) (p2 : Int → SV → Int → Bool → SV → SV → Rs)
    (hq1 : ∀ a b c, q1 a b c = some ([.one (.b false)], [])) (hq2 : ∀ a b c, q2 a b c = some ([.one (.b true)], [])) (hp1 : ∀ a b c d e f g h i j k l m n, p1 a b c d e f g h i j k l m n = some ([.one (.b false)], [])) (hp2 : ∀ a b c d e f, p2 a b c d e f = some ([.one (.b true)], [])) :
    ∀ (k i m : Nat) (r : Int) (v w v' w' x' y' : SV), i + k = l.length → k < m → 0 ≤ r → r ≤ 2 → (r = 0 ↔ i = 0) → (r = 2 ↔ 2 ≤ i ∧ tn l (i - 2) = tn l (i - 1)) → (2 ≤ i → tn l (i - 2) ≤ tn l (i - 1)) →
    ∃ b, l66o0 l 2 b0 q1 q2 m i v w = some ([.one (.b b)], []) ∧ l67o0 l 2 b1 l (l.length : Int) p1 p2 m r v' i w' x' y' = some ([.one (.b b)], []) := by
  intro k
  induction k with
  | zero =>
    intro i m r v w v' w' x' y' e hm _ _ _ _ _
    obtain ⟨m, rfl⟩ : ∃ m', m = m' + 1 := ⟨m - 1, by omega⟩
    have ei : decide ((i : Int) < (l.length : Int)) = false := by simp; omega
    refine ⟨true, ?_, ?_⟩
    · simp only [l66o0, ei, hq2]; simp
    · simp only [l67o0, ei, hp2]; simp
  | succ k ih =>
    intro i m r v w v' w' x' y' e hm h0 h2 hz ht hs
    obtain ⟨m, rfl⟩ : ∃ m', m = m' + 1 := ⟨m - 1, by omega⟩
    have hcv : ((1 ≤ i ∧ tn l (i - 1) ≠ tn l i) ∧ ic l i r = 1) ∨ (¬(1 ≤ i ∧ tn l (i - 1) ≠ tn l i) ∧ ic l i r = r + 1) := by
      by_cases hcc : 1 ≤ i ∧ tn l (i - 1) ≠ tn l i
      · exact Or.inl ⟨hcc, by unfold ic; rw [if_pos (by simp only [Bool.and_eq_true, decide_eq_true_eq, bne_iff_ne]; exact hcc)]⟩
      · exact Or.inr ⟨hcc, by unfold ic; rw [if_neg (by simp only [Bool.and_eq_true, decide_eq_true_eq, bne_iff_ne]; exact hcc)]⟩
    have hsb : sbad l i = true ↔ (rowOk (l.getD i []) = false ∨ (1 ≤ i ∧ tn l (i - 1) > tn l i)) ∨ (2 ≤ i ∧ tn l (i - 2) = tn l i) := by
      simp only [sbad, Bool.or_eq_true, Bool.and_eq_true, decide_eq_true_eq, Bool.not_eq_true']
    have hib : ib l i r = true ↔ (rowOk (l.getD i []) = false ∨ (1 ≤ i ∧ tn l (i - 1) > tn l i)) ∨ ic l i r > 2 := by
      simp only [ib, Bool.or_eq_true, Bool.and_eq_true, decide_eq_true_eq, Bool.not_eq_true']
    have key : sbad l i = ib l i r := by
      rw [Bool.eq_iff_iff, hsb, hib]
      by_cases hro : rowOk (l.getD i []) = false
      · simp only [hro, true_or]
      · have g1 : (rowOk (l.getD i []) = false) = False := eq_false hro
        rw [g1]
        constructor
        · rintro ((hx | hx) | hx)
          · exact hx.elim
          · exact .inl (.inr hx)
          · by_cases hg : tn l (i - 1) > tn l i
            · exact .inl (.inr ⟨by omega, hg⟩)
            · exact .inr (by omega)
        · rintro ((hx | hx) | hx)
          · exact hx.elim
          · exact .inl (.inr hx)
          · by_cases hg : 1 ≤ i ∧ tn l (i - 1) > tn l i
            · exact .inl (.inr hg)
            · exact .inr (by omega)
    have hc : ib l i r = false → (ic l i r = 2 ↔ 2 ≤ i + 1 ∧ tn l (i - 1) = tn l i) ∧ 1 ≤ ic l i r ∧ ic l i r ≤ 2 ∧ (2 ≤ i + 1 → tn l (i - 1) ≤ tn l i) := by
      intro hb
      have hn := mt hib.2 (by rw [hb]; simp)
      have n1 : ¬(1 ≤ i ∧ tn l (i - 1) > tn l i) := fun x => hn (.inl (.inr x))
      have n2 : ¬ ic l i r > 2 := fun x => hn (.inr x)
      refine ⟨?_, ?_, ?_, ?_⟩ <;> omega
    obtain ⟨s1, s2⟩ := impl_step l h hl b1 p1 p2 hp1 i m r ⟨h0, h2⟩ v' w' x' y' (by omega)
    rw [spec_step l h hl b0 q1 q2 i m v w (by omega), key]
    cases hb : ib l i r
    · obtain ⟨v1, w1, x1, y1, e1⟩ := s2 hb
      obtain ⟨c1, c2, c3, c4⟩ := hc hb
      rw [e1]
      have a1 : i + 1 - 2 = i - 1 := by omega
      have a2 : i + 1 - 1 = i := by omega
      have := ih (i + 1) m (ic l i r) (.d (.b true)) (.d (.b false)) v1 w1 x1 y1 (by omega) (by omega) (by omega) c3 (by omega) (by rw [a1, a2]; exact c1) (by rw [a1, a2]; exact c4)
      simpa using this
    · exact ⟨false, by rw [if_pos rfl, hq1], s1 hb⟩
theorem frameOk_both (l : List (List D)) (h : ∀ r ∈ l, typL slotSh r) (hl : l.length ≤ 1048576) : ∃ b, t29 l = some ([.one (.b b)], []) ∧ t31 l = some ([.one (.b b)], []) := by
  obtain ⟨b, e1, e2⟩ := frame_joint l h hl false false (fun _ _ _ => some ([.one (.b false)], [])) (fun _ _ _ => some ([.one (.b true)], [])) (fun _ _ _ _ _ _ _ _ _ _ _ _ _ _ => some ([.one (.b false)], [])) (fun _ _ _ _ _ _ => some ([.one (.b true)], []))
    (fun _ _ _ => rfl) (fun _ _ _ => rfl) (fun _ _ _ _ _ _ _ _ _ _ _ _ _ _ => rfl) (fun _ _ _ _ _ _ => rfl) l.length 0 KK 0 .undef .undef .undef .undef .undef .undef (by omega) (by rw [KK_eq]; omega) (by omega) (by omega) (by simp) (by simp) (by simp)
  refine ⟨b, ?_, ?_⟩
  · have : t66 l 2 = some ([.one (.b b)], []) := e1
    simp [t29, this, zr66, zo66]
  · have : t67 l 2 = some ([.one (.b b)], []) := e2
    simp [t31, this, zr67, zo67]
theorem law6 (l : List (List D)) (h1 : l.length ≤ maxLen) (h : ∀ r ∈ l, typL slotSh r) : t6 l = some ([.one (.b true)], []) := by
  obtain ⟨y, hy, hlen⟩ := szSlotS_eq l h h1
  by_cases hn : y < 0
  · simp [t6, hy, hn, zr28, zo28]
  · have hl := hlen (by omega)
    obtain ⟨b, k1, k2⟩ := frameOk_both l h hl
    simp [t6, hy, hn, toSlotS_eq l h hl, eqSlotS_self l h hl, k1, k2, zr28, zo28, zr30, zo30, zr29, zo29, zr31, zo31, zr32, zo32]
end Go.Den.L6
