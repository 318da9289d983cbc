/- Plain laws about what the functions compute; no condition. -/
import Derived.Test.YtkokejemgekfaaaL5Tw
set_option linter.unusedVariables false
set_option linter.unusedSimpArgs false
/- How twins are taken apart. -/
namespace Go.Den.L5
open Go
theorem chk_true (x : Rs) : chk true x = x := rfl
theorem chk_ok {b : Bool} (h : b = true) (x : Rs) : chk b x = x := by rw [h]; rfl
attribute [simp] chk_true okR isVs isV isD isDs isOs resC outC nthR nthO cellsDV nthD asB asI asS asL
theorem bool_some (a b : Bool) (h : a = b) : (some ([DV.one (.b a)], ([] : List (List D))) : Rs) = some ([.one (.b b)], []) := by rw [h]
theorem nil_toList : (⟨#[]⟩ : ByteArray).toList = [] := by rw [ByteArray.toList_eq]
theorem toList_nil (s : ByteArray) : s.toList = [] ↔ (s.size : Int) = 0 := by
  have e : s.size = s.data.toList.length := by rw [Array.length_toList]; rfl
  rw [ByteArray.toList_eq, e]
  cases s.data.toList <;> simp <;> omega
theorem toList_isEmpty (s : ByteArray) : s.toList.isEmpty = decide ((s.size : Int) = 0) := by
  rw [Bool.eq_iff_iff, List.isEmpty_iff, toList_nil]; simp
attribute [simp] nil_toList toList_nil toList_isEmpty
end Go.Den.L5

/- Calls, slots. -/
namespace Go.Den.L5
open Go
theorem within_eq (a b c : Int) : t62 a b c = some ([.one (.b (decide (b ≤ a) && decide (a ≤ c)))], []) := rfl
theorem in_eq (a b c : Int) : t60 a b c = some ([.one (.b (decide (b ≤ a) && decide (a ≤ c)))], []) := rfl
def callOk (k : Int) (p t : ByteArray) (n m : Int) (d : ByteArray) : Bool :=
  decide (1 ≤ k ∧ k ≤ 22 ∧ (p.size : Int) ≤ 60 ∧ (t.size : Int) ≤ 60 ∧ (d.size : Int) ≤ 64 ∧ -1000000 ≤ n ∧ n ≤ 1000000 ∧ -1000000 ≤ m ∧ m ≤ 1000000 ∧ ((t.size : Int) = 0 ∨ k = 9 ∨ k = 10 ∨ k = 12) ∧ ((d.size : Int) = 0 ∨ k = 5 ∨ k = 6))
theorem callOk_spec (k : Int) (p t : ByteArray) (n m : Int) (d : ByteArray) : t61 k p t n m d = some ([.one (.b (callOk k p t n m d))], []) := by
  simp [-ByteArray.size_eq_zero_iff, t61, in_eq, zr60, zo60, nil_toList, callOk]
  (repeat' split) <;> (apply bool_some; rw [Bool.eq_iff_iff]; simp [-ByteArray.size_eq_zero_iff]; omega)
theorem callOk_impl (k : Int) (p t : ByteArray) (n m : Int) (d : ByteArray) : t63 k p t n m d = some ([.one (.b (callOk k p t n m d))], []) := by
  simp [-ByteArray.size_eq_zero_iff, t63, within_eq, zr62, zo62, nil_toList, callOk]
  (repeat' split) <;> (apply bool_some; rw [Bool.eq_iff_iff]; simp [-ByteArray.size_eq_zero_iff]; omega)
end Go.Den.L5

/- Slots; sizes. -/
namespace Go.Den.L5
open Go
theorem toCall_eq (k : Int) (p t : ByteArray) (n m : Int) (d : ByteArray) : t25 k p t n m d = some ([.agg [.i .i64 k, .s p, .s t, .i .i64 n, .i .i64 m, .s d]], []) := rfl
theorem szCall_eq (k : Int) (p t : ByteArray) (n m : Int) (d : ByteArray) (z : Int) : ∃ y, t23 k p t n m d z = some ([.one (.i .i64 y)], []) := by
  simp only [t23]; (repeat' split) <;> exact ⟨_, rfl⟩
end Go.Den.L5

/- Clients. -/
namespace Go.Den.L5
open Go
def clientOk (a b c : Int) (w : Bool) (k : Int) (p t : ByteArray) (n m : Int) (d : ByteArray) (e : Int) : Bool :=
  decide (0 ≤ a ∧ a ≤ 2 ∧ 1 ≤ b ∧ b ≤ 3 ∧ 0 ≤ c ∧ c ≤ 1000000 ∧ 0 ≤ e ∧ e ≤ 1000000) && (if w then decide (1 ≤ c) && callOk k p t n m d else decide (k = 0 ∧ (p.size : Int) = 0 ∧ (t.size : Int) = 0 ∧ n = 0 ∧ m = 0 ∧ (d.size : Int) = 0 ∧ e = 0))
theorem clientOk_spec (a b c : Int) (w : Bool) (k : Int) (p t : ByteArray) (n m : Int) (d : ByteArray) (e : Int) : t20 a b c w k p t n m d e = some ([.one (.b (clientOk a b c w k p t n m d e))], []) := by
  have e1 : ∀ n, t64 n = some ([.one (.b (decide (0 ≤ n) && decide (n < 3)))], []) := fun _ => rfl
  simp [-ByteArray.size_eq_zero_iff, t20, e1, in_eq, callOk_spec, zr60, zo60, zr64, zo64, zr61, zo61, clientOk]
  (repeat' split) <;> (apply bool_some; rw [Bool.eq_iff_iff]; simp [-ByteArray.size_eq_zero_iff]; try omega)
theorem clientOk_impl (a b c : Int) (w : Bool) (k : Int) (p t : ByteArray) (n m : Int) (d : ByteArray) (e : Int) : t22 a b c w k p t n m d e = some ([.one (.b (clientOk a b c w k p t n m d e))], []) := by
  simp [-ByteArray.size_eq_zero_iff, t22, within_eq, callOk_impl, zr62, zo62, zr63, zo63, clientOk]
  (repeat' split) <;> (apply bool_some; rw [Bool.eq_iff_iff]; simp [-ByteArray.size_eq_zero_iff]; try omega)
theorem toClient_eq (a b c : Int) (w : Bool) (k : Int) (p t : ByteArray) (n m : Int) (d : ByteArray) (e : Int) : t21 a b c w k p t n m d e = some ([.agg [.i .i64 a, .i .i64 b, .i .i64 c, .b w, .i .i64 k, .s p, .s t, .i .i64 n, .i .i64 m, .s d, .i .i64 e]], []) := rfl
theorem szClient_eq (a b c : Int) (w : Bool) (k : Int) (p t : ByteArray) (n m : Int) (d : ByteArray) (e z : Int) : ∃ y, t19 a b c w k p t n m d e z = some ([.one (.i .i64 y)], []) := by
  obtain ⟨y, hy⟩ := szCall_eq k p t n m d z
  simp [-ByteArray.size_eq_zero_iff, t19, hy, zr23, zo23]; (repeat' split) <;> exact ⟨_, rfl⟩
def callRes (a b c : Int) (w : Bool) (k : Int) (p t : ByteArray) (n m : Int) (d : ByteArray) (e : Int) (k' : Int) (p' t' : ByteArray) (n' m' : Int) (d' : ByteArray) (e' : Int) : List DV :=
  if clientOk a b c w k p t n m d e then
    if w || !callOk k' p' t' n' m' d' || decide (c ≥ 1000000) || decide (e' < 0) || decide (1000000 < e') then [.agg [.i .i64 a, .i .i64 b, .i .i64 c, .b w, .i .i64 k, .s p, .s t, .i .i64 n, .i .i64 m, .s d, .i .i64 e], .one (.b false)]
    else [.agg [.i .i64 a, .i .i64 b, .i .i64 (w64 (c + 1)), .b true, .i .i64 k', .s p', .s t', .i .i64 n', .i .i64 m', .s d', .i .i64 e'], .one (.b true)]
  else [.agg [.i .i64 0, .i .i64 0, .i .i64 0, .b false, .i .i64 0, .s ⟨#[]⟩, .s ⟨#[]⟩, .i .i64 0, .i .i64 0, .s ⟨#[]⟩, .i .i64 0], .one (.b false)]
theorem clientCall_spec (a b c : Int) (w : Bool) (k : Int) (p t : ByteArray) (n m : Int) (d : ByteArray) (e : Int) (k' : Int) (p' t' : ByteArray) (n' m' : Int) (d' : ByteArray) (e' : Int) : t24 a b c w k p t n m d e k' p' t' n' m' d' e' = some (callRes a b c w k p t n m d e k' p' t' n' m' d' e', []) := by
  cases hc : clientOk a b c w k p t n m d e
  · simp [-ByteArray.size_eq_zero_iff, t24, callRes, clientOk_spec, hc, zr20, zo20]
  · simp [-ByteArray.size_eq_zero_iff, t24, callRes, clientOk_spec, callOk_spec, in_eq, hc, zr20, zo20, zr60, zo60, zr61, zo61]
    (repeat' split) <;> first | rfl | (exfalso; simp_all [-ByteArray.size_eq_zero_iff]; try omega)
theorem clientCall_impl (a b c : Int) (w : Bool) (k : Int) (p t : ByteArray) (n m : Int) (d : ByteArray) (e : Int) (k' : Int) (p' t' : ByteArray) (n' m' : Int) (d' : ByteArray) (e' : Int) : t26 a b c w k p t n m d e k' p' t' n' m' d' e' = some (callRes a b c w k p t n m d e k' p' t' n' m' d' e', []) := by
  cases hc : clientOk a b c w k p t n m d e
  · simp [-ByteArray.size_eq_zero_iff, t26, callRes, clientOk_impl, hc, zr22, zo22]
  · have hk := hc
    simp only [clientOk, Bool.and_eq_true, decide_eq_true_eq] at hk
    simp [-ByteArray.size_eq_zero_iff, t26, callRes, clientOk_impl, callOk_impl, within_eq, hc, zr22, zo22, zr62, zo62, zr63, zo63]
    have e1 : c = 1000000 ↔ 1000000 ≤ c := by omega
    simp only [e1]
    (repeat' split) <;> first | rfl | (exfalso; simp_all [-ByteArray.size_eq_zero_iff]; try omega)
theorem eqCall_self (k : Int) (p t : ByteArray) (n m : Int) (d : ByteArray) : t65 k p t n m d k p t n m d = some ([.one (.b true)], []) := by
  simp [t65]
theorem eqClient_self (a b c : Int) (w : Bool) (k : Int) (p t : ByteArray) (n m : Int) (d : ByteArray) (e : Int) : t27 a b c w k p t n m d e a b c w k p t n m d e = some ([.one (.b true)], []) := by
  simp [t27, eqCall_self, zr65, zo65]
theorem law5 (a b c : Int) (w : Bool) (k : Int) (p t : ByteArray) (n m : Int) (d : ByteArray) (e : Int) (k' : Int) (p' t' : ByteArray) (n' m' : Int) (d' : ByteArray) (e' : Int) : t5 a b c w k p t n m d e k' p' t' n' m' d' e' = some ([.one (.b true)], []) := by
  obtain ⟨y, hy⟩ := szClient_eq a b c w k p t n m d e 1048576
  obtain ⟨z, hz⟩ := szCall_eq k' p' t' n' m' d' y
  simp [t5, hy, hz, toClient_eq, toCall_eq, clientCall_spec, clientCall_impl, eqClient_self, zr19, zo19, zr23, zo23, zr21, zo21, zr25, zo25, zr24, zo24, zr26, zo26, zr27, zo27]
  intro _ _
  simp only [callRes]
  (repeat' split) <;> simp [eqClient_self]
end Go.Den.L5
