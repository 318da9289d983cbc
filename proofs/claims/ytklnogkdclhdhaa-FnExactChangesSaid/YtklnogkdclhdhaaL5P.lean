/- Plain laws about what the functions compute; no condition. -/
import Derived.Test.YtklnogkdclhdhaaL5Tw
import Derived.IntWalk
set_option linter.unusedVariables false
set_option linter.unusedSimpArgs false
/- How twins are taken apart. -/
namespace Go.Den.L5
open Go Go.IntWalk
theorem chk_true (x : Rs) : chk true x = x := rfl
theorem chk_ok {b : Bool} (h : b = true) (x : Rs) : chk b x = x := by rw [h]; rfl
attribute [simp] chk_true okR isVs isV isD isDs isOs resC outC nthR nthO cellsDV nthD asB asI asS asL
theorem ite_not {α : Type} (a b : Bool) (h : a = !b) (x y : α) : (if a = true then x else y) = (if b = true then y else x) := by
  subst h; cases b <;> rfl
theorem bool_some (a b : Bool) (h : a = b) : (some ([DV.one (.b a)], ([] : List (List D))) : Rs) = some ([.one (.b b)], []) := by rw [h]
theorem nil_toList : (⟨#[]⟩ : ByteArray).toList = [] := by rw [ByteArray.toList_eq]
theorem toList_nil (s : ByteArray) : s.toList = [] ↔ (s.size : Int) = 0 := by
  have e : s.size = s.data.toList.length := by rw [Array.length_toList]; rfl
  rw [ByteArray.toList_eq, e]
  cases s.data.toList <;> simp <;> omega
theorem toList_isEmpty (s : ByteArray) : s.toList.isEmpty = decide ((s.size : Int) = 0) := by
  rw [Bool.eq_iff_iff, List.isEmpty_iff, toList_nil]; simp
attribute [simp] nil_toList toList_nil toList_isEmpty
theorem KK_eq : KK = 18446744073709551616 := Classical.choose_spec (⟨2 ^ 64, rfl⟩ : ∃ n : Nat, n = 2 ^ 64)
theorem w64_in (n : Int) (h : -9223372036854775808 ≤ n ∧ n ≤ 9223372036854775807) : w64 n = n := i64_in n h
theorem getD_in {l : List (List D)} {i : Nat} (hi : i < l.length) : l.getD i [] = l[i] := by simp [List.getD, hi]
theorem getD_row {l : List (List D)} {es : List Sh} (h : ∀ r ∈ l, typL es r) {i : Nat} (hi : i < l.length) : typL es (l.getD i []) := by
  rw [getD_in hi]; exact h _ (List.getElem_mem hi)
theorem w64_succ (i : Nat) (h : i < 4611686018427387904) : w64 ((i : Int) + 1) = ((i + 1 : Nat) : Int) := by
  rw [w64_in _ (by omega)]; rfl
theorem within_eq (a b c : Int) : t76 a b c = some ([.one (.b (decide (b ≤ a) && decide (a ≤ c)))], []) := rfl
theorem in_eq (a b c : Int) : t83 a b c = some ([.one (.b (decide (b ≤ a) && decide (a ≤ c)))], []) := rfl
end Go.Den.L5

/- Sizes; copies of rows. -/
namespace Go.Den.L5
open Go
mutual
/-- What was found small enough. -/
def szdD : Sh → D → Prop
  | .b, _ => True
  | .i _, _ => True
  | .s, d => (asS d).size ≤ 1048576
  | .l es, d => (asL d).length ≤ 1048576 ∧ ∀ r ∈ asL d, szdL es r
def szdL : List Sh → List D → Prop
  | [], _ => True
  | e :: es, ds => szdD e (nthD ds 0) ∧ szdL es ds.tail
end
theorem mem_getD {l : List (List D)} {i : Nat} (h : i < l.length) : l.getD i [] ∈ l := by rw [getD_in h]; exact List.getElem_mem h
theorem all_getD {l : List (List D)} {P : List D → Prop} (h : ∀ j, j < l.length → P (l.getD j [])) : ∀ r ∈ l, P r := by
  intro r hr
  obtain ⟨j, hj, rfl⟩ := List.mem_iff_getElem.1 hr
  rw [← getD_in hj]; exact h j hj
theorem nat_in {i n : Nat} (h : i < n) : decide ((i : Int) < (n : Int)) = true := by simp; omega
theorem nat_pos (i : Nat) : decide ((0 : Int) ≤ (i : Int)) = true := by simp
theorem modify_mid {α : Type} (f : α → α) : ∀ (a : List α) (x : α) (b : List α), (a ++ x :: b).modify a.length f = a ++ f x :: b
  | [], x, b => by simp
  | y :: a, x, b => by simp [modify_mid f a x b]
theorem stR_at (l : List (List D)) (i k : Nat) (z ys : List D) (hz : z.length ≤ ys.length) (e : i + (k + 1) = l.length) (hy : l.getD i [] = ys) : stR (l.take i ++ List.replicate (k + 1) z) i 0 ys = l.take (i + 1) ++ List.replicate k z := by
  have hi : i < l.length := by omega
  rw [getD_in hi] at hy
  have hl : (l.take i).length = i := by simp; omega
  have key := modify_mid (fun r => r.take 0 ++ ys ++ r.drop (0 + ys.length)) (l.take i) z (List.replicate k z)
  rw [hl] at key
  unfold stR
  rw [List.replicate_succ, key, List.take_succ_eq_append_getElem hi, hy]
  simp [List.drop_eq_nil_of_le hz]
end Go.Den.L5

/- Types Snap Entry EntryS Kept Rec RecS Store Dirent DirentS Inode InodeS Vol IntS Cred Call Result Note NoteS Session SessionS Tenant TenantS Slot SlotS Msg MsgS Core: sizes, copies, likeness (printed by fam.py). -/
namespace Go.Den.L5
open Go
abbrev shSnap : List Sh := [.i .i64, .i .i64, .s]
theorem szSnap_ok (x1 : Int) (x2 : Int) (x3 : ByteArray) (wx3 : x3.size ≤ maxLen) (n : Int) (h0 : 0 ≤ n) (h1 : n ≤ 1048576) : ∃ y, t49 x1 x2 x3 n = some ([.one (.i .i64 y)], []) ∧ y ≤ n ∧ (0 ≤ y → szdL shSnap [.i .i64 x1, .i .i64 x2, .s x3]) := by
  simp only [t49]
  have e1 : w64 (n - (x3.size : Int)) = n - (x3.size : Int) := w64_in _ (by simp only [maxLen] at wx3; omega)
  simp only [e1]
  by_cases g1 : (n - (x3.size : Int)) < 0
  · exact ⟨-1, by simp only [g1, decide_true, if_true, chk_true], by omega, by omega⟩
  simp only [g1, decide_false, Bool.false_eq_true, if_false, chk_true]
  exact ⟨_, rfl, by omega, fun _ => ⟨trivial, trivial, (by omega : x3.size ≤ 1048576), trivial⟩⟩
theorem toSnap_eq (x1 : Int) (x2 : Int) (x3 : ByteArray)  : t54 x1 x2 x3 = some ([.agg [.i .i64 x1, .i .i64 x2, .s x3]], []) := rfl
theorem eqSnap_self (x1 : Int) (x2 : Int) (x3 : ByteArray)  : t59 x1 x2 x3 x1 x2 x3 = some ([.one (.b true)], []) := by
  simp only [t59, bne_self_eq_false, Bool.not_true, Bool.false_eq_true, if_false, okR, isVs, isV, isD, isDs, isOs, resC, outC, nthR, nthO, cellsDV, nthD, asB, asI, asS, asL, Bool.and_true, Bool.true_and, BEq.rfl, chk_true, decide_true]
abbrev shEntry : List Sh := [.i .i64, .s]
theorem Entry_row {r : List D} (h : typL shEntry r) : ∃ x1 x2, r = [.i .i64 x1, .s x2] ∧ x2.size ≤ maxLen := by
  obtain ⟨_, _, rfl, ⟨x1, rfl, _⟩, ⟨_, _, rfl, ⟨x2, rfl, wx2⟩, rfl⟩⟩ := h
  exact ⟨x1, x2, rfl, wx2⟩
theorem szEntry_ok (x1 : Int) (x2 : ByteArray) (wx2 : x2.size ≤ maxLen) (n : Int) (h0 : 0 ≤ n) (h1 : n ≤ 1048576) : ∃ y, t82 x1 x2 n = some ([.one (.i .i64 y)], []) ∧ y ≤ n ∧ (0 ≤ y → szdL shEntry [.i .i64 x1, .s x2]) := by
  simp only [t82]
  have e1 : w64 (n - (x2.size : Int)) = n - (x2.size : Int) := w64_in _ (by simp only [maxLen] at wx2; omega)
  simp only [e1]
  by_cases g1 : (n - (x2.size : Int)) < 0
  · exact ⟨-1, by simp only [g1, decide_true, if_true, chk_true], by omega, by omega⟩
  simp only [g1, decide_false, Bool.false_eq_true, if_false, chk_true]
  exact ⟨_, rfl, by omega, fun _ => ⟨trivial, (by omega : x2.size ≤ 1048576), trivial⟩⟩
theorem toEntry_eq (x1 : Int) (x2 : ByteArray)  : t87 x1 x2 = some ([.agg [.i .i64 x1, .s x2]], []) := rfl
theorem eqEntry_self (x1 : Int) (x2 : ByteArray)  : t89 x1 x2 x1 x2 = some ([.one (.b true)], []) := by
  simp only [t89, bne_self_eq_false, Bool.not_true, Bool.false_eq_true, if_false, okR, isVs, isV, isD, isDs, isOs, resC, outC, nthR, nthO, cellsDV, nthD, asB, asI, asS, asL, Bool.and_true, Bool.true_and, BEq.rfl, chk_true, decide_true]
theorem szEntryS_loop (n0 : Int) (b0 : Bool) (q1 : Int → Int → Bool → Bool → Rs) (q2 : Int → Int → Bool → SV → Rs) (h1 : ∀ a b c d, q1 a b c d = some ([.one (.i .i64 (-1))], [])) (h2 : ∀ a b c d, q2 a b c d = some ([.one (.i .i64 a)], []))
    (l : List (List D)) (h : ∀ r ∈ l, typL shEntry r) (hl : l.length < 4611686018427387904) : ∀ (k i m : Nat) (n : Int) (v w : SV), i + k = l.length → k < m → 0 ≤ n → n ≤ 1048576 → ∃ y, la50o1 t82 l n0 b0 q1 q2 m n i v w = some ([.one (.i .i64 y)], []) ∧ y ≤ n ∧ (0 ≤ y → ∀ j, i ≤ j → j < l.length → szdL shEntry (l.getD j [])) := by
  intro k
  induction k with
  | zero =>
    intro i m n v w e hm g0 g1
    obtain ⟨m, rfl⟩ : ∃ m', m = m' + 1 := ⟨m - 1, by omega⟩
    have ei : decide ((i : Int) < (l.length : Int)) = false := by simp; omega
    refine ⟨n, ?_, by omega, by omega⟩
    simp only [la50o1, ei, h2, Bool.false_eq_true, if_false]
  | succ k ih =>
    intro i m n v w e hm g0 g1
    obtain ⟨m, rfl⟩ : ∃ m', m = m' + 1 := ⟨m - 1, by omega⟩
    have hr := getD_row h (i := i) (by omega)
    obtain ⟨c1, c2, er, wc2⟩ := Entry_row hr
    obtain ⟨z, hz, hzn, hzo⟩ := szEntry_ok c1 c2 wc2 n g0 g1
    have e1 : decide ((i : Int) < (l.length : Int)) = true := by simp; omega
    have e2 : decide ((0 : Int) ≤ (i : Int)) = true := by simp
    have ez : isRow z105 [.i .i64 c1, .s c2] = true := rfl
    have ew : okR zr82 zo82 (some ([.one (.i .i64 z)], [])) = true := rfl
    simp only [la50o1, e1, e2, Int.toNat_natCast, er, ez, nthD, asI, asS, asB, asL, hz, resC, nthR, cellsDV, ew, Bool.and_true, chk_true, if_true]
    by_cases g : z < 0
    · exact ⟨-1, by simp only [g, decide_true, if_true, h1], by omega, by omega⟩
    · simp only [g, decide_false, Bool.false_eq_true, if_false]
      rw [w64_succ i (by omega)]
      obtain ⟨y, ey, hy1, hy2⟩ := ih (i + 1) m z (.d (.b true)) (.d (.b false)) (by omega) (by omega) (by omega) (by omega)
      refine ⟨y, ey, by omega, fun hy j hj1 hj2 => ?_⟩
      by_cases hj : j = i
      · subst hj; rw [er]; exact hzo (by omega)
      · exact hy2 hy j (by omega) hj2
theorem szEntryS_ok (l : List (List D)) (hl : l.length ≤ maxLen) (h : ∀ r ∈ l, typL shEntry r) (n : Int) (h0 : 0 ≤ n) (h1 : n ≤ 1048576) : ∃ y, t50 l n = some ([.one (.i .i64 y)], []) ∧ y ≤ n ∧ (0 ≤ y → l.length ≤ 1048576 ∧ ∀ r ∈ l, szdL shEntry r) := by
  have e : w64 (n - (l.length : Int)) = n - (l.length : Int) := w64_in _ (by simp only [maxLen] at hl; omega)
  simp only [t50, ta50, e]
  by_cases g : n - (l.length : Int) < 0
  · exact ⟨-1, by simp only [g, decide_true, if_true], by omega, by omega⟩
  · simp only [g, decide_false, Bool.false_eq_true, if_false]
    obtain ⟨y, ey, hy1, hy2⟩ := szEntryS_loop 0 false (fun _ _ _ _ => some ([.one (.i .i64 (-1))], [])) (fun a _ _ _ => some ([.one (.i .i64 a)], [])) (fun _ _ _ _ => rfl) (fun _ _ _ _ => rfl) l h (by omega) l.length 0 KK (n - (l.length : Int)) .undef .undef (by omega) (by rw [KK_eq]; omega) (by omega) (by omega)
    refine ⟨y, ey, by omega, fun hy => ⟨by omega, all_getD (fun j hj => hy2 hy j (by omega) hj)⟩⟩
theorem toEntryS_loop (q : Int → Bool → List (List D) → Rs) (l : List (List D)) (h : ∀ r ∈ l, typL shEntry r) (hs : ∀ r ∈ l, szdL shEntry r) (hl : l.length < 4611686018427387904) : ∀ (k i m : Nat) (v : SV), i + k = l.length → k < m →
    la55o0 t87 l q m i v (l.take i ++ List.replicate k z90) = q l.length false l := by
  intro k
  induction k with
  | zero =>
    intro i m v e hm
    obtain ⟨m, rfl⟩ : ∃ m', m = m' + 1 := ⟨m - 1, by omega⟩
    have ei : decide ((i : Int) < (l.length : Int)) = false := by simp; omega
    have e0 : i = l.length := by omega
    simp only [la55o0, ei, e0]
    simp
  | succ k ih =>
    intro i m v e hm
    obtain ⟨m, rfl⟩ : ∃ m', m = m' + 1 := ⟨m - 1, by omega⟩
    have hr := getD_row h (i := i) (by omega)
    obtain ⟨c1, c2, er, wc2⟩ := Entry_row hr
    have e1 : decide ((i : Int) < (l.length : Int)) = true := by simp; omega
    have e2 : decide ((0 : Int) ≤ (i : Int)) = true := by simp
    have e3 : decide ((i : Int) < ((l.take i ++ List.replicate (k + 1) z90).length : Int)) = true := by simp; omega
    have e4 : decide (2 ≤ 2 ∧ i < (l.take i ++ List.replicate (k + 1) z90).length) = true := by simp; omega
    have ez : isRow z105 [.i .i64 c1, .s c2] = true := rfl
    have ew : okR zr87 zo87 (some ([.agg [.i .i64 c1, .s c2]], [])) = true := rfl
    simp only [la55o0, e1, e2, Int.toNat_natCast, er, ez, nthD, asI, asS, asB, asL, toEntry_eq c1 c2, resC, nthR, cellsDV, ew, e3, e4, Bool.and_true, chk_true, if_true]
    rw [stR_at l i k _ _ (by simp [z90]) e er, w64_succ i (by omega)]
    exact ih (i + 1) m _ (by omega) (by omega)
theorem toEntryS_eq (l : List (List D)) (hl : l.length ≤ 1048576) (h : ∀ r ∈ l, typL shEntry r) (hs : ∀ r ∈ l, szdL shEntry r) : t55 l = some ([.one (.l l)], []) := by
  unfold t55 ta55
  have e1 : l.length ≤ lim := by unfold lim; omega
  have := toEntryS_loop (fun _ _ l => some ([.one (.l l)], [])) l h hs (by omega) l.length 0 KK .undef (by omega) (by rw [KK_eq]; omega)
  simpa [e1] using this
theorem eqEntryS_loop (b0 b1 : Bool) (q1 : Int → Bool → Bool → Rs) (q2 : Int → Bool → SV → Rs) (h2 : ∀ a b c, q2 a b c = some ([.one (.b true)], [])) (l : List (List D)) (h : ∀ r ∈ l, typL shEntry r) (hl : l.length < 4611686018427387904) : ∀ (k i m : Nat) (v w : SV), i + k = l.length → k < m →
    la60o1 t89 l l b0 b1 q1 q2 m i v w = some ([.one (.b true)], []) := by
  intro k
  induction k with
  | zero =>
    intro i m v w e hm
    obtain ⟨m, rfl⟩ : ∃ m', m = m' + 1 := ⟨m - 1, by omega⟩
    have ei : decide ((i : Int) < (l.length : Int)) = false := by simp; omega
    simp only [la60o1, ei, h2]
    simp
  | succ k ih =>
    intro i m v w e hm
    obtain ⟨m, rfl⟩ : ∃ m', m = m' + 1 := ⟨m - 1, by omega⟩
    have hr := getD_row h (i := i) (by omega)
    obtain ⟨c1, c2, er, wc2⟩ := Entry_row hr
    have e1 : decide ((i : Int) < (l.length : Int)) = true := by simp; omega
    have e2 : decide ((0 : Int) ≤ (i : Int)) = true := by simp
    have ez : isRow z90 [.i .i64 c1, .s c2] = true := rfl
    have ew : okR zr89 zo89 (some ([.one (.b true)], [])) = true := rfl
    simp only [la60o1, e1, e2, Int.toNat_natCast, er, ez, nthD, asI, asS, asB, asL, eqEntry_self c1 c2, resC, nthR, cellsDV, ew, Bool.and_true, chk_true, if_true, Bool.not_true, Bool.false_eq_true, if_false]
    rw [w64_succ i (by omega)]
    exact ih (i + 1) m _ _ (by omega) (by omega)
theorem eqEntryS_self (l : List (List D)) (hl : l.length ≤ 1048576) (h : ∀ r ∈ l, typL shEntry r) : t60 l l = some ([.one (.b true)], []) := by
  have := eqEntryS_loop false false (fun _ _ _ => some ([.one (.b false)], [])) (fun _ _ _ => some ([.one (.b true)], [])) (fun _ _ _ => rfl) l h (by omega) l.length 0 KK .undef .undef (by omega) (by rw [KK_eq]; omega)
  simpa [t60, ta60] using this
abbrev shKept : List Sh := [.i .i64, .i .i64, .i .i64, .i .i64, .s, .l [.i .i64, .s]]
theorem szKept_ok (x1 : Int) (x2 : Int) (x3 : Int) (x4 : Int) (x5 : ByteArray) (x6 : List (List D)) (wx5 : x5.size ≤ maxLen) (wx6 : x6.length ≤ maxLen) (tx6 : ∀ r ∈ x6, typL shEntry r) (n : Int) (h0 : 0 ≤ n) (h1 : n ≤ 1048576) : ∃ y, t12 x1 x2 x3 x4 x5 x6 n = some ([.one (.i .i64 y)], []) ∧ y ≤ n ∧ (0 ≤ y → szdL shKept [.i .i64 x1, .i .i64 x2, .i .i64 x3, .i .i64 x4, .s x5, .l x6]) := by
  simp only [t12, ta12]
  obtain ⟨y1, e1, h1a, o1⟩ := szSnap_ok x3 x4 x5 wx5 n (by omega) (by omega)
  simp only [e1, zr49, zo49, okR, isVs, isV, isD, isDs, isOs, resC, outC, nthR, nthO, cellsDV, nthD, asB, asI, asS, asL, Bool.and_true, Bool.true_and, BEq.rfl, chk_true, decide_true]
  by_cases g1 : y1 < 0
  · exact ⟨-1, by simp only [g1, decide_true, if_true, chk_true], by omega, by omega⟩
  simp only [g1, decide_false, Bool.false_eq_true, if_false, chk_true]
  obtain ⟨y2, e2, h2a, o2⟩ := szEntryS_ok x6 wx6 tx6 y1 (by omega) (by omega)
  simp only [e2, zr50, zo50, okR, isVs, isV, isD, isDs, isOs, resC, outC, nthR, nthO, cellsDV, nthD, asB, asI, asS, asL, Bool.and_true, Bool.true_and, BEq.rfl, chk_true, decide_true]
  by_cases g2 : y2 < 0
  · exact ⟨-1, by simp only [g2, decide_true, if_true, chk_true], by omega, by omega⟩
  simp only [g2, decide_false, Bool.false_eq_true, if_false, chk_true]
  exact ⟨_, rfl, by omega, fun _ => ⟨trivial, trivial, (o1 (by omega)).1, (o1 (by omega)).2.1, (o1 (by omega)).2.2.1, (o2 (by omega)), trivial⟩⟩
theorem toKept_eq (x1 : Int) (x2 : Int) (x3 : Int) (x4 : Int) (x5 : ByteArray) (x6 : List (List D)) (wx6 : x6.length ≤ 1048576) (tx6 : ∀ r ∈ x6, typL shEntry r) (sx6 : ∀ r ∈ x6, szdL shEntry r) : t15 x1 x2 x3 x4 x5 x6 = some ([.agg [.i .i64 x1, .i .i64 x2, .i .i64 x3, .i .i64 x4, .s x5, .l x6]], []) := by
  simp only [t15, ta15, toSnap_eq x3 x4 x5 , toEntryS_eq x6 wx6 tx6 sx6, zr54, zo54, zr55, zo55, okR, isVs, isV, isD, isDs, isOs, resC, outC, nthR, nthO, cellsDV, nthD, asB, asI, asS, asL, Bool.and_true, Bool.true_and, BEq.rfl, chk_true, decide_true]
theorem eqKept_self (x1 : Int) (x2 : Int) (x3 : Int) (x4 : Int) (x5 : ByteArray) (x6 : List (List D)) (wx6 : x6.length ≤ 1048576) (tx6 : ∀ r ∈ x6, typL shEntry r) : t18 x1 x2 x3 x4 x5 x6 x1 x2 x3 x4 x5 x6 = some ([.one (.b true)], []) := by
  simp only [t18, ta18, bne_self_eq_false, Bool.not_true, Bool.false_eq_true, if_false, eqSnap_self x3 x4 x5 , eqEntryS_self x6 wx6 tx6, zr59, zo59, zr60, zo60, okR, isVs, isV, isD, isDs, isOs, resC, outC, nthR, nthO, cellsDV, nthD, asB, asI, asS, asL, Bool.and_true, Bool.true_and, BEq.rfl, chk_true, decide_true]
abbrev shRec : List Sh := [.i .i64, .i .i64, .i .i64, .i .i64, .s]
theorem Rec_row {r : List D} (h : typL shRec r) : ∃ x1 x2 x3 x4 x5, r = [.i .i64 x1, .i .i64 x2, .i .i64 x3, .i .i64 x4, .s x5] ∧ x5.size ≤ maxLen := by
  obtain ⟨_, _, rfl, ⟨x1, rfl, _⟩, ⟨_, _, rfl, ⟨x2, rfl, _⟩, ⟨_, _, rfl, ⟨x3, rfl, _⟩, ⟨_, _, rfl, ⟨x4, rfl, _⟩, ⟨_, _, rfl, ⟨x5, rfl, wx5⟩, rfl⟩⟩⟩⟩⟩ := h
  exact ⟨x1, x2, x3, x4, x5, rfl, wx5⟩
theorem eqRec_self (x1 : Int) (x2 : Int) (x3 : Int) (x4 : Int) (x5 : ByteArray)  : t67 x1 x2 x3 x4 x5 x1 x2 x3 x4 x5 = some ([.one (.b true)], []) := by
  simp only [t67, bne_self_eq_false, Bool.not_true, Bool.false_eq_true, if_false, okR, isVs, isV, isD, isDs, isOs, resC, outC, nthR, nthO, cellsDV, nthD, asB, asI, asS, asL, Bool.and_true, Bool.true_and, BEq.rfl, chk_true, decide_true]
theorem eqRecS_loop (b0 b1 : Bool) (q1 : Int → Bool → Bool → Rs) (q2 : Int → Bool → SV → Rs) (h2 : ∀ a b c, q2 a b c = some ([.one (.b true)], [])) (l : List (List D)) (h : ∀ r ∈ l, typL shRec r) (hl : l.length < 4611686018427387904) : ∀ (k i m : Nat) (v w : SV), i + k = l.length → k < m →
    la28o1 t67 l l b0 b1 q1 q2 m i v w = some ([.one (.b true)], []) := by
  intro k
  induction k with
  | zero =>
    intro i m v w e hm
    obtain ⟨m, rfl⟩ : ∃ m', m = m' + 1 := ⟨m - 1, by omega⟩
    have ei : decide ((i : Int) < (l.length : Int)) = false := by simp; omega
    simp only [la28o1, ei, h2]
    simp
  | succ k ih =>
    intro i m v w e hm
    obtain ⟨m, rfl⟩ : ∃ m', m = m' + 1 := ⟨m - 1, by omega⟩
    have hr := getD_row h (i := i) (by omega)
    obtain ⟨c1, c2, c3, c4, c5, er, wc5⟩ := Rec_row hr
    have e1 : decide ((i : Int) < (l.length : Int)) = true := by simp; omega
    have e2 : decide ((0 : Int) ≤ (i : Int)) = true := by simp
    have ez : isRow z38 [.i .i64 c1, .i .i64 c2, .i .i64 c3, .i .i64 c4, .s c5] = true := rfl
    have ew : okR zr67 zo67 (some ([.one (.b true)], [])) = true := rfl
    simp only [la28o1, e1, e2, Int.toNat_natCast, er, ez, nthD, asI, asS, asB, asL, eqRec_self c1 c2 c3 c4 c5, resC, nthR, cellsDV, ew, Bool.and_true, chk_true, if_true, Bool.not_true, Bool.false_eq_true, if_false]
    rw [w64_succ i (by omega)]
    exact ih (i + 1) m _ _ (by omega) (by omega)
theorem eqRecS_self (l : List (List D)) (hl : l.length ≤ 1048576) (h : ∀ r ∈ l, typL shRec r) : t28 l l = some ([.one (.b true)], []) := by
  have := eqRecS_loop false false (fun _ _ _ => some ([.one (.b false)], [])) (fun _ _ _ => some ([.one (.b true)], [])) (fun _ _ _ => rfl) l h (by omega) l.length 0 KK .undef .undef (by omega) (by rw [KK_eq]; omega)
  simpa [t28, ta28] using this
end Go.Den.L5

/- Places, batches. -/
namespace Go.Den.L5
open Go
theorem row_in {sh : List Sh} {l : List (List D)} (h : ∀ r ∈ l, typL sh r) (z : List D) (hz : ∀ r, typL sh r → isRow z r = true) (i : Nat) (hi : i < l.length) : isRow z (l.getD i []) = true := hz _ (getD_row h hi)
theorem entry_row : ∀ r, typL shEntry r → isRow z90 r = true := fun r h => by
  obtain ⟨a, b, rfl, _⟩ := Entry_row h; rfl
/-- A batch: terms that do not fall, up to t; none too long. -/
def runB (l : List (List D)) (t : Int) : Nat → Nat → Int → Bool
  | 0, _, _ => true
  | k + 1, i, p => decide (p ≤ asI (nthD (l.getD i []) 0) ∧ asI (nthD (l.getD i []) 0) ≤ t ∧ ((asS (nthD (l.getD i []) 1)).size : Int) ≤ 1600) && runB l t k (i + 1) (asI (nthD (l.getD i []) 0))
/-- A message that may be. -/
def placeB (a b : Int) : Bool := decide ((a = 0 ∧ b = 0) ∨ (1 ≤ a ∧ a ≤ 100000 ∧ 1 ≤ b ∧ b ≤ 100000))
theorem place_spec (a b : Int) : t84 a b = some ([.one (.b (placeB a b))], []) := by
  simp only [t84, ta84, in_eq, zr83, zo83, okR, isVs, isV, isD, isOs, resC, nthR, cellsDV, nthD, asB, Bool.and_true, Bool.true_or, chk_true]
  split <;> (apply bool_some; unfold placeB; rw [Bool.eq_iff_iff]; simp_all; try omega)
end Go.Den.L5

/- Marks. -/
namespace Go.Den.L5
open Go
theorem markText_loop (s7 : ByteArray) (b9 : Bool) (q1 : Int → ByteArray → Bool → Rs) (h1 : ∀ n (s : ByteArray) b, s.size ≤ 1000 → ∃ x, q1 n s b = some ([.one (.s x)], [])) : ∀ (k m : Nat) (n : Int) (s : ByteArray) (v : SV), 0 ≤ n → n < 10 ^ k → n < 4611686018427387904 → k < m → s.size + k ≤ 1000 →
    ∃ x, l68o1 s7 b9 q1 m n s v = some ([.one (.s x)], []) := by
  intro k
  induction k with
  | zero =>
    intro m n s v h0 hn h2 hm hs
    obtain ⟨m, rfl⟩ : ∃ m', m = m' + 1 := ⟨m - 1, by omega⟩
    have e : decide (n > 0) = false := by simp; omega
    simp only [l68o1, e, Bool.false_eq_true, if_false]
    exact h1 _ _ _ (by omega)
  | succ k ih =>
    intro m n s v h0 hn h2 hm hs
    obtain ⟨m, rfl⟩ : ∃ m', m = m' + 1 := ⟨m - 1, by omega⟩
    by_cases e : n > 0
    · have e' : decide (n > 0) = true := decide_eq_true e
      have hb : ∀ x : Int, isBytes [[D.i .u8 x]] = true := fun _ => rfl
      have hz : ∀ x : Int, (⟨(bytesD [[D.i .u8 x]]).toArray⟩ : ByteArray).size = 1 := fun _ => rfl
      simp only [l68o1, e', if_true, hb, chk_true, hz]
      rw [chk_ok (decide_eq_true (by unfold lim; omega)), Int.tdiv_eq_ediv_of_nonneg h0, w64_in (n / 10) (by omega)]
      refine ih m (n / 10) _ _ (by omega) ?_ (by omega) (by omega) (by rw [ByteArray.size_append, hz]; omega)
      rw [Int.ediv_lt_iff_lt_mul (by omega)]
      rw [Int.pow_succ] at hn
      exact hn
    · have e' : decide (n > 0) = false := decide_eq_false e
      simp only [l68o1, e', Bool.false_eq_true, if_false]
      exact h1 _ _ _ (by omega)
noncomputable def mkT (k : Int) : ByteArray := asS (resC (t68 k) 0 0)
theorem markText_eq (k : Int) (h : k < 4611686018427387904) : t68 k = some ([.one (.s (mkT k))], []) := by
  have : ∃ x, t68 k = some ([.one (.s x)], []) := by
    unfold t68
    by_cases e : k ≤ 0
    · have e' : decide (k ≤ 0) = true := decide_eq_true e
      simp only [e', if_true]; exact ⟨_, rfl⟩
    · have e' : decide (k ≤ 0) = false := decide_eq_false e
      simp only [e', Bool.false_eq_true, if_false]
      refine markText_loop _ _ _ ?_ 20 KK k _ _ (by omega) (by omega) h (by rw [KK_eq]; omega) (by show 0 + 20 ≤ 1000; omega)
      intro n s b hs
      have e0 : (⟨#[109]⟩ : ByteArray).size = 1 := rfl
      simp only [e0]
      rw [chk_ok (decide_eq_true (by unfold lim; omega))]
      exact ⟨_, rfl⟩
  obtain ⟨x, hx⟩ := this
  have : mkT k = x := by unfold mkT; rw [hx]; rfl
  rw [this, hx]
theorem markText_w {x : ByteArray} : okR zr68 zo68 (some ([.one (.s x)], [])) = true := rfl
theorem markText_r {x : ByteArray} : asS (resC (some ([.one (.s x)], [])) 0 0) = x := rfl
theorem stR_mid (a b : List (List D)) (r ys : List D) (i off : Nat) (h : i = a.length) : stR (a ++ r :: b) i off ys = a ++ (r.take off ++ ys ++ r.drop (off + ys.length)) :: b := by
  subst h; unfold stR; exact modify_mid _ a r b
theorem getD_mid (a b : List (List D)) (r : List D) (i : Nat) (h : i = a.length) : (a ++ r :: b).getD i [] = r := by
  subst h; simp [List.getD]
theorem typL_len : ∀ (es : List Sh) (r : List D), typL es r → r.length = es.length
  | [], r, h => by rw [show r = [] from h]; rfl
  | e :: es, r, h => by
    obtain ⟨d, r', rfl, _, h⟩ := h
    simp only [List.length_cons, typL_len es r' h]
end Go.Den.L5

/- Marks laid and held. Printed by mark.py. -/
namespace Go.Den.L5
open Go
theorem st2_0 (a b : List (List D)) (i : Nat) (h : i = a.length) (c1 c2 d : D) : stR (a ++ [c1, c2] :: b) i 0 [d] = a ++ [d, c2] :: b := stR_mid a b _ _ i 0 h
theorem st2_1 (a b : List (List D)) (i : Nat) (h : i = a.length) (c1 c2 d : D) : stR (a ++ [c1, c2] :: b) i 1 [d] = a ++ [c1, d] :: b := stR_mid a b _ _ i 1 h
theorem len2 {r : List D} (h : r.length = 2) : ∃ c1 c2, r = [c1, c2] := by
  match r, h with
  | [c1, c2], _ => exact ⟨c1, c2, rfl⟩
noncomputable def rowMEntryS (k : Int) : List D := [.i .i64 (k), .s (mkT (k + 1))]
noncomputable def markedEntryS : Int → List (List D) → List (List D)
  | _, [] => []
  | k, _ :: b => rowMEntryS k :: markedEntryS (k + 1 + 1) b
theorem markEntryS_loop (n8 : Int) (q : Int → Int → Bool → List (List D) → Rs) (hq : ∀ a b c d, q a b c d = some ([.one (.i .i64 a)], [[.l d]])) : ∀ (b a : List (List D)) (m : Nat) (k : Int) (v10 : SV), (∀ r ∈ b, r.length = 2) → b.length < m → a.length + b.length ≤ 4000000 → 0 ≤ k → k + 2 * (b.length : Int) ≤ 4000000000000000000 →
    la61o0 t68 n8 q m k (a.length : Int) v10 (a ++ b) = some ([.one (.i .i64 (k + 2 * (b.length : Int)))], [[.l (a ++ markedEntryS k b)]]) := by
  intro b
  induction b with
  | nil =>
    intro a m k v10 h hm hl h0 hk
    obtain ⟨m, rfl⟩ : ∃ m', m = m' + 1 := ⟨m - 1, by omega⟩
    have e : decide ((a.length : Int) < ((a ++ ([] : List (List D))).length : Int)) = false := by simp
    have e2 : k + 2 * ((([] : List (List D)).length : Nat) : Int) = k := by simp
    simp only [la61o0, e, Bool.false_eq_true, if_false, hq, e2, markedEntryS]
  | cons r b ih =>
    intro a m k v10 h hm hl h0 hk
    obtain ⟨m, rfl⟩ : ∃ m', m = m' + 1 := ⟨m - 1, by omega⟩
    simp only [List.length_cons] at hm hl hk
    obtain ⟨c1, c2, rfl⟩ := len2 (h r (List.mem_cons_self ..))
    have hb : ∀ r ∈ b, r.length = 2 := fun r hr => h r (List.mem_cons_of_mem _ hr)
    have e1 : ∀ r : List D, decide ((a.length : Int) < ((a ++ r :: b).length : Int)) = true := fun r => decide_eq_true (by simp; omega)
    have e0 : decide (0 ≤ (a.length : Int)) = true := decide_eq_true (by omega)
    have p1 : ∀ r : List D, decide (1 ≤ 2 ∧ a.length < (a ++ r :: b).length) = true := fun r => decide_eq_true (by simp)
    have p2 : ∀ r : List D, decide (2 ≤ 2 ∧ a.length < (a ++ r :: b).length) = true := fun r => decide_eq_true (by simp)
    have u1 : w64 (k + 1) = k + 1 := w64_in _ (by omega)
    have u2 : w64 (k + 1 + 1) = k + 1 + 1 := w64_in _ (by omega)
    have t1 := markText_eq (k + 1) (by omega)
    have hw := w64_succ a.length (by omega)
    simp only [la61o0, e1, e0, if_true, Int.toNat_natCast, p1, p2, u1, u2, t1, markText_w, markText_r, st2_0 a b _ rfl, st2_1 a b _ rfl, Bool.and_true, chk_true, hw]
    have := fun (z0 : SV) => ih (a ++ [rowMEntryS k]) m (k + 1 + 1) z0 hb (by omega) (by simp; omega) (by omega) (by omega)
    have e3 : (a ++ [rowMEntryS k]).length = a.length + 1 := by simp
    simp only [e3, List.append_assoc] at this
    have e4 : k + 2 * ((([c1, c2] :: b).length : Nat) : Int) = k + 1 + 1 + 2 * (b.length : Int) := by simp only [List.length_cons]; omega
    have e5 : a ++ markedEntryS k ([c1, c2] :: b) = (a ++ [rowMEntryS k]) ++ markedEntryS (k + 1 + 1) b := by simp [markedEntryS]
    rw [e4, e5, List.append_assoc]
    exact this _
theorem markEntryS_eq (l : List (List D)) (h : ∀ r ∈ l, r.length = 2) (hl : l.length ≤ 4000000) (k : Int) (h0 : 0 ≤ k) (hk : k + 2 * (l.length : Int) ≤ 4000000000000000000) : t61 l k = some ([.one (.i .i64 (k + 2 * (l.length : Int)))], [[.l (markedEntryS k l)]]) := by
  unfold t61 ta61
  exact markEntryS_loop _ _ (fun _ _ _ _ => rfl) l [] KK k _ h (by rw [KK_eq]; omega) (by simpa using hl) h0 hk
theorem markKept_eq (x1 : Int) (x2 : Int) (x3 : Int) (x4 : Int) (x5 : ByteArray) (x6 : List (List D)) (mx6 : ∀ r ∈ x6, r.length = 2) (wx6 : x6.length ≤ 1048576) (k : Int) (h0 : 0 ≤ k) (hk : k ≤ 1000000000000) : t19 x1 x2 x3 x4 x5 x6 k = some ([.one (.i .i64 (k + 2 * (x6.length : Int)))], [[.i .i64 x1, .i .i64 x2, .i .i64 x3, .i .i64 x4, .s x5, .l (markedEntryS (k) x6)]]) := by
  simp only [t19, ta19, markEntryS_eq x6 mx6 (by omega) (k) (by omega) (by omega), zr61, zo61, okR, isVs, isV, isD, isDs, isOs, resC, outC, nthR, nthO, cellsDV, nthD, asB, asI, asS, asL, Bool.and_true, Bool.true_and, BEq.rfl, chk_true, decide_true]
theorem st5_0 (a b : List (List D)) (i : Nat) (h : i = a.length) (c1 c2 c3 c4 c5 d : D) : stR (a ++ [c1, c2, c3, c4, c5] :: b) i 0 [d] = a ++ [d, c2, c3, c4, c5] :: b := stR_mid a b _ _ i 0 h
theorem st5_1 (a b : List (List D)) (i : Nat) (h : i = a.length) (c1 c2 c3 c4 c5 d : D) : stR (a ++ [c1, c2, c3, c4, c5] :: b) i 1 [d] = a ++ [c1, d, c3, c4, c5] :: b := stR_mid a b _ _ i 1 h
theorem st5_2 (a b : List (List D)) (i : Nat) (h : i = a.length) (c1 c2 c3 c4 c5 d : D) : stR (a ++ [c1, c2, c3, c4, c5] :: b) i 2 [d] = a ++ [c1, c2, d, c4, c5] :: b := stR_mid a b _ _ i 2 h
theorem st5_3 (a b : List (List D)) (i : Nat) (h : i = a.length) (c1 c2 c3 c4 c5 d : D) : stR (a ++ [c1, c2, c3, c4, c5] :: b) i 3 [d] = a ++ [c1, c2, c3, d, c5] :: b := stR_mid a b _ _ i 3 h
theorem st5_4 (a b : List (List D)) (i : Nat) (h : i = a.length) (c1 c2 c3 c4 c5 d : D) : stR (a ++ [c1, c2, c3, c4, c5] :: b) i 4 [d] = a ++ [c1, c2, c3, c4, d] :: b := stR_mid a b _ _ i 4 h
theorem len5 {r : List D} (h : r.length = 5) : ∃ c1 c2 c3 c4 c5, r = [c1, c2, c3, c4, c5] := by
  match r, h with
  | [c1, c2, c3, c4, c5], _ => exact ⟨c1, c2, c3, c4, c5, rfl⟩
noncomputable def rowMRecS (k : Int) : List D := [.i .i64 (k), .i .i64 (k + 1), .i .i64 (k + 1 + 1), .i .i64 (k + 1 + 1 + 1), .s (mkT (k + 1 + 1 + 1 + 1))]
noncomputable def markedRecS : Int → List (List D) → List (List D)
  | _, [] => []
  | k, _ :: b => rowMRecS k :: markedRecS (k + 1 + 1 + 1 + 1 + 1) b
theorem markRecS_loop (n8 : Int) (q : Int → Int → Bool → List (List D) → Rs) (hq : ∀ a b c d, q a b c d = some ([.one (.i .i64 a)], [[.l d]])) : ∀ (b a : List (List D)) (m : Nat) (k : Int) (v10 : SV), (∀ r ∈ b, r.length = 5) → b.length < m → a.length + b.length ≤ 4000000 → 0 ≤ k → k + 5 * (b.length : Int) ≤ 4000000000000000000 →
    la29o0 t68 n8 q m k (a.length : Int) v10 (a ++ b) = some ([.one (.i .i64 (k + 5 * (b.length : Int)))], [[.l (a ++ markedRecS k b)]]) := by
  intro b
  induction b with
  | nil =>
    intro a m k v10 h hm hl h0 hk
    obtain ⟨m, rfl⟩ : ∃ m', m = m' + 1 := ⟨m - 1, by omega⟩
    have e : decide ((a.length : Int) < ((a ++ ([] : List (List D))).length : Int)) = false := by simp
    have e2 : k + 5 * ((([] : List (List D)).length : Nat) : Int) = k := by simp
    simp only [la29o0, e, Bool.false_eq_true, if_false, hq, e2, markedRecS]
  | cons r b ih =>
    intro a m k v10 h hm hl h0 hk
    obtain ⟨m, rfl⟩ : ∃ m', m = m' + 1 := ⟨m - 1, by omega⟩
    simp only [List.length_cons] at hm hl hk
    obtain ⟨c1, c2, c3, c4, c5, rfl⟩ := len5 (h r (List.mem_cons_self ..))
    have hb : ∀ r ∈ b, r.length = 5 := fun r hr => h r (List.mem_cons_of_mem _ hr)
    have e1 : ∀ r : List D, decide ((a.length : Int) < ((a ++ r :: b).length : Int)) = true := fun r => decide_eq_true (by simp; omega)
    have e0 : decide (0 ≤ (a.length : Int)) = true := decide_eq_true (by omega)
    have p1 : ∀ r : List D, decide (1 ≤ 5 ∧ a.length < (a ++ r :: b).length) = true := fun r => decide_eq_true (by simp)
    have p2 : ∀ r : List D, decide (2 ≤ 5 ∧ a.length < (a ++ r :: b).length) = true := fun r => decide_eq_true (by simp)
    have p3 : ∀ r : List D, decide (3 ≤ 5 ∧ a.length < (a ++ r :: b).length) = true := fun r => decide_eq_true (by simp)
    have p4 : ∀ r : List D, decide (4 ≤ 5 ∧ a.length < (a ++ r :: b).length) = true := fun r => decide_eq_true (by simp)
    have p5 : ∀ r : List D, decide (5 ≤ 5 ∧ a.length < (a ++ r :: b).length) = true := fun r => decide_eq_true (by simp)
    have u1 : w64 (k + 1) = k + 1 := w64_in _ (by omega)
    have u2 : w64 (k + 1 + 1) = k + 1 + 1 := w64_in _ (by omega)
    have u3 : w64 (k + 1 + 1 + 1) = k + 1 + 1 + 1 := w64_in _ (by omega)
    have u4 : w64 (k + 1 + 1 + 1 + 1) = k + 1 + 1 + 1 + 1 := w64_in _ (by omega)
    have u5 : w64 (k + 1 + 1 + 1 + 1 + 1) = k + 1 + 1 + 1 + 1 + 1 := w64_in _ (by omega)
    have t4 := markText_eq (k + 1 + 1 + 1 + 1) (by omega)
    have hw := w64_succ a.length (by omega)
    simp only [la29o0, e1, e0, if_true, Int.toNat_natCast, p1, p2, p3, p4, p5, u1, u2, u3, u4, u5, t4, markText_w, markText_r, st5_0 a b _ rfl, st5_1 a b _ rfl, st5_2 a b _ rfl, st5_3 a b _ rfl, st5_4 a b _ rfl, Bool.and_true, chk_true, hw]
    have := fun (z0 : SV) => ih (a ++ [rowMRecS k]) m (k + 1 + 1 + 1 + 1 + 1) z0 hb (by omega) (by simp; omega) (by omega) (by omega)
    have e3 : (a ++ [rowMRecS k]).length = a.length + 1 := by simp
    simp only [e3, List.append_assoc] at this
    have e4 : k + 5 * ((([c1, c2, c3, c4, c5] :: b).length : Nat) : Int) = k + 1 + 1 + 1 + 1 + 1 + 5 * (b.length : Int) := by simp only [List.length_cons]; omega
    have e5 : a ++ markedRecS k ([c1, c2, c3, c4, c5] :: b) = (a ++ [rowMRecS k]) ++ markedRecS (k + 1 + 1 + 1 + 1 + 1) b := by simp [markedRecS]
    rw [e4, e5, List.append_assoc]
    exact this _
theorem markRecS_eq (l : List (List D)) (h : ∀ r ∈ l, r.length = 5) (hl : l.length ≤ 4000000) (k : Int) (h0 : 0 ≤ k) (hk : k + 5 * (l.length : Int) ≤ 4000000000000000000) : t29 l k = some ([.one (.i .i64 (k + 5 * (l.length : Int)))], [[.l (markedRecS k l)]]) := by
  unfold t29 ta29
  exact markRecS_loop _ _ (fun _ _ _ _ => rfl) l [] KK k _ h (by rw [KK_eq]; omega) (by simpa using hl) h0 hk
theorem heldRecS_loop (n9 : Int) (q1 : Int → Int → Bool → Bool → SV → SV → SV → SV → Rs) (q2 : Int → Int → Bool → Bool → Bool → SV → SV → SV → Rs) (q3 : Int → Int → Bool → Bool → Bool → Bool → SV → SV → Rs) (q4 : Int → Int → Bool → Bool → Bool → Bool → Bool → SV → Rs) (q5 : Int → Int → Bool → Bool → Bool → Bool → Bool → Bool → Rs) (q6 : Int → Int → Bool → SV → SV → SV → SV → SV → Rs) (hq : ∀ x0 x1 x2 x3 x4 x5 x6 x7, q6 x0 x1 x2 x3 x4 x5 x6 x7 = some ([.one (.i .i64 x0)], [])) : ∀ (b a : List (List D)) (m : Nat) (k : Int) (v11 v12 v13 v14 v15 v16 : SV) (L : List (List D)) (i : Int), L = a ++ markedRecS k b → i = (a.length : Int) → b.length < m → a.length + b.length ≤ 4000000 → 0 ≤ k → k + 5 * (b.length : Int) ≤ 4000000000000000000 →
    la30o0 t68 L n9 q1 q2 q3 q4 q5 q6 m k i v11 v12 v13 v14 v15 v16 = some ([.one (.i .i64 (k + 5 * (b.length : Int)))], []) := by
  intro b
  induction b with
  | nil =>
    intro a m k v11 v12 v13 v14 v15 v16 L i hL hi hm hl h0 hk
    subst hL hi
    obtain ⟨m, rfl⟩ : ∃ m', m = m' + 1 := ⟨m - 1, by omega⟩
    have e : decide ((a.length : Int) < ((a ++ ([] : List (List D))).length : Int)) = false := by simp
    have e2 : k + 5 * ((([] : List (List D)).length : Nat) : Int) = k := by simp
    rw [show markedRecS k [] = [] from rfl]
    simp only [la30o0, e, Bool.false_eq_true, if_false, hq, e2]
  | cons r b ih =>
    intro a m k v11 v12 v13 v14 v15 v16 L i hL hi hm hl h0 hk
    subst hL hi
    obtain ⟨m, rfl⟩ : ∃ m', m = m' + 1 := ⟨m - 1, by omega⟩
    simp only [List.length_cons] at hm hl hk
    have e1 : ∀ (r : List D) (b : List (List D)), decide ((a.length : Int) < ((a ++ r :: b).length : Int)) = true := fun r b => decide_eq_true (by simp; omega)
    have e0 : decide (0 ≤ (a.length : Int)) = true := decide_eq_true (by omega)
    have eg : ∀ (r : List D) (b : List (List D)), (a ++ r :: b).getD a.length [] = r := fun r b => getD_mid a b r _ rfl
    have u1 : w64 (k + 1) = k + 1 := w64_in _ (by omega)
    have u2 : w64 (k + 1 + 1) = k + 1 + 1 := w64_in _ (by omega)
    have u3 : w64 (k + 1 + 1 + 1) = k + 1 + 1 + 1 := w64_in _ (by omega)
    have u4 : w64 (k + 1 + 1 + 1 + 1) = k + 1 + 1 + 1 + 1 := w64_in _ (by omega)
    have u5 : w64 (k + 1 + 1 + 1 + 1 + 1) = k + 1 + 1 + 1 + 1 + 1 := w64_in _ (by omega)
    have t4 := markText_eq (k + 1 + 1 + 1 + 1) (by omega)
    have hw := w64_succ a.length (by omega)
    have this := fun (z0 : SV) (z1 : SV) (z2 : SV) (z3 : SV) (z4 : SV) (z5 : SV) => ih (a ++ [rowMRecS k]) m (k + 1 + 1 + 1 + 1 + 1) z0 z1 z2 z3 z4 z5 _ _ rfl rfl (by omega) (by simp; omega) (by omega) (by omega)
    have e3 : (a ++ [rowMRecS k]).length = a.length + 1 := by simp
    simp only [e3, List.append_assoc] at this
    have e4 : k + 5 * (((r :: b).length : Nat) : Int) = k + 1 + 1 + 1 + 1 + 1 + 5 * (b.length : Int) := by simp only [List.length_cons]; omega
    have e5 : a ++ markedRecS k (r :: b) = a ++ rowMRecS k :: markedRecS (k + 1 + 1 + 1 + 1 + 1) b := rfl
    rw [e5]
    have ez : isRow z38 (rowMRecS k) = true := rfl
    have d0 : asI (nthD (rowMRecS k) 0) = k := rfl
    have d1 : asI (nthD (rowMRecS k) 1) = k + 1 := rfl
    have d2 : asI (nthD (rowMRecS k) 2) = k + 1 + 1 := rfl
    have d3 : asI (nthD (rowMRecS k) 3) = k + 1 + 1 + 1 := rfl
    have d4 : asS (nthD (rowMRecS k) 4) = mkT (k + 1 + 1 + 1 + 1) := rfl
    simp only [la30o0, e1, e0, if_true, Int.toNat_natCast, eg, ez, d0, d1, d2, d3, d4, u1, u2, u3, u4, u5, t4, markText_w, markText_r, bne_self_eq_false, beq_self_eq_true, Bool.not_true, Bool.false_eq_true, if_false, Bool.and_true, chk_true, hw]
    rw [e4]
    exact this _ _ _ _ _ _
theorem heldRecS_eq (l : List (List D)) (hl : l.length ≤ 4000000) (k : Int) (h0 : 0 ≤ k) (hk : k + 5 * (l.length : Int) ≤ 4000000000000000000) : t30 (markedRecS k l) k = some ([.one (.i .i64 (k + 5 * (l.length : Int)))], []) := by
  unfold t30 ta30
  exact heldRecS_loop _ _ _ _ _ _ _ (fun _ _ _ _ _ _ _ _ => rfl) l [] KK k _ _ _ _ _ _ _ _ rfl rfl (by rw [KK_eq]; omega) (by simpa using hl) h0 hk
end Go.Den.L5

/- Kept ones, cores. -/
namespace Go.Den.L5
open Go
def mx (p : Int) : Int := if p < 1 then 1 else p
theorem flat_of {n : Nat} {l : List (List D)} (h : ∀ r ∈ l, (decide (r.length = n) && allSc r) = true) : flatR n l = true := by
  induction l with
  | nil => rfl
  | cons r l ih => simp only [flatR, h r (by simp), ih (fun r hr => h r (by simp [hr])), Bool.and_true]
theorem entry_flat {l : List (List D)} (h : ∀ r ∈ l, typL shEntry r) : flatR 2 l = true := flat_of fun r hr => by
  obtain ⟨a, b, rfl, _⟩ := Entry_row (h r hr); rfl
theorem kept_loopS (n23 n24 n25 n26 : Int) (s27 : ByteArray) (l28 : List (List D)) (b29 b32 : Bool) (t n36 n37 n38 : Int) (s39 : ByteArray) (q1 : Int → Int → Bool → Bool → Int → ByteArray → Rs) (q2 : Int → Int → Bool → SV → Rs) (h1 : ∀ a b c d e f, q1 a b c d e f = some ([.one (.b false)], [])) (h2 : ∀ a b c d, q2 a b c d = some ([.one (.b true)], [])) (l : List (List D)) (h : ∀ r ∈ l, typL shEntry r) (hl : l.length < 4611686018427387904) : ∀ (k i m : Nat) (p : Int) (v w : SV), i + k = l.length → k < m →
    la51o1 t83 t84 n23 n24 n25 n26 s27 l28 b29 b32 t n36 n37 n38 s39 l q1 q2 m p i v w = some ([.one (.b (runB l t k i (mx p)))], []) := by
  intro k
  induction k with
  | zero =>
    intro i m p v w e hm
    obtain ⟨m, rfl⟩ : ∃ m', m = m' + 1 := ⟨m - 1, by omega⟩
    have ei : decide ((i : Int) < (l.length : Int)) = false := by simp; omega
    simp only [la51o1, ei, h2, runB]
    simp
  | succ k ih =>
    intro i m p v w e hm
    obtain ⟨m, rfl⟩ : ∃ m', m = m' + 1 := ⟨m - 1, by omega⟩
    have e1 := nat_in (i := i) (n := l.length) (by omega)
    have ez := row_in h _ entry_row i (by omega)
    simp only [la51o1, e1, nat_pos, Int.toNat_natCast, ez, Bool.and_true, chk_true, if_true, runB]
    rw [w64_succ i (by omega)]
    have hm1 : mx p = if p < 1 then 1 else p := rfl
    by_cases g : mx p ≤ asI (nthD (l.getD i []) 0) ∧ asI (nthD (l.getD i []) 0) ≤ t ∧ ((asS (nthD (l.getD i []) 1)).size : Int) ≤ 1600
    · have g1 : (((decide (asI (nthD (l.getD i []) 0) < 1) || decide (asI (nthD (l.getD i []) 0) < p)) || decide (asI (nthD (l.getD i []) 0) > t)) || decide (((asS (nthD (l.getD i []) 1)).size : Int) > 1600)) = false := by
        simp only [Bool.or_eq_false_iff, decide_eq_false_iff_not]; rw [hm1] at g; split at g <;> omega
      simp only [g1, decide_eq_true g, Bool.true_and, Bool.false_eq_true, if_false]
      have hmx : mx (asI (nthD (l.getD i []) 0)) = asI (nthD (l.getD i []) 0) := by unfold mx; rw [hm1] at g; split at g <;> (rw [if_neg (by omega)])
      have := ih (i + 1) m (asI (nthD (l.getD i []) 0)) (.d (.b true)) (.d (.b false)) (by omega) (by omega)
      rw [hmx] at this
      exact this
    · have g1 : (((decide (asI (nthD (l.getD i []) 0) < 1) || decide (asI (nthD (l.getD i []) 0) < p)) || decide (asI (nthD (l.getD i []) 0) > t)) || decide (((asS (nthD (l.getD i []) 1)).size : Int) > 1600)) = true := by
        simp only [Bool.or_eq_true, decide_eq_true_eq]; rw [hm1] at g; split at g <;> omega
      simp only [g1, if_true, h1, decide_eq_false g, Bool.false_and]
theorem kept_loopI (n26 n27 n28 n29 : Int) (s30 : ByteArray) (l31 : List (List D)) (b32 b34 b35 : Bool) (t n42 n43 n44 : Int) (s45 : ByteArray) (l46 : List (List D)) (q1 : Int → Int → Bool → Bool → Int → ByteArray → Rs) (q2 : Int → Int → Bool → SV → Rs) (g : Bool) (h1 : ∀ a b c d e f, q1 a b c d e f = some ([.one (.b false)], [])) (h2 : ∀ a b c d, q2 a b c d = some ([.one (.b g)], [])) (l : List (List D)) (h : ∀ r ∈ l, typL shEntry r) (hl : l.length < 4611686018427387904) : ∀ (k i m : Nat) (p : Int) (v w : SV), i + k = l.length → k < m →
    la56o2 t76 n26 n27 n28 n29 s30 l31 b32 b34 b35 l (l.length : Int) t n42 n43 n44 s45 l46 q1 q2 m p i v w = some ([.one (.b (runB l t k i p && g))], []) := by
  intro k
  induction k with
  | zero =>
    intro i m p v w e hm
    obtain ⟨m, rfl⟩ : ∃ m', m = m' + 1 := ⟨m - 1, by omega⟩
    have ei : decide ((i : Int) < (l.length : Int)) = false := by simp; omega
    simp only [la56o2, ei, h2, runB]
    simp
  | succ k ih =>
    intro i m p v w e hm
    obtain ⟨m, rfl⟩ : ∃ m', m = m' + 1 := ⟨m - 1, by omega⟩
    have e1 := nat_in (i := i) (n := l.length) (by omega)
    have ez := row_in h _ entry_row i (by omega)
    have ew : ∀ x, okR zr76 zo76 (some ([.one (.b x)], [])) = true := fun _ => rfl
    have eb : ∀ x, asB (resC (some ([.one (.b x)], [])) 0 0) = x := fun _ => rfl
    simp only [la56o2, e1, nat_pos, Int.toNat_natCast, ez, within_eq, ew, eb, Bool.and_true, Bool.true_or, chk_true, if_true, runB]
    rw [w64_succ i (by omega)]
    by_cases g' : p ≤ asI (nthD (l.getD i []) 0) ∧ asI (nthD (l.getD i []) 0) ≤ t ∧ ((asS (nthD (l.getD i []) 1)).size : Int) ≤ 1600
    · have g1 : (decide (((asS (nthD (l.getD i []) 1)).size : Int) > 1600) || !(decide (p ≤ asI (nthD (l.getD i []) 0)) && decide (asI (nthD (l.getD i []) 0) ≤ t))) = false := by
        simp only [Bool.or_eq_false_iff, Bool.not_eq_false', Bool.and_eq_true, decide_eq_false_iff_not, decide_eq_true_eq]; omega
      simp only [g1, decide_eq_true g', Bool.true_and, Bool.false_eq_true, if_false]
      exact ih (i + 1) m _ _ _ (by omega) (by omega)
    · have g1 : (decide (((asS (nthD (l.getD i []) 1)).size : Int) > 1600) || !(decide (p ≤ asI (nthD (l.getD i []) 0)) && decide (asI (nthD (l.getD i []) 0) ≤ t))) = true := by
        simp only [Bool.or_eq_true, Bool.not_eq_true', Bool.and_eq_false_iff, decide_eq_false_iff_not, decide_eq_true_eq]; omega
      simp only [g1, if_true, h1, decide_eq_false g', Bool.false_and]
def keptA (t v si st : Int) (ss : ByteArray) (l : List (List D)) : Bool :=
  decide (0 ≤ t ∧ t ≤ 100000 ∧ -1 ≤ v ∧ v ≤ 4 ∧ (si = 0 → (ss.size : Int) = 0) ∧ (ss.size : Int) ≤ 20000 ∧ st ≤ t ∧ (l.length : Int) ≤ 60 ∧ w64 (si + (l.length : Int)) ≤ 100000) && placeB si st
def keptB (t v si st : Int) (ss : ByteArray) (l : List (List D)) : Bool := keptA t v si st ss l && runB l t l.length 0 (mx st)
theorem keptOk_spec (t v si st : Int) (ss : ByteArray) (l : List (List D)) (hl : l.length ≤ 1048576) (h : ∀ r ∈ l, typL shEntry r) : t51 t v si st ss l = some ([.one (.b (keptB t v si st ss l))], []) := by
  have ew : ∀ x, okR zr83 zo83 (some ([.one (.b x)], [])) = true := fun _ => rfl
  have ew2 : ∀ x, okR zr84 zo84 (some ([.one (.b x)], [])) = true := fun _ => rfl
  have eb : ∀ x, asB (resC (some ([.one (.b x)], [])) 0 0) = x := fun _ => rfl
  have key := fun b29 b32 => kept_loopS t v si st ss l b29 b32 t v si st ss (fun _ _ _ _ _ _ => some ([.one (.b false)], [])) (fun _ _ _ _ => some ([.one (.b true)], [])) (fun _ _ _ _ _ _ => rfl) (fun _ _ _ _ => rfl) l h (by omega) l.length 0 KK st .undef .undef (by omega) (by rw [KK_eq]; omega)
  simp only [t51, ta51, in_eq, place_spec, ew, ew2, eb, Bool.true_or, chk_true]
  rw [ite_not _ (keptA t v si st ss l)]
  · unfold keptB
    cases keptA t v si st ss l
    · rfl
    · refine Eq.trans (key _ _) ?_; simp
  · unfold keptA
    generalize placeB si st = pl
    rw [Bool.eq_iff_iff]
    cases pl <;> simp [-ByteArray.size_eq_zero_iff] <;> try omega
theorem keptOk_impl (t v si st : Int) (ss : ByteArray) (l : List (List D)) (hl : l.length ≤ 1048576) (h : ∀ r ∈ l, typL shEntry r) : t56 t v si st ss l = some ([.one (.b (keptB t v si st ss l))], []) := by
  have ew : ∀ x, okR zr76 zo76 (some ([.one (.b x)], [])) = true := fun _ => rfl
  have eb : ∀ x, asB (resC (some ([.one (.b x)], [])) 0 0) = x := fun _ => rfl
  have key := fun b32 b34 b35 => kept_loopI t v si st ss l b32 b34 b35 t v si st ss l (fun _ _ _ _ _ _ => some ([.one (.b false)], [])) (fun _ _ _ _ => some ([.one (.b (decide (w64 (si + (l.length : Int)) ≤ 100000)))], [])) _ (fun _ _ _ _ _ _ => rfl) (fun _ _ _ _ => rfl) l h (by omega) l.length 0 KK (mx st) .undef .undef (by omega) (by rw [KK_eq]; omega)
  have e : (if st > 1 then st else 1) = mx st := by unfold mx; split <;> split <;> omega
  simp only [t56, ta56, within_eq, ew, eb, Bool.true_or, chk_true, e]
  unfold keptB keptA placeB
  split
  · rename_i g
    apply bool_some
    symm
    rw [Bool.eq_false_iff]
    simp at g ⊢
    omega
  · rename_i g
    split
    · rename_i g2
      apply bool_some
      symm
      rw [Bool.eq_false_iff]
      simp [-ByteArray.size_eq_zero_iff] at g g2 ⊢
      omega
    · rename_i g2
      refine Eq.trans (key _ _ _) ?_
      apply bool_some
      rw [Bool.eq_iff_iff]
      generalize runB l t l.length 0 (mx st) = r
      cases r
      · simp
      · simp [-ByteArray.size_eq_zero_iff] at g g2 ⊢
        omega
end Go.Den.L5

/- Records: are they right, do they fit, what they lead to. -/
namespace Go.Den.L5
open Go
structure KS where
  (t v si st : Int) (sd : ByteArray) (es : List (List D))
structure RC where
  (k t i v : Int) (d : ByteArray)
def kD (k : KS) : List D := [.i .i64 k.t, .i .i64 k.v, .i .i64 k.si, .i .i64 k.st, .s k.sd, .l k.es]
def recOk (r : RC) : Bool :=
  (decide (r.k = 1) && decide (0 ≤ r.t ∧ r.t ≤ 100000 ∧ -1 ≤ r.v ∧ r.v ≤ 4 ∧ r.i = 0 ∧ (r.d.size : Int) = 0)) ||
  (decide (r.k = 2) && decide (1 ≤ r.t ∧ r.t ≤ 100000 ∧ 1 ≤ r.i ∧ r.i ≤ 100000 ∧ r.v = 0 ∧ (r.d.size : Int) ≤ 1600)) ||
  (decide (r.k = 3) && decide (r.t = 0 ∧ 1 ≤ r.i ∧ r.i ≤ 100000 ∧ r.v = 0 ∧ (r.d.size : Int) = 0)) ||
  (decide (r.k = 4) && decide (1 ≤ r.t ∧ r.t ≤ 100000 ∧ 1 ≤ r.i ∧ r.i ≤ 100000 ∧ r.v = 0 ∧ (r.d.size : Int) ≤ 20000))
def lastT (k : KS) : Int := if k.es.length = 0 then k.st else asI (nthD (k.es.getD (k.es.length - 1) []) 0)
def fitsB (k : KS) (r : RC) : Bool :=
  if r.k = 1 then decide (r.t > k.t ∨ (r.t = k.t ∧ (k.v = -1 ∨ r.v = k.v)))
  else if r.k = 2 then decide (r.i = k.si + (k.es.length : Int) + 1 ∧ k.es.length < 60 ∧ lastT k ≤ r.t ∧ r.t ≤ k.t)
  else if r.k = 3 then decide (k.si < r.i ∧ r.i ≤ k.si + (k.es.length : Int))
  else decide (k.si < r.i ∧ r.t ≤ k.t)
def behindA (k : KS) (i t : Int) : List (List D) :=
  if i - k.si ≤ (k.es.length : Int) ∧ asI (nthD (k.es.getD (i - k.si - 1).toNat []) 0) = t then k.es.drop (i - k.si).toNat else []
def stepK (k : KS) (r : RC) : KS × Bool :=
  if recOk r && fitsB k r then
    if r.k = 1 then (⟨r.t, r.v, k.si, k.st, k.sd, k.es⟩, true)
    else if r.k = 2 then (⟨k.t, k.v, k.si, k.st, k.sd, k.es ++ [[.i .i64 r.t, .s r.d]]⟩, true)
    else if r.k = 3 then (⟨k.t, k.v, k.si, k.st, k.sd, k.es.take (r.i - k.si - 1).toNat⟩, true)
    else (⟨k.t, k.v, r.i, r.t, r.d, behindA k r.i r.t⟩, true)
  else (k, false)
/-- What every kept one that is right fulfils. -/
structure KI (k : KS) : Prop where
  h0 : 0 ≤ k.si
  h1 : k.si ≤ 100000
  h2 : k.es.length ≤ 60
  h3 : ∀ r ∈ k.es, typL shEntry r
theorem wfi64 (n : Int) (h : -9223372036854775808 ≤ n ∧ n ≤ 9223372036854775807) : (Lit.int .i64 n).wf = true := by
  have : IntKind.wrap .i64 n = n := w64_in n h
  simp [Lit.wf, this]
  exact h
theorem KI.step {k : KS} (h : KI k) (r : RC) (g : recOk r = true) : KI (stepK k r).1 := by
  unfold stepK
  split
  · rename_i hc
    simp only [Bool.and_eq_true] at hc
    have hf := hc.2
    have hr := hc.1
    simp only [recOk, Bool.or_eq_true, Bool.and_eq_true, decide_eq_true_eq] at hr
    split
    · exact ⟨h.h0, h.h1, h.h2, h.h3⟩
    split
    · rename_i h2
      simp only [fitsB, h2] at hf
      simp at hf
      refine ⟨h.h0, h.h1, by simp; omega, fun x hx => ?_⟩
      rcases List.mem_append.1 hx with hx | hx
      · exact h.h3 x hx
      · simp at hx; subst hx
        have hm : 1600 ≤ maxLen := by decide
        exact ⟨_, _, rfl, ⟨r.t, rfl, wfi64 _ (by omega)⟩, _, _, rfl, ⟨r.d, rfl, by omega⟩, rfl⟩
    split
    · exact ⟨h.h0, h.h1, by have := h.h2; simp; omega, fun x hx => h.h3 x (List.mem_of_mem_take hx)⟩
    · refine ⟨by simp only; omega, by simp only; omega, ?_, fun x hx => ?_⟩
      · have := h.h2
        unfold behindA; split
        · simp; omega
        · simp
      · unfold behindA at hx; split at hx
        · exact h.h3 x (List.mem_of_mem_drop hx)
        · simp at hx
  · exact h
theorem keptB_KI {t v si st : Int} {ss : ByteArray} {l : List (List D)} (h : ∀ r ∈ l, typL shEntry r) (hb : keptB t v si st ss l = true) : KI ⟨t, v, si, st, ss, l⟩ := by
  simp only [keptB, keptA, placeB, Bool.and_eq_true, decide_eq_true_eq] at hb
  exact ⟨by simp only; omega, by simp only; omega, by simp only; omega, h⟩
theorem recOk_spec (a b c d : Int) (e : ByteArray) : t85 a b c d e = some ([.one (.b (recOk ⟨a, b, c, d, e⟩))], []) := by
  simp [-ByteArray.size_eq_zero_iff, t85, ta85, in_eq, zr83, zo83, recOk]
  (repeat' split) <;> (apply bool_some; rw [Bool.eq_iff_iff]; simp [-ByteArray.size_eq_zero_iff]; omega)
theorem recOk_impl (a b c d : Int) (e : ByteArray) : t45 a b c d e = some ([.one (.b (recOk ⟨a, b, c, d, e⟩))], []) := by
  simp [-ByteArray.size_eq_zero_iff, t45, ta45, within_eq, zr76, zo76, recOk]
  (repeat' split) <;> (apply bool_some; rw [Bool.eq_iff_iff]; simp [-ByteArray.size_eq_zero_iff]; omega)
theorem last_row {k : KS} (h : KI k) (hn : ¬ k.es.length = 0) : w64 ((k.es.length : Int) - 1) = ((k.es.length - 1 : Nat) : Int) ∧ (decide ((0 : Int) ≤ ((k.es.length - 1 : Nat) : Int)) && decide (((k.es.length - 1 : Nat) : Int) < (k.es.length : Int)) && isRow z90 (k.es.getD (k.es.length - 1) [])) = true := by
  have := h.h2
  refine ⟨by rw [w64_in _ (by omega)]; omega, ?_⟩
  rw [nat_pos, nat_in (show k.es.length - 1 < k.es.length by omega), row_in h.h3 _ entry_row _ (by omega)]
  rfl
theorem lastT_spec (k : KS) (h : KI k) : t94 k.t k.v k.si k.st k.sd k.es = some ([.one (.i .i64 (lastT k))], []) := by
  unfold t94 lastT
  by_cases hn : k.es.length = 0
  · have e : ((k.es.length : Int) == 0) = true := by simp [hn]
    simp only [e, if_true, if_pos hn]
  · have e : ((k.es.length : Int) == 0) = false := by rw [beq_eq_false_iff_ne]; omega
    obtain ⟨e1, e2⟩ := last_row h hn
    simp only [e, Bool.false_eq_true, if_false, if_neg hn, e1, Int.toNat_natCast, e2, chk_true]
theorem fits_spec (k : KS) (h : KI k) (r : RC) (hr : recOk r = true) : t86 k.t k.v k.si k.st k.sd k.es r.k r.t r.i r.v r.d = some ([.one (.b (fitsB k r))], []) := by
  have h0 := h.h0; have h1 := h.h1; have h2 := h.h2
  have ew : ∀ x, okR zr94 zo94 (some ([.one (.i .i64 x)], [])) = true := fun _ => rfl
  have eb : ∀ x, asI (resC (some ([.one (.i .i64 x)], [])) 0 0) = x := fun _ => rfl
  have e1 : w64 (k.si + (k.es.length : Int)) = k.si + (k.es.length : Int) := w64_in _ (by omega)
  have e2 : w64 (k.si + (k.es.length : Int) + 1) = k.si + (k.es.length : Int) + 1 := w64_in _ (by omega)
  simp only [t86, ta86, lastT_spec k h, ew, eb, e1, e2, Bool.true_or, chk_true, fitsB]
  have hk : r.k = 1 ∨ r.k = 2 ∨ r.k = 3 ∨ r.k = 4 := by
    simp only [recOk, Bool.or_eq_true, Bool.and_eq_true, decide_eq_true_eq] at hr; omega
  rcases hk with hk | hk | hk | hk <;> (simp [hk]; try (rw [Bool.eq_iff_iff]; simp; try omega))
theorem last_implK (k : KS) (h : KI k) : t95 k.t k.v k.si k.st k.sd k.es = some ([.one (.i .i64 (k.si + (k.es.length : Int))), .one (.i .i64 (lastT k))], []) := by
  have h0 := h.h0; have h1 := h.h1; have h2 := h.h2
  have e1 : w64 (k.si + (k.es.length : Int)) = k.si + (k.es.length : Int) := w64_in _ (by omega)
  unfold t95 lastT
  by_cases hn : k.es.length = 0
  · have e : ((k.es.length : Int) == 0) = true := by simp [hn]
    have e0 : k.si + (k.es.length : Int) = k.si := by omega
    simp only [e, if_true, if_pos hn, e0]
  · have e : ((k.es.length : Int) == 0) = false := by rw [beq_eq_false_iff_ne]; omega
    obtain ⟨e3, e2⟩ := last_row h hn
    simp only [e, Bool.false_eq_true, if_false, if_neg hn, e1, e3, Int.toNat_natCast, e2, chk_true]
theorem fits_impl (k : KS) (h : KI k) (r : RC) (hr : recOk r = true) : t88 k.t k.v k.si k.st k.sd k.es r.k r.t r.i r.v r.d = some ([.one (.b (fitsB k r))], []) := by
  have h0 := h.h0; have h1 := h.h1; have h2 := h.h2
  have ew : ∀ x y, okR zr95 zo95 (some ([.one (.i .i64 x), .one (.i .i64 y)], [])) = true := fun _ _ => rfl
  have eb : ∀ x y, asI (resC (some ([.one (.i .i64 x), .one (.i .i64 y)], [])) 0 0) = x := fun _ _ => rfl
  have ec : ∀ x y, asI (resC (some ([.one (.i .i64 x), .one (.i .i64 y)], [])) 1 0) = y := fun _ _ => rfl
  have ew2 : ∀ x, okR zr76 zo76 (some ([.one (.b x)], [])) = true := fun _ => rfl
  have eb2 : ∀ x, asB (resC (some ([.one (.b x)], [])) 0 0) = x := fun _ => rfl
  have e2 : w64 (k.si + (k.es.length : Int) + 1) = k.si + (k.es.length : Int) + 1 := w64_in _ (by omega)
  have e3 : w64 (k.si + 1) = k.si + 1 := w64_in _ (by omega)
  simp only [t88, ta88, last_implK k h, within_eq, ew, eb, ec, ew2, eb2, e2, e3, Bool.true_or, chk_true, fitsB]
  have hk : r.k = 1 ∨ r.k = 2 ∨ r.k = 3 ∨ r.k = 4 := by
    simp only [recOk, Bool.or_eq_true, Bool.and_eq_true, decide_eq_true_eq] at hr; omega
  rcases hk with hk | hk | hk | hk <;> (simp [hk]; try (rw [Bool.eq_iff_iff]; simp; try omega))
theorem eflat1 (t : Int) (d : ByteArray) (l : List (List D)) (h : l.length ≤ 60) : ((flatR 2 [[.i .i64 t, .s d]]) && decide (l.length + [[D.i .i64 t, D.s d]].length ≤ lim)) = true := by
  have : l.length + 1 ≤ lim := by unfold lim; omega
  simpa [flatR, allSc, isSc] using this
theorem edrop {k : KS} (h : KI k) (n : Nat) : flatR 2 (k.es.drop n) = true := entry_flat fun r hr => h.h3 r (List.mem_of_mem_drop hr)
theorem step_spec (k : KS) (h : KI k) (r : RC) : t52 k.t k.v k.si k.st k.sd k.es r.k r.t r.i r.v r.d = some ([.agg (kD (stepK k r).1), .one (.b (stepK k r).2)], []) := by
  have h0 := h.h0; have h1 := h.h1; have h2 := h.h2
  have ew : ∀ x, okR zr85 zo85 (some ([.one (.b x)], [])) = true := fun _ => rfl
  have ew2 : ∀ x, okR zr86 zo86 (some ([.one (.b x)], [])) = true := fun _ => rfl
  have eb : ∀ x, asB (resC (some ([.one (.b x)], [])) 0 0) = x := fun _ => rfl
  simp only [t52, ta52, recOk_spec, ew, eb, chk_true]
  unfold stepK
  cases hr : recOk r
  · simp only [Bool.not_false, Bool.not_true, Bool.or_true, Bool.true_or, chk_true, if_true, Bool.false_and, Bool.false_eq_true, if_false]
    rfl
  · simp only [fits_spec k h r hr, ew2, eb, Bool.not_true, Bool.not_false, Bool.or_true, Bool.true_or, Bool.false_or, Bool.true_and, chk_true]
    cases hf : fitsB k r
    · simp only [Bool.not_false, if_true, Bool.false_eq_true, if_false]
      rfl
    · simp only [Bool.not_true, Bool.false_eq_true, if_false, if_true]
      have hr' := hr
      simp only [recOk, Bool.or_eq_true, Bool.and_eq_true, decide_eq_true_eq] at hr'
      have hk : r.k = 1 ∨ r.k = 2 ∨ r.k = 3 ∨ r.k = 4 := by omega
      rcases hk with hk | hk | hk | hk
      · simp only [hk]; rfl
      · have g1 : (r.k == 1) = false := by rw [hk]; rfl
        have g2 : (r.k == 2) = true := by rw [hk]; rfl
        simp only [g1, g2, Bool.false_eq_true, if_false, if_true, eflat1 _ _ _ h2, chk_true, if_neg (show ¬ r.k = 1 by omega), if_pos hk]
        rfl
      · have g1 : (r.k == 1) = false := by rw [hk]; rfl
        have g2 : (r.k == 2) = false := by rw [hk]; rfl
        have g3 : (r.k == 3) = true := by rw [hk]; rfl
        have hf' : k.si < r.i ∧ r.i ≤ k.si + (k.es.length : Int) := by simpa [fitsB, hk] using hf
        have e1 : w64 (w64 (r.i - k.si) - 1) = r.i - k.si - 1 := by rw [w64_in (r.i - k.si) (by omega), w64_in _ (by omega)]
        have e2 : decide (0 ≤ r.i - k.si - 1 ∧ r.i - k.si - 1 ≤ (k.es.length : Int)) = true := decide_eq_true (by omega)
        simp only [g1, g2, g3, Bool.false_eq_true, if_false, if_true, e1, e2, chk_true, if_neg (show ¬ r.k = 1 by omega), if_neg (show ¬ r.k = 2 by omega), if_pos hk]
        rfl
      · have g1 : (r.k == 1) = false := by rw [hk]; rfl
        have g2 : (r.k == 2) = false := by rw [hk]; rfl
        have g3 : (r.k == 3) = false := by rw [hk]; rfl
        have hf' : k.si < r.i ∧ r.t ≤ k.t := by simpa [fitsB, hk] using hf
        have eB : t65 k.t k.v k.si k.st k.sd k.es r.i r.t = some ([.one (.l (behindA k r.i r.t))], []) := by
          have e1 : w64 (r.i - k.si) = r.i - k.si := w64_in _ (by omega)
          have e2 : w64 (r.i - k.si - 1) = r.i - k.si - 1 := w64_in _ (by omega)
          have e3 : decide (r.i - k.si ≥ 1) = true := decide_eq_true (by omega)
          simp only [t65, e1, e2, e3, Bool.true_and, behindA]
          by_cases hl : r.i - k.si ≤ (k.es.length : Int)
          · have e4 : decide (r.i - k.si ≤ (k.es.length : Int)) = true := decide_eq_true hl
            have e5 : (decide (0 ≤ r.i - k.si - 1) && decide (r.i - k.si - 1 < (k.es.length : Int)) && isRow z90 (k.es.getD (r.i - k.si - 1).toNat [])) = true := by
              rw [decide_eq_true (by omega), decide_eq_true (by omega), row_in h.h3 _ entry_row _ (by omega)]; rfl
            have e6 : decide (0 ≤ r.i - k.si ∧ r.i - k.si ≤ (k.es.length : Int) ∧ (k.es.getD 0 z90).length = z90.length) = true := by
              refine decide_eq_true ⟨by omega, hl, ?_⟩
              cases hes : k.es with
              | nil => rfl
              | cons x xs =>
                have := h.h3 x (by rw [hes]; simp)
                obtain ⟨a, b, rfl, _⟩ := Entry_row this
                rfl
            have e7 : ((flatR 2 (k.es.drop (r.i - k.si).toNat)) && decide (([] : List (List D)).length + (k.es.drop (r.i - k.si).toNat).length ≤ lim)) = true := by
              rw [edrop h, decide_eq_true (by unfold lim; simp; omega)]; rfl
            simp only [e4, e5, e6, e7, Bool.true_and, Bool.true_or, chk_true, List.nil_append]
            by_cases ht : asI (nthD (k.es.getD (r.i - k.si - 1).toNat []) 0) = r.t
            · rw [if_pos (by simpa using ht), if_pos ⟨hl, ht⟩]
            · rw [if_neg (by simpa using ht), if_neg (fun x => ht x.2)]
          · have e4 : decide (r.i - k.si ≤ (k.es.length : Int)) = false := decide_eq_false hl
            simp only [e4, Bool.not_false, Bool.or_true, chk_true, Bool.false_and, Bool.false_eq_true, if_false]
            rw [if_neg (fun x => hl x.1)]
        have ew3 : ∀ x, okR zr65 zo65 (some ([.one (.l x)], [])) = true := fun _ => rfl
        have eb3 : ∀ x, asL (resC (some ([.one (.l x)], [])) 0 0) = x := fun _ => rfl
        simp only [g1, g2, g3, Bool.false_eq_true, if_false, eB, ew3, eb3, chk_true, if_neg (show ¬ r.k = 1 by omega), if_neg (show ¬ r.k = 2 by omega), if_neg (show ¬ r.k = 3 by omega)]
        rfl
theorem step_impl (k : KS) (h : KI k) (r : RC) : t58 k.t k.v k.si k.st k.sd k.es r.k r.t r.i r.v r.d = some ([.one (.b (stepK k r).2)], [kD (stepK k r).1]) := by
  have h0 := h.h0; have h1 := h.h1; have h2 := h.h2
  have ew : ∀ x, okR zr45 zo45 (some ([.one (.b x)], [])) = true := fun _ => rfl
  have ew2 : ∀ x, okR zr88 zo88 (some ([.one (.b x)], [])) = true := fun _ => rfl
  have eb : ∀ x, asB (resC (some ([.one (.b x)], [])) 0 0) = x := fun _ => rfl
  simp only [t58, ta58, recOk_impl, ew, eb, chk_true]
  unfold stepK
  cases hr : recOk r
  · simp only [Bool.not_false, Bool.not_true, Bool.or_true, Bool.true_or, chk_true, if_true, Bool.false_and, Bool.false_eq_true, if_false]
    rfl
  · simp only [fits_impl k h r hr, ew2, eb, Bool.not_true, Bool.not_false, Bool.or_true, Bool.true_or, Bool.false_or, Bool.true_and, chk_true]
    cases hf : fitsB k r
    · simp only [Bool.not_false, if_true, Bool.false_eq_true, if_false]
      rfl
    · simp only [Bool.not_true, Bool.false_eq_true, if_false, if_true]
      have hr' := hr
      simp only [recOk, Bool.or_eq_true, Bool.and_eq_true, decide_eq_true_eq] at hr'
      have hk : r.k = 1 ∨ r.k = 2 ∨ r.k = 3 ∨ r.k = 4 := by omega
      rcases hk with hk | hk | hk | hk
      · simp only [hk]; rfl
      · have g1 : (r.k == 1) = false := by rw [hk]; rfl
        have g2 : (r.k == 2) = true := by rw [hk]; rfl
        simp only [g1, g2, Bool.false_eq_true, if_false, if_true, eflat1 _ _ _ h2, chk_true, if_neg (show ¬ r.k = 1 by omega), if_pos hk]
        rfl
      · have g1 : (r.k == 1) = false := by rw [hk]; rfl
        have g2 : (r.k == 2) = false := by rw [hk]; rfl
        have g3 : (r.k == 3) = true := by rw [hk]; rfl
        have hf' : k.si < r.i ∧ r.i ≤ k.si + (k.es.length : Int) := by simpa [fitsB, hk] using hf
        have e1 : w64 (w64 (r.i - k.si) - 1) = r.i - k.si - 1 := by rw [w64_in (r.i - k.si) (by omega), w64_in _ (by omega)]
        have e2 : decide (0 ≤ r.i - k.si - 1 ∧ r.i - k.si - 1 ≤ (k.es.length : Int) ∧ True) = true := decide_eq_true ⟨by omega, by omega, trivial⟩
        simp only [g1, g2, g3, Bool.false_eq_true, if_false, if_true, e1, e2, chk_true, if_neg (show ¬ r.k = 1 by omega), if_neg (show ¬ r.k = 2 by omega), if_pos hk]
        rfl
      · have g1 : (r.k == 1) = false := by rw [hk]; rfl
        have g2 : (r.k == 2) = false := by rw [hk]; rfl
        have g3 : (r.k == 3) = false := by rw [hk]; rfl
        have hf' : k.si < r.i ∧ r.t ≤ k.t := by simpa [fitsB, hk] using hf
        have e1 : w64 (r.i - k.si) = r.i - k.si := w64_in _ (by omega)
        have e2 : w64 (r.i - k.si - 1) = r.i - k.si - 1 := w64_in _ (by omega)
        simp only [g1, g2, g3, Bool.false_eq_true, if_false, e1, e2, if_neg (show ¬ r.k = 1 by omega), if_neg (show ¬ r.k = 2 by omega), if_neg (show ¬ r.k = 3 by omega), behindA]
        by_cases hl : r.i - k.si ≤ (k.es.length : Int)
        · have e4 : decide (r.i - k.si ≤ (k.es.length : Int)) = true := decide_eq_true hl
          have e5 : (decide (0 ≤ r.i - k.si - 1) && decide (r.i - k.si - 1 < (k.es.length : Int))) = true := by
            rw [decide_eq_true (by omega), decide_eq_true (by omega)]; rfl
          have e6 : (decide (1 ≤ (k.es.getD (r.i - k.si - 1).toNat []).length) && isF z3 0 (k.es.getD (r.i - k.si - 1).toNat [])) = true := by
            obtain ⟨a, b, he, _⟩ := Entry_row (getD_row h.h3 (i := (r.i - k.si - 1).toNat) (by omega))
            rw [he]; rfl
          have e8 : decide (0 ≤ r.i - k.si ∧ r.i - k.si ≤ (k.es.length : Int)) = true := decide_eq_true (by omega)
          have e7 : ((flatR 2 (k.es.drop (r.i - k.si).toNat)) && decide ((k.es.drop (r.i - k.si).toNat).length ≤ lim)) = true := by
            rw [edrop h, decide_eq_true (by unfold lim; simp; omega)]; rfl
          simp only [e4, e5, e6, e7, e8, Bool.true_and, Bool.true_or, chk_true]
          by_cases ht : asI (nthD (k.es.getD (r.i - k.si - 1).toNat []) 0) = r.t
          · rw [if_pos (by simpa using ht), if_pos ⟨hl, ht⟩]; rfl
          · rw [if_neg (by simpa using ht), if_neg (fun x => ht x.2)]; rfl
        · have e4 : decide (r.i - k.si ≤ (k.es.length : Int)) = false := decide_eq_false hl
          simp only [e4, Bool.not_false, Bool.or_true, chk_true, Bool.false_and, Bool.false_eq_true, if_false]
          rw [if_neg (fun x => hl x.1)]; rfl
end Go.Den.L5

/- A kept one's step. -/
namespace Go.Den.L5
open Go
theorem copy_flat {l : List (List D)} (h : ∀ r ∈ l, typL shEntry r) (hl : l.length ≤ 1048576) : ((flatR 2 l) && decide (([] : List (List D)).length + l.length ≤ lim)) = true ∧ ((flatR 2 l) && decide (l.length ≤ lim)) = true := by
  have e : decide (l.length ≤ lim) = true := decide_eq_true (by unfold lim; omega)
  have e2 : decide (([] : List (List D)).length + l.length ≤ lim) = true := decide_eq_true (by unfold lim; simp; omega)
  rw [entry_flat h, e, e2]; exact ⟨rfl, rfl⟩
theorem l3Copy_eq (t v si st : Int) (sd : ByteArray) (l : List (List D)) (h : ∀ r ∈ l, typL shEntry r) (hl : l.length ≤ 1048576) : t53 t v si st sd l = some ([.agg [.i .i64 t, .i .i64 v, .i .i64 si, .i .i64 st, .s sd, .l l]], []) := by
  simp only [t53, (copy_flat h hl).1, chk_true, List.nil_append]
theorem copyKept_eq (t v si st : Int) (sd : ByteArray) (l : List (List D)) (h : ∀ r ∈ l, typL shEntry r) (hl : l.length ≤ 1048576) : t57 t v si st sd l = some ([.agg [.i .i64 t, .i .i64 v, .i .i64 si, .i .i64 st, .s sd, .l l]], []) := by
  simp only [t57, (copy_flat h hl).2, chk_true]
theorem step_norec (k : KS) (r : RC) (g : recOk r = false) : stepK k r = (k, false) := by
  unfold stepK; rw [g]; rfl
theorem KI.step' {k : KS} (h : KI k) (r : RC) : KI (stepK k r).1 := by
  cases g : recOk r
  · rw [step_norec k r g]; exact h
  · exact h.step r g
end Go.Den.L5

/- Stores: what they come to. -/
namespace Go.Den.L5
open Go
def rcOf (r : List D) : RC := ⟨asI (nthD r 0), asI (nthD r 1), asI (nthD r 2), asI (nthD r 3), asS (nthD r 4)⟩
/-- c records from number i on, each of them fitting. -/
def foldN (l : List (List D)) : Nat → Nat → KS → Option KS
  | 0, _, k => some k
  | c + 1, i, k => if (stepK k (rcOf (l.getD i []))).2 then foldN l c (i + 1) (stepK k (rcOf (l.getD i []))).1 else none
theorem foldN_add (l : List (List D)) : ∀ (c d i : Nat) (k : KS), foldN l (c + d) i k = (foldN l c i k).bind (foldN l d (i + c))
  | 0, d, i, k => by simp [foldN]
  | c + 1, d, i, k => by
    rw [show c + 1 + d = (c + d) + 1 by omega]
    simp only [foldN]
    split
    · rw [foldN_add l c d (i + 1)]; rw [show i + 1 + c = i + (c + 1) by omega]
    · rfl
theorem foldN_app (a b : List (List D)) : ∀ (c i : Nat) (k : KS), i + c ≤ a.length → foldN (a ++ b) c i k = foldN a c i k
  | 0, _, k, _ => rfl
  | c + 1, i, k, h => by
    have e : (a ++ b).getD i [] = a.getD i [] := by simp [List.getD, List.getElem?_append, show i < a.length by omega]
    simp only [foldN, e]
    split
    · exact foldN_app a b c (i + 1) _ (by omega)
    · rfl
end Go.Den.L5

/- What is written into stores. -/
namespace Go.Den.L5
open Go
end Go.Den.L5

/- What leads from one kept state to another. -/
namespace Go.Den.L5
open Go
def rcD (r : RC) : List D := [.i .i64 r.k, .i .i64 r.t, .i .i64 r.i, .i .i64 r.v, .s r.d]
theorem rcOf_rcD (r : RC) : rcOf (rcD r) = r := rfl
theorem foldN_snoc (L : List (List D)) (r : List D) (a : KS) : foldN (L ++ [r]) (L.length + 1) 0 a = (foldN L L.length 0 a).bind fun K => if (stepK K (rcOf r)).2 then some (stepK K (rcOf r)).1 else none := by
  have e : (L ++ [r]).getD (0 + L.length) [] = r := by simp [List.getD]
  rw [foldN_add, foldN_app L [r] L.length 0 a (by omega)]
  cases foldN L L.length 0 a with
  | none => rfl
  | some K => simp only [Option.bind_some, foldN, e]
theorem foldN_none (L M : List (List D)) (a : KS) (h : foldN L L.length 0 a = none) : foldN (L ++ M) (L ++ M).length 0 a = none := by
  rw [List.length_append, foldN_add, foldN_app L M L.length 0 a (by omega), h]; rfl
theorem foldN_ok (l : List (List D)) : ∀ (c i : Nat) (k K : KS), foldN l c i k = some K → ∀ j, i ≤ j → j < i + c → recOk (rcOf (l.getD j [])) = true
  | 0, _, _, _, _, j, h1, h2 => by omega
  | c + 1, i, k, K, h, j, h1, h2 => by
    simp only [foldN] at h
    split at h
    · rename_i hs
      by_cases e : j = i
      · subst e
        unfold stepK at hs
        split at hs
        · rename_i hc; simp only [Bool.and_eq_true] at hc; exact hc.1
        · cases hs
      · exact foldN_ok l c (i + 1) _ K h j (by omega) (by omega)
    · cases h
theorem rcD_typ {r : RC} (h : recOk r = true) : typL shRec (rcD r) := by
  simp only [recOk, Bool.or_eq_true, Bool.and_eq_true, decide_eq_true_eq] at h
  have hm : 20000 ≤ maxLen := by decide
  exact ⟨_, _, rfl, ⟨r.k, rfl, wfi64 _ (by omega)⟩, _, _, rfl, ⟨r.t, rfl, wfi64 _ (by omega)⟩, _, _, rfl, ⟨r.i, rfl, wfi64 _ (by omega)⟩, _, _, rfl, ⟨r.v, rfl, wfi64 _ (by omega)⟩, _, _, rfl, ⟨r.d, rfl, by omega⟩, rfl⟩
theorem recs_typ {L : List (List D)} {a K : KS} (hL : ∀ r ∈ L, ∃ x, r = rcD x) (h : foldN L L.length 0 a = some K) : ∀ r ∈ L, typL shRec r := fun r hr => by
  obtain ⟨j, hj, rfl⟩ := List.mem_iff_getElem.1 hr
  obtain ⟨x, hx⟩ := hL _ hr
  have := foldN_ok L L.length 0 a K h j (by omega) (by omega)
  rw [getD_in hj, hx, rcOf_rcD] at this
  rw [hx]; exact rcD_typ this
/-- Records are noted: what they lead to; does one not fit; the records. -/
structure NoteI (a k : KS) (bad : Bool) (L : List (List D)) : Prop where
  ki : KI k
  ok : bad = false → foldN L L.length 0 a = some k
  no : bad = true → foldN L L.length 0 a = none
  rc : ∀ r ∈ L, ∃ x, r = rcD x
theorem snoc_rc {L : List (List D)} (h : ∀ r ∈ L, ∃ x, r = rcD x) (x : RC) : ∀ r ∈ L ++ [rcD x], ∃ x, r = rcD x := fun r hr => by
  rcases List.mem_append.1 hr with hr | hr
  · exact h r hr
  · simp only [List.mem_singleton] at hr; exact ⟨x, hr⟩
theorem rcD_chk {L : List (List D)} (r : RC) (hL : L.length ≤ 1000) : ((flatR 5 [rcD r]) && decide (L.length + [rcD r].length ≤ lim)) = true := by
  have e : decide (L.length + [rcD r].length ≤ lim) = true := decide_eq_true (by unfold lim; simp; omega)
  rw [e]; rfl
def noteR (k : KS) (L : List (List D)) (bad : Bool) : Rs := some ([], [[.i .i64 k.t, .i .i64 k.v, .i .i64 k.si, .i .i64 k.st, .s k.sd, .l k.es, .l L, .b bad]])
theorem note_w (k : KS) (L : List (List D)) (b : Bool) : okR zr90 zo90 (noteR k L b) = true := rfl
theorem note_o (K : KS) (L : List (List D)) (b : Bool) : asI (outC (noteR K L b) 0 0) = K.t ∧ asI (outC (noteR K L b) 0 1) = K.v ∧ asI (outC (noteR K L b) 0 2) = K.si ∧ asI (outC (noteR K L b) 0 3) = K.st ∧ asS (outC (noteR K L b) 0 4) = K.sd ∧ asL (outC (noteR K L b) 0 5) = K.es ∧ asL (outC (noteR K L b) 0 6) = L ∧ asB (outC (noteR K L b) 0 7) = b := ⟨rfl, rfl, rfl, rfl, rfl, rfl, rfl, rfl⟩
theorem note_eq {a k : KS} {bad : Bool} {L : List (List D)} (h : NoteI a k bad L) (hL : L.length ≤ 1000) (r : RC) : ∃ k' bad', t90 k.t k.v k.si k.st k.sd k.es L bad r.k r.t r.i r.v r.d = noteR k' (L ++ [rcD r]) bad' ∧ NoteI a k' bad' (L ++ [rcD r]) ∧ (bad = true → bad' = true) ∧ (bad' = false → k' = (stepK k r).1 ∧ fitsB k r = true ∧ recOk r = true) := by
  have ws : ∀ t v si st sd l b, okR zr58 zo58 (some ([.one (.b b)], [[.i .i64 t, .i .i64 v, .i .i64 si, .i .i64 st, .s sd, .l l]])) = true := fun _ _ _ _ _ _ _ => rfl
  have hl : (L ++ [rcD r]).length = L.length + 1 := by simp
  have ec : ((flatR 5 [[D.i .i64 r.k, .i .i64 r.t, .i .i64 r.i, .i .i64 r.v, .s r.d]]) && decide (L.length + [[D.i .i64 r.k, .i .i64 r.t, .i .i64 r.i, .i .i64 r.v, .s r.d]].length ≤ lim)) = true := rcD_chk r hL
  cases bad with
  | false =>
    have s1 := step_impl k h.ki r
    have hk2 := h.ki.step' r
    have hf : foldN (L ++ [rcD r]) (L ++ [rcD r]).length 0 a = if (stepK k r).2 then some (stepK k r).1 else none := by
      rw [hl, foldN_snoc, h.ok rfl]; rfl
    have hst : (stepK k r).2 = true → fitsB k r = true ∧ recOk r = true := fun hs => by
      unfold stepK at hs
      split at hs
      · rename_i hc; simp only [Bool.and_eq_true] at hc; exact ⟨hc.2, hc.1⟩
      · cases hs
    rcases hr : stepK k r with ⟨⟨t, vv, si, st, sd, es⟩, b⟩
    rw [hr] at s1 hk2 hf hst
    simp only [kD] at s1
    refine ⟨⟨t, vv, si, st, sd, es⟩, !b, ?_, ⟨hk2, fun hb => ?_, fun hb => ?_, snoc_rc h.rc r⟩, fun hb => (by cases hb), fun hb => ⟨rfl, hst (by simpa using hb)⟩⟩
    · simp only [t90, ta90, Bool.not_false, if_true, s1, ws, ec, chk_true]
      simp only [resC, outC, nthR, nthO, cellsDV, nthD, asI, asS, asL, asB, Bool.false_or]
      rfl
    · cases b
      · cases hb
      · rw [hf]; rfl
    · cases b
      · rw [hf]; rfl
      · cases hb
  | true =>
    refine ⟨k, true, ?_, ⟨h.ki, fun hb => (by cases hb), fun _ => ?_, snoc_rc h.rc r⟩, fun _ => rfl, fun hb => (by cases hb)⟩
    · simp only [t90, ta90, Bool.not_true, Bool.false_eq_true, if_false, ec, chk_true]
      rfl
    · rw [hl, foldN_snoc, h.no rfl]; rfl
def eqE (a b : List D) : Bool := (asI (nthD a 0) == asI (nthD b 0)) && (((asS (nthD a 1)).toList == (asS (nthD b 1)).toList) && true)
/-- How far two lists are the same, from i on. -/
def cpl (A B : List (List D)) : Nat → Nat → Nat
  | 0, i => i
  | k + 1, i => if i < A.length ∧ i < B.length ∧ eqE (A.getD i []) (B.getD i []) = true then cpl A B k (i + 1) else i
theorem cpl_le (A B : List (List D)) : ∀ (k i : Nat), i ≤ A.length → i ≤ B.length → cpl A B k i ≤ A.length ∧ cpl A B k i ≤ B.length
  | 0, i, h1, h2 => ⟨h1, h2⟩
  | k + 1, i, h1, h2 => by
    simp only [cpl]
    split
    · exact cpl_le A B k (i + 1) (by omega) (by omega)
    · exact ⟨h1, h2⟩
theorem entry_own {l : List (List D)} (h : ∀ r ∈ l, typL shEntry r) {i : Nat} (hi : i < l.length) : (decide (2 ≤ (l.getD i []).length) && isF z90 0 (l.getD i [])) = true := by
  obtain ⟨a, b, he, _⟩ := Entry_row (getD_row h hi)
  rw [he]; rfl
theorem y1_cases (A B : List (List D)) (i : Nat) : (i < A.length ∧ i < B.length ∧ (decide ((i : Int) < (A.length : Int)) && decide ((i : Int) < (B.length : Int))) = true) ∨ (¬ (i < A.length ∧ i < B.length) ∧ (decide ((i : Int) < (A.length : Int)) && decide ((i : Int) < (B.length : Int))) = false) := by
  by_cases h1 : i < A.length
  · by_cases h2 : i < B.length
    · exact .inl ⟨h1, h2, by rw [nat_in h1, nat_in h2]; rfl⟩
    · refine .inr ⟨fun h => h2 h.2, ?_⟩
      rw [decide_eq_false (show ¬ ((i : Int) < (B.length : Int)) by omega), Bool.and_false]
  · refine .inr ⟨fun h => h1 h.1, ?_⟩
    rw [decide_eq_false (show ¬ ((i : Int) < (A.length : Int)) by omega), Bool.false_and]
theorem sameS1 {n47 n48 n49 n50 : Int} {s51 : ByteArray} {l52 : List (List D)} {n53 n54 n55 n56 : Int} {s57 : ByteArray} {l58 : List (List D)} {b59 b61 b62 b63 : Bool} {n65 n66 n67 n68 : Int} {s69 : ByteArray} {l70 : List (List D)} {n71 n72 n73 n74 : Int} {s75 : ByteArray} {l77 l78 l79 : List (List D)} {q1 : Int → Bool → Rs} {R : Rs} {A B : List (List D)} (hA : ∀ r ∈ A, typL shEntry r) (hB : ∀ r ∈ B, typL shEntry r) (wA : A.length ≤ 1048576) : ∀ (k i m : Nat) (v : SV), i ≤ A.length → A.length < i + k → k ≤ m → (∀ b, q1 ((cpl A B k i : Nat) : Int) b = R) → la26o3 t51 t52 t53 t65 n47 n48 n49 n50 s51 l52 n53 n54 n55 n56 s57 l58 b59 b61 b62 b63 n65 n66 n67 n68 s69 l70 n71 n72 n73 n74 s75 B l77 l78 l79 A q1 m i v = R := by
  intro k
  induction k with
  | zero => intro i m v h1 h2 _ _; omega
  | succ k ih =>
    intro i m v h1 h2 hm hq
    obtain ⟨m, rfl⟩ : ∃ m', m = m' + 1 := ⟨m - 1, by omega⟩
    rcases y1_cases A B i with ⟨hi, hj, y⟩ | ⟨hn, y⟩
    · have e2 := row_in hB _ entry_row i hj
      cases he : eqE (A.getD i []) (B.getD i [])
      · have ec : cpl A B (k + 1) i = i := by simp only [cpl]; rw [if_neg (fun h => by rw [he] at h; cases h.2.2)]
        rw [ec] at hq
        unfold eqE at he
        simp only [la26o3, y, nat_pos, nat_in hi, nat_in hj, Int.toNat_natCast, entry_own hA hi, e2, Bool.and_self, Bool.true_or, chk_true, Bool.true_and, he, Bool.false_eq_true, if_false]
        exact hq _
      · have ec : cpl A B (k + 1) i = cpl A B k (i + 1) := by simp only [cpl]; rw [if_pos ⟨hi, hj, he⟩]
        rw [ec] at hq
        unfold eqE at he
        simp only [la26o3, y, nat_pos, nat_in hi, nat_in hj, Int.toNat_natCast, entry_own hA hi, e2, Bool.and_self, Bool.true_or, chk_true, Bool.true_and, he, if_true]
        rw [w64_succ i (by omega)]
        exact ih (i + 1) m _ (by omega) (by omega) (by omega) hq
    · have ec : cpl A B (k + 1) i = i := by simp only [cpl]; rw [if_neg (fun h => hn ⟨h.1, h.2.1⟩)]
      rw [ec] at hq
      simp only [la26o3, y, Bool.not_false, Bool.or_true, chk_true, Bool.false_and, Bool.false_eq_true, if_false]
      exact hq _
theorem sameS2 {n453 n454 n455 n456 : Int} {s457 : ByteArray} {l458 : List (List D)} {n459 n460 n461 n462 : Int} {s463 : ByteArray} {l464 : List (List D)} {b465 b468 b469 b470 : Bool} {n472 n473 n474 n475 : Int} {s476 : ByteArray} {l477 : List (List D)} {n478 n479 n480 n481 : Int} {s482 : ByteArray} {l484 l485 : List (List D)} {q1 : Int → Bool → Rs} {R : Rs} {A B : List (List D)} (hA : ∀ r ∈ A, typL shEntry r) (hB : ∀ r ∈ B, typL shEntry r) (wA : A.length ≤ 1048576) : ∀ (k i m : Nat) (v : SV), i ≤ A.length → A.length < i + k → k ≤ m → (∀ b, q1 ((cpl A B k i : Nat) : Int) b = R) → la26o100003 t51 t52 t53 t65 n453 n454 n455 n456 s457 l458 n459 n460 n461 n462 s463 l464 b465 A b468 b469 b470 n472 n473 n474 n475 s476 l477 n478 n479 n480 n481 s482 B l484 l485 q1 m i v = R := by
  intro k
  induction k with
  | zero => intro i m v h1 h2 _ _; omega
  | succ k ih =>
    intro i m v h1 h2 hm hq
    obtain ⟨m, rfl⟩ : ∃ m', m = m' + 1 := ⟨m - 1, by omega⟩
    rcases y1_cases A B i with ⟨hi, hj, y⟩ | ⟨hn, y⟩
    · have e1 := row_in hA _ entry_row i hi
      have e2 := row_in hB _ entry_row i hj
      cases he : eqE (A.getD i []) (B.getD i [])
      · have ec : cpl A B (k + 1) i = i := by simp only [cpl]; rw [if_neg (fun h => by rw [he] at h; cases h.2.2)]
        rw [ec] at hq
        unfold eqE at he
        simp only [la26o100003, y, nat_pos, nat_in hi, nat_in hj, Int.toNat_natCast, e1, e2, Bool.and_self, Bool.true_or, chk_true, Bool.true_and, he, Bool.false_eq_true, if_false]
        exact hq _
      · have ec : cpl A B (k + 1) i = cpl A B k (i + 1) := by simp only [cpl]; rw [if_pos ⟨hi, hj, he⟩]
        rw [ec] at hq
        unfold eqE at he
        simp only [la26o100003, y, nat_pos, nat_in hi, nat_in hj, Int.toNat_natCast, e1, e2, Bool.and_self, Bool.true_or, chk_true, Bool.true_and, he, if_true]
        rw [w64_succ i (by omega)]
        exact ih (i + 1) m _ (by omega) (by omega) (by omega) hq
    · have ec : cpl A B (k + 1) i = i := by simp only [cpl]; rw [if_neg (fun h => hn ⟨h.1, h.2.1⟩)]
      rw [ec] at hq
      simp only [la26o100003, y, Bool.not_false, Bool.or_true, chk_true, Bool.false_and, Bool.false_eq_true, if_false]
      exact hq _
theorem sameI {n65 n66 n67 n68 : Int} {s69 : ByteArray} {l70 : List (List D)} {n71 n72 n73 n74 : Int} {s75 : ByteArray} {l76 : List (List D)} {b77 b79 b80 : Bool} {n82 n83 n84 n85 : Int} {s86 : ByteArray} {l87 : List (List D)} {n88 n89 n90 n91 : Int} {s92 : ByteArray} {n94 n95 n96 n97 : Int} {s98 : ByteArray} {b99 : Bool} {l101 : List (List D)} {q1 : Int → Bool → Rs} {R : Rs} {A B : List (List D)} (hA : ∀ r ∈ A, typL shEntry r) (hB : ∀ r ∈ B, typL shEntry r) (wA : A.length ≤ 1048576) : ∀ (k i m : Nat) (v : SV), i ≤ A.length → A.length < i + k → k ≤ m → (∀ b, q1 ((cpl A B k i : Nat) : Int) b = R) → la66o2 t57 t90 n65 n66 n67 n68 s69 l70 n71 n72 n73 n74 s75 l76 b77 b79 b80 n82 n83 n84 n85 s86 l87 n88 n89 n90 n91 s92 B n94 n95 n96 n97 s98 b99 A l101 q1 m i v = R := by
  intro k
  induction k with
  | zero => intro i m v h1 h2 _ _; omega
  | succ k ih =>
    intro i m v h1 h2 hm hq
    obtain ⟨m, rfl⟩ : ∃ m', m = m' + 1 := ⟨m - 1, by omega⟩
    rcases y1_cases A B i with ⟨hi, hj, y⟩ | ⟨hn, y⟩
    · have e2 := row_in hB _ entry_row i hj
      cases he : eqE (A.getD i []) (B.getD i [])
      · have ec : cpl A B (k + 1) i = i := by simp only [cpl]; rw [if_neg (fun h => by rw [he] at h; cases h.2.2)]
        rw [ec] at hq
        unfold eqE at he
        simp only [la66o2, y, nat_pos, nat_in hi, nat_in hj, Int.toNat_natCast, entry_own hA hi, e2, Bool.and_self, Bool.true_or, chk_true, Bool.true_and, he, Bool.false_eq_true, if_false]
        exact hq _
      · have ec : cpl A B (k + 1) i = cpl A B k (i + 1) := by simp only [cpl]; rw [if_pos ⟨hi, hj, he⟩]
        rw [ec] at hq
        unfold eqE at he
        simp only [la66o2, y, nat_pos, nat_in hi, nat_in hj, Int.toNat_natCast, entry_own hA hi, e2, Bool.and_self, Bool.true_or, chk_true, Bool.true_and, he, if_true]
        rw [w64_succ i (by omega)]
        exact ih (i + 1) m _ (by omega) (by omega) (by omega) hq
    · have ec : cpl A B (k + 1) i = i := by simp only [cpl]; rw [if_neg (fun h => hn ⟨h.1, h.2.1⟩)]
      rw [ec] at hq
      simp only [la66o2, y, Bool.not_false, Bool.or_true, chk_true, Bool.false_and, Bool.false_eq_true, if_false]
      exact hq _
/-- The records of the entries from number i on. -/
def entR (si : Int) (B : List (List D)) (i : Nat) : RC := ⟨2, asI (nthD (B.getD i []) 0), si + 1 + (i : Int), 0, asS (nthD (B.getD i []) 1)⟩
def entL (si : Int) (B : List (List D)) : Nat → Nat → List (List D)
  | 0, _ => []
  | k + 1, i => rcD (entR si B i) :: entL si B k (i + 1)
theorem entL_len (si : Int) (B : List (List D)) : ∀ (k i : Nat), (entL si B k i).length = k
  | 0, _ => rfl
  | k + 1, i => by simp only [entL, List.length_cons, entL_len si B k]
theorem entL_rc (si : Int) (B : List (List D)) : ∀ (k i : Nat), ∀ r ∈ entL si B k i, ∃ x, r = rcD x
  | 0, _, r, hr => by simp [entL] at hr
  | k + 1, i, r, hr => by
    simp only [entL, List.mem_cons] at hr
    rcases hr with rfl | hr
    · exact ⟨_, rfl⟩
    · exact entL_rc si B k (i + 1) r hr
theorem entS1 {n155 n156 n157 n158 : Int} {s159 : ByteArray} {l160 : List (List D)} {n161 n162 n163 n164 : Int} {s165 : ByteArray} {l166 : List (List D)} {b167 : Bool} {n168 : Int} {b170 b171 b172 b173 b174 : Bool} {n176 n177 n178 n179 : Int} {s180 : ByteArray} {l181 : List (List D)} {n182 n183 n185 : Int} {s186 : ByteArray} {l188 l190 : List (List D)} {q1 : Int → Bool → List (List D) → Rs} {R : Rs} {B : List (List D)} {si : Int} (hB : ∀ r ∈ B, typL shEntry r) (wB : B.length ≤ 1000) (h0 : 0 ≤ si) (h1 : si ≤ 100000) : ∀ (k i m : Nat) (v : SV) (L : List (List D)), i + k = B.length → k < m → L.length + k ≤ 1000 → (∀ b, q1 (B.length : Int) b (L ++ entL si B k i) = R) → la26o6 t51 t52 t53 t65 n155 n156 n157 n158 s159 l160 n161 n162 n163 n164 s165 l166 b167 n168 b170 b171 b172 b173 b174 n176 n177 n178 n179 s180 l181 n182 n183 si n185 s186 B l188 l190 q1 m i v L = R := by
  intro k
  induction k with
  | zero =>
    intro i m v L e hm hL hq
    obtain ⟨m, rfl⟩ : ∃ m', m = m' + 1 := ⟨m - 1, by omega⟩
    have e1 : decide ((i : Int) < (B.length : Int)) = false := by simp; omega
    simp only [entL, List.append_nil] at hq
    simp only [la26o6, e1, Bool.false_eq_true, if_false]
    rw [show i = B.length by omega]; exact hq _
  | succ k ih =>
    intro i m v L e hm hL hq
    obtain ⟨m, rfl⟩ : ∃ m', m = m' + 1 := ⟨m - 1, by omega⟩
    have hi : i < B.length := by omega
    have e2 := row_in hB _ entry_row i hi
    have e3 : w64 (w64 (si + 1) + (i : Int)) = si + 1 + (i : Int) := by rw [w64_in (si + 1) (by omega), w64_in _ (by omega)]
    have e4 := rcD_chk (L := L) (entR si B i) (by omega)
    simp only [rcD, entR] at e4
    simp only [la26o6, nat_in hi, nat_pos, Int.toNat_natCast, e2, e3, e4, Bool.and_self, chk_true, if_true]
    rw [w64_succ i (by omega)]
    refine ih (i + 1) m _ _ (by omega) (by omega) (by simp; omega) (fun b => ?_)
    have := hq b
    simp only [entL] at this
    rw [List.append_assoc]; exact this
theorem entS2 {n559 n560 n561 n562 : Int} {s563 : ByteArray} {l564 : List (List D)} {n565 n566 n567 n568 : Int} {s569 : ByteArray} {l570 : List (List D)} {b571 : Bool} {l572 : List (List D)} {n573 : Int} {b575 b576 b577 b578 b579 : Bool} {n581 n582 n583 n584 : Int} {s585 : ByteArray} {l586 : List (List D)} {n587 n588 n590 : Int} {s591 : ByteArray} {l593 : List (List D)} {q1 : Int → Bool → List (List D) → Rs} {R : Rs} {B : List (List D)} {si : Int} (hB : ∀ r ∈ B, typL shEntry r) (wB : B.length ≤ 1000) (h0 : 0 ≤ si) (h1 : si ≤ 100000) : ∀ (k i m : Nat) (v : SV) (L : List (List D)), i + k = B.length → k < m → L.length + k ≤ 1000 → (∀ b, q1 (B.length : Int) b (L ++ entL si B k i) = R) → la26o100006 t51 t52 t53 t65 n559 n560 n561 n562 s563 l564 n565 n566 n567 n568 s569 l570 b571 l572 n573 b575 b576 b577 b578 b579 n581 n582 n583 n584 s585 l586 n587 n588 si n590 s591 B l593 q1 m i v L = R := by
  intro k
  induction k with
  | zero =>
    intro i m v L e hm hL hq
    obtain ⟨m, rfl⟩ : ∃ m', m = m' + 1 := ⟨m - 1, by omega⟩
    have e1 : decide ((i : Int) < (B.length : Int)) = false := by simp; omega
    simp only [entL, List.append_nil] at hq
    simp only [la26o100006, e1, Bool.false_eq_true, if_false]
    rw [show i = B.length by omega]; exact hq _
  | succ k ih =>
    intro i m v L e hm hL hq
    obtain ⟨m, rfl⟩ : ∃ m', m = m' + 1 := ⟨m - 1, by omega⟩
    have hi : i < B.length := by omega
    have e2 := row_in hB _ entry_row i hi
    have e3 : w64 (w64 (si + 1) + (i : Int)) = si + 1 + (i : Int) := by rw [w64_in (si + 1) (by omega), w64_in _ (by omega)]
    have e4 := rcD_chk (L := L) (entR si B i) (by omega)
    simp only [rcD, entR] at e4
    simp only [la26o100006, nat_in hi, nat_pos, Int.toNat_natCast, e2, e3, e4, Bool.and_self, chk_true, if_true]
    rw [w64_succ i (by omega)]
    refine ih (i + 1) m _ _ (by omega) (by omega) (by simp; omega) (fun b => ?_)
    have := hq b
    simp only [entL] at this
    rw [List.append_assoc]; exact this
theorem foldC1 {n277 n278 n279 n280 : Int} {s281 : ByteArray} {l282 : List (List D)} {n283 n284 n285 n286 : Int} {s287 : ByteArray} {l288 : List (List D)} {b289 : Bool} {n290 n291 : Int} {b294 b295 b296 b297 b298 b299 b300 : Bool} {n303 n304 n305 n306 : Int} {s307 : ByteArray} {l308 : List (List D)} {n309 n310 n311 n312 : Int} {s313 : ByteArray} {l314 l320 l322 : List (List D)} {q1 : Int → Bool → Bool → Bool → Int → Int → Int → Int → ByteArray → Int → Int → Int → Int → ByteArray → List (List D) → Rs} {q2 : Int → SV → Bool → SV → Int → Int → Int → Int → ByteArray → List (List D) → Rs} {X : Rs} {F : KS → Rs} {L : List (List D)} (h1 : ∀ a b c d e f g h i j k l m n o, q1 a b c d e f g h i j k l m n o = X) (h2 : ∀ a b c d (k : KS), q2 a b c d k.t k.v k.si k.st k.sd k.es = F k) (hL : ∀ r ∈ L, ∃ x, r = rcD x) (wL : L.length ≤ 1000) : ∀ (c i m : Nat) (k : KS) (u v w : SV), KI k → i + c = L.length → c < m →
    la26o9 t51 t52 t53 t65 n277 n278 n279 n280 s281 l282 n283 n284 n285 n286 s287 l288 b289 n290 n291 b294 b295 b296 b297 b298 b299 b300 n303 n304 n305 n306 s307 l308 n309 n310 n311 n312 s313 l314 l320 L l322 q1 q2 m i u v w k.t k.v k.si k.st k.sd k.es = (match foldN L c i k with | some K => F K | none => X) := by
  intro c
  induction c with
  | zero =>
    intro i m k u v w _ e hm
    obtain ⟨m, rfl⟩ : ∃ m', m = m' + 1 := ⟨m - 1, by omega⟩
    have e1 : decide ((i : Int) < (L.length : Int)) = false := by simp; omega
    simp only [la26o9, e1, Bool.false_eq_true, if_false, h2, foldN]
  | succ c ih =>
    intro i m k u v w hk e hm
    obtain ⟨m, rfl⟩ : ∃ m', m = m' + 1 := ⟨m - 1, by omega⟩
    have hi : i < L.length := by omega
    have ez : (decide (5 ≤ (L.getD i []).length) && isF z38 0 (L.getD i [])) = true := by
      obtain ⟨x, hx⟩ := hL _ (mem_getD hi); rw [hx]; rfl
    have ws : ∀ t v si st sd l b, okR zr52 zo52 (some ([.agg [.i .i64 t, .i .i64 v, .i .i64 si, .i .i64 st, .s sd, .l l], .one (.b b)], [])) = true := fun _ _ _ _ _ _ _ => rfl
    have s1 := step_spec k hk (rcOf (L.getD i []))
    have hk2 := hk.step' (rcOf (L.getD i []))
    have ih' := ih (i + 1) m (stepK k (rcOf (L.getD i []))).1
    rcases hr : stepK k (rcOf (L.getD i [])) with ⟨⟨t, vv, si, st, sd, es⟩, b⟩
    rw [hr] at s1 hk2 ih'
    simp only [rcOf] at s1
    simp only [la26o9, nat_in hi, nat_pos, Int.toNat_natCast, ez, Bool.and_self, chk_true, if_true, foldN, hr]
    simp only [kD] at s1 hk2 ih'
    simp only [s1, ws, chk_true]
    simp only [resC, nthR, cellsDV, nthD, asI, asS, asL, asB]
    cases b
    · simp only [Bool.not_false, if_true, h1, Bool.false_eq_true, if_false]
    · simp only [Bool.not_true, Bool.false_eq_true, if_false, if_true]
      rw [w64_succ i (by omega)]
      exact ih' _ _ _ hk2 (by omega) (by omega)
theorem foldC2 {n681 n682 n683 n684 : Int} {s685 : ByteArray} {l686 : List (List D)} {n687 n688 n689 n690 : Int} {s691 : ByteArray} {l692 : List (List D)} {b693 : Bool} {l694 : List (List D)} {n695 n696 : Int} {b699 b700 b701 b702 b703 b704 b705 : Bool} {n708 n709 n710 n711 : Int} {s712 : ByteArray} {l713 : List (List D)} {n714 n715 n716 n717 : Int} {s718 : ByteArray} {l719 l725 : List (List D)} {q1 : Int → Bool → Bool → Bool → Int → Int → Int → Int → ByteArray → Int → Int → Int → Int → ByteArray → List (List D) → Rs} {q2 : Int → SV → Bool → SV → Int → Int → Int → Int → ByteArray → List (List D) → Rs} {X : Rs} {F : KS → Rs} {L : List (List D)} (h1 : ∀ a b c d e f g h i j k l m n o, q1 a b c d e f g h i j k l m n o = X) (h2 : ∀ a b c d (k : KS), q2 a b c d k.t k.v k.si k.st k.sd k.es = F k) (hL : ∀ r ∈ L, ∃ x, r = rcD x) (wL : L.length ≤ 1000) : ∀ (c i m : Nat) (k : KS) (u v w : SV), KI k → i + c = L.length → c < m →
    la26o100009 t51 t52 t53 t65 n681 n682 n683 n684 s685 l686 n687 n688 n689 n690 s691 l692 b693 l694 n695 n696 b699 b700 b701 b702 b703 b704 b705 n708 n709 n710 n711 s712 l713 n714 n715 n716 n717 s718 l719 l725 L q1 q2 m i u v w k.t k.v k.si k.st k.sd k.es = (match foldN L c i k with | some K => F K | none => X) := by
  intro c
  induction c with
  | zero =>
    intro i m k u v w _ e hm
    obtain ⟨m, rfl⟩ : ∃ m', m = m' + 1 := ⟨m - 1, by omega⟩
    have e1 : decide ((i : Int) < (L.length : Int)) = false := by simp; omega
    simp only [la26o100009, e1, Bool.false_eq_true, if_false, h2, foldN]
  | succ c ih =>
    intro i m k u v w hk e hm
    obtain ⟨m, rfl⟩ : ∃ m', m = m' + 1 := ⟨m - 1, by omega⟩
    have hi : i < L.length := by omega
    have ez : (decide (5 ≤ (L.getD i []).length) && isF z38 0 (L.getD i [])) = true := by
      obtain ⟨x, hx⟩ := hL _ (mem_getD hi); rw [hx]; rfl
    have ws : ∀ t v si st sd l b, okR zr52 zo52 (some ([.agg [.i .i64 t, .i .i64 v, .i .i64 si, .i .i64 st, .s sd, .l l], .one (.b b)], [])) = true := fun _ _ _ _ _ _ _ => rfl
    have s1 := step_spec k hk (rcOf (L.getD i []))
    have hk2 := hk.step' (rcOf (L.getD i []))
    have ih' := ih (i + 1) m (stepK k (rcOf (L.getD i []))).1
    rcases hr : stepK k (rcOf (L.getD i [])) with ⟨⟨t, vv, si, st, sd, es⟩, b⟩
    rw [hr] at s1 hk2 ih'
    simp only [rcOf] at s1
    simp only [la26o100009, nat_in hi, nat_pos, Int.toNat_natCast, ez, Bool.and_self, chk_true, if_true, foldN, hr]
    simp only [kD] at s1 hk2 ih'
    simp only [s1, ws, chk_true]
    simp only [resC, nthR, cellsDV, nthD, asI, asS, asL, asB]
    cases b
    · simp only [Bool.not_false, if_true, h1, Bool.false_eq_true, if_false]
    · simp only [Bool.not_true, Bool.false_eq_true, if_false, if_true]
      rw [w64_succ i (by omega)]
      exact ih' _ _ _ hk2 (by omega) (by omega)
theorem entI {n192 n193 n194 n195 : Int} {s196 : ByteArray} {l197 : List (List D)} {n198 n199 n200 n201 : Int} {s202 : ByteArray} {l203 : List (List D)} {b204 b207 b208 b209 b210 : Bool} {n215 n216 n217 n218 : Int} {s219 : ByteArray} {l220 : List (List D)} {n221 n222 n224 : Int} {s225 : ByteArray} {l226 : List (List D)} {q1 : SV → Int → Bool → Int → Int → Int → Int → ByteArray → Bool → List (List D) → List (List D) → Rs} {R : Rs} {a : KS} {B : List (List D)} {si : Int} {c : Nat} (hB : ∀ r ∈ B, typL shEntry r) (wB : B.length ≤ 1000) (hc : c ≤ B.length) (h0 : 0 ≤ si) (h1 : si ≤ 100000) : ∀ (k j m : Nat) (u v : SV) (K : KS) (bad : Bool) (L : List (List D)), c + j + k = B.length → k < m → L.length + k ≤ 1000 → NoteI a K bad L → (∀ u n b (K : KS) bad, NoteI a K bad (L ++ entL si B k (c + j)) → q1 u n b K.t K.v K.si K.st K.sd bad K.es (L ++ entL si B k (c + j)) = R) →
    la66o5 t57 t90 n192 n193 n194 n195 s196 l197 n198 n199 n200 n201 s202 l203 b204 (c : Int) b207 b208 b209 b210 (B.drop c) ((B.drop c).length : Int) n215 n216 n217 n218 s219 l220 n221 n222 si n224 s225 l226 q1 m u j v K.t K.v K.si K.st K.sd bad K.es L = R := by
  intro k
  induction k with
  | zero =>
    intro j m u v K bad L e hm hL hN hq
    obtain ⟨m, rfl⟩ : ∃ m', m = m' + 1 := ⟨m - 1, by omega⟩
    have e1 : decide ((j : Int) < ((B.drop c).length : Int)) = false := by simp; omega
    simp only [entL, List.append_nil] at hq
    simp only [la66o5, e1, Bool.false_eq_true, if_false]
    exact hq _ _ _ _ _ hN
  | succ k ih =>
    intro j m u v K bad L e hm hL hN hq
    obtain ⟨m, rfl⟩ : ∃ m', m = m' + 1 := ⟨m - 1, by omega⟩
    have hj : j < (B.drop c).length := by simp; omega
    have eg : (B.drop c).getD j [] = B.getD (c + j) [] := by simp [List.getD]
    have e2 : isRow z90 (B.getD (c + j) []) = true := row_in hB _ entry_row (c + j) (by omega)
    have e3 : w64 (w64 (w64 (si + (c : Int)) + (j : Int)) + 1) = si + 1 + ((c + j : Nat) : Int) := by
      rw [w64_in (si + (c : Int)) (by omega), w64_in (si + (c : Int) + (j : Int)) (by omega), w64_in _ (by omega)]; omega
    obtain ⟨K', bad', n1, n2, n3, n4⟩ := note_eq hN (by omega) (entR si B (c + j))
    simp only [entR] at n1
    obtain ⟨p0, p1, p2, p3, p4, p5, p6, p7⟩ := note_o K' (L ++ [rcD (entR si B (c + j))]) bad'
    simp only [entR] at p0 p1 p2 p3 p4 p5 p6 p7
    simp only [la66o5, nat_in hj, nat_pos, Int.toNat_natCast, eg, e2, e3, n1, note_w, Bool.and_self, chk_true, if_true, p0, p1, p2, p3, p4, p5, p6, p7]
    rw [w64_succ j (by omega)]
    refine ih (j + 1) m _ _ K' bad' _ (by omega) (by omega) (by simp; omega) n2 (fun u n b K bad hN => ?_)
    have := hq u n b K bad
    simp only [entL] at this
    rw [List.append_assoc]
    refine this ?_
    rw [List.append_assoc] at hN; exact hN
/-- The entries behind a number, whatever it be. -/
def behindG (k : KS) (i t : Int) : List (List D) := if 1 ≤ i - k.si ∧ i - k.si ≤ (k.es.length : Int) ∧ asI (nthD (k.es.getD (i - k.si - 1).toNat []) 0) = t then k.es.drop (i - k.si).toNat else []
theorem behind_eq (k : KS) (h : KI k) (i t : Int) (h0 : 0 ≤ i) (h1 : i ≤ 100000) : t65 k.t k.v k.si k.st k.sd k.es i t = some ([.one (.l (behindG k i t))], []) := by
  have k0 := h.h0; have k1 := h.h1; have k2 := h.h2
  have e1 : w64 (i - k.si) = i - k.si := w64_in _ (by omega)
  have e2 : w64 (i - k.si - 1) = i - k.si - 1 := w64_in _ (by omega)
  simp only [t65, e1, e2, behindG]
  by_cases ha : 1 ≤ i - k.si ∧ i - k.si ≤ (k.es.length : Int)
  · have e3 : (decide (i - k.si ≥ 1) && decide (i - k.si ≤ (k.es.length : Int))) = true := by rw [decide_eq_true (by omega), decide_eq_true (by omega)]; rfl
    have e5 : (decide (0 ≤ i - k.si - 1) && decide (i - k.si - 1 < (k.es.length : Int)) && isRow z90 (k.es.getD (i - k.si - 1).toNat [])) = true := by
      rw [decide_eq_true (by omega), decide_eq_true (by omega), row_in h.h3 _ entry_row _ (by omega)]; rfl
    have e6 : decide (0 ≤ i - k.si ∧ i - k.si ≤ (k.es.length : Int) ∧ (k.es.getD 0 z90).length = z90.length) = true := by
      refine decide_eq_true ⟨by omega, ha.2, ?_⟩
      cases hes : k.es with
      | nil => rfl
      | cons x xs =>
        have := h.h3 x (by rw [hes]; simp)
        obtain ⟨a, b, rfl, _⟩ := Entry_row this
        rfl
    have e7 : ((flatR 2 (k.es.drop (i - k.si).toNat)) && decide (([] : List (List D)).length + (k.es.drop (i - k.si).toNat).length ≤ lim)) = true := by
      rw [edrop h, decide_eq_true (by unfold lim; simp; omega)]; rfl
    simp only [e3, e5, e6, e7, Bool.true_and, Bool.true_or, chk_true, List.nil_append]
    by_cases ht : asI (nthD (k.es.getD (i - k.si - 1).toNat []) 0) = t
    · rw [if_pos (by simpa using ht), if_pos ⟨ha.1, ha.2, ht⟩]
    · rw [if_neg (by simpa using ht), if_neg (fun x => ht x.2.2)]
  · have e3 : (decide (i - k.si ≥ 1) && decide (i - k.si ≤ (k.es.length : Int))) = false := by
      rw [Bool.eq_false_iff]; intro hx; simp only [Bool.and_eq_true, decide_eq_true_eq] at hx; exact ha ⟨by omega, hx.2⟩
    simp only [e3, Bool.not_false, Bool.or_true, chk_true, Bool.false_and, Bool.false_eq_true, if_false]
    rw [if_neg (fun x => ha ⟨x.1, x.2.1⟩)]
theorem behindG_in {k : KS} (h : KI k) (i t : Int) : (behindG k i t).length ≤ 60 ∧ ∀ r ∈ behindG k i t, typL shEntry r := by
  have k2 := h.h2
  unfold behindG
  split
  · exact ⟨by simp; omega, fun r hr => h.h3 r (List.mem_of_mem_drop hr)⟩
  · exact ⟨by simp, by simp⟩
def chR (a : KS) (L : List (List D)) : Rs := if decide ((L.length : Int) > 80) = true then some ([.one (.l []), .one (.b false)], []) else match foldN L L.length 0 a with | some _ => some ([.one (.l L), .one (.b true)], []) | none => some ([.one (.l []), .one (.b false)], [])
theorem chR_bad {a : KS} {L : List (List D)} (h : foldN L L.length 0 a = none) : chR a L = some ([.one (.l []), .one (.b false)], []) := by
  unfold chR; rw [h]; split <;> rfl
def hardL (a b : KS) : List (List D) := if ((a.t != b.t) || (a.v != b.v)) = true then [rcD ⟨1, b.t, 0, b.v, ⟨#[]⟩⟩] else []
def snapD (a b : KS) : Bool := !((a.si == b.si) && ((a.st == b.st) && ((a.sd.toList == b.sd.toList) && true)))
def snapL (a b : KS) : List (List D) := if snapD a b = true then [rcD ⟨4, b.st, b.si, 0, b.sd⟩] else []
def haveL (a b : KS) : List (List D) := if snapD a b = true then behindG a b.si b.st else a.es
def cutL (H : List (List D)) (b : KS) (c : Nat) : List (List D) := if c < H.length then [rcD ⟨3, 0, b.si + (c : Int) + 1, 0, ⟨#[]⟩⟩] else []
/-- All behind L. -/
def restL (H : List (List D)) (b : KS) : List (List D) := cutL H b (cpl H b.es (H.length + 1) 0) ++ entL b.si b.es (b.es.length - cpl H b.es (H.length + 1) 0) (cpl H b.es (H.length + 1) 0)
theorem hardL_len (a b : KS) : (hardL a b).length ≤ 1 ∧ ∀ r ∈ hardL a b, ∃ x, r = rcD x := by
  unfold hardL; split
  · exact ⟨by simp, fun r hr => ⟨_, by simpa using hr⟩⟩
  · exact ⟨by simp, by simp⟩
theorem snapL_len (a b : KS) : (snapL a b).length ≤ 1 ∧ ∀ r ∈ snapL a b, ∃ x, r = rcD x := by
  unfold snapL; split
  · exact ⟨by simp, fun r hr => ⟨_, by simpa using hr⟩⟩
  · exact ⟨by simp, by simp⟩
theorem cutL_len (H : List (List D)) (b : KS) (c : Nat) : (cutL H b c).length ≤ 1 ∧ ∀ r ∈ cutL H b c, ∃ x, r = rcD x := by
  unfold cutL; split
  · exact ⟨by simp, fun r hr => ⟨_, by simpa using hr⟩⟩
  · exact ⟨by simp, by simp⟩
theorem app_rc {L M : List (List D)} (h : ∀ r ∈ L, ∃ x, r = rcD x) (h' : ∀ r ∈ M, ∃ x, r = rcD x) : ∀ r ∈ L ++ M, ∃ x, r = rcD x := fun r hr => by
  rcases List.mem_append.1 hr with hr | hr
  · exact h r hr
  · exact h' r hr
theorem changes_spec (a b : KS) (ha : keptB a.t a.v a.si a.st a.sd a.es = true) (hb : keptB b.t b.v b.si b.st b.sd b.es = true) (ta : ∀ r ∈ a.es, typL shEntry r) (tb : ∀ r ∈ b.es, typL shEntry r) :
    t26 a.t a.v a.si a.st a.sd a.es b.t b.v b.si b.st b.sd b.es = chR a (hardL a b ++ snapL a b ++ restL (haveL a b) b) := by
  have ka : KI a := keptB_KI ta ha
  have kb : KI b := keptB_KI tb hb
  have a2 := ka.h2; have b0 := kb.h0; have b1 := kb.h1; have b2 := kb.h2
  have ew : ∀ x, okR zr51 zo51 (some ([.one (.b x)], [])) = true := fun _ => rfl
  have eb : ∀ x, asB (resC (some ([.one (.b x)], [])) 0 0) = x := fun _ => rfl
  have wl : ∀ x, okR zr65 zo65 (some ([.one (.l x)], [])) = true := fun _ => rfl
  have el : ∀ x, asL (resC (some ([.one (.l x)], [])) 0 0) = x := fun _ => rfl
  have wc : ∀ t v si st sd l, okR zr53 zo53 (some ([.agg [.i .i64 t, .i .i64 v, .i .i64 si, .i .i64 st, .s sd, .l l]], [])) = true := fun _ _ _ _ _ _ => rfl
  have e1 : ∀ c : Nat, c ≤ 60 → w64 (w64 (b.si + (c : Int)) + 1) = b.si + (c : Int) + 1 := fun c hc => by rw [w64_in (b.si + (c : Int)) (by omega), w64_in _ (by omega)]
  have hH := hardL_len a b
  have hS := snapL_len a b
  obtain ⟨g1, g2⟩ := behindG_in ka b.si b.st
  have tail : ∀ (H L : List (List D)), L.length ≤ 3 → (∀ r ∈ L, ∃ x, r = rcD x) → restL H b = cutL H b (cpl H b.es (H.length + 1) 0) ++ entL b.si b.es (b.es.length - cpl H b.es (H.length + 1) 0) (cpl H b.es (H.length + 1) 0) := fun H L _ _ => rfl
  have hcopy := l3Copy_eq a.t a.v a.si a.st a.sd a.es ta (by omega)
  unfold t26 ta26
  simp only [keptOk_spec a.t a.v a.si a.st a.sd a.es (by omega) ta, keptOk_spec b.t b.v b.si b.st b.sd b.es (by omega) tb, ew, eb, ha, hb, Bool.not_true, Bool.or_self, Bool.true_or, Bool.false_eq_true, if_false, chk_true, behind_eq a ka b.si b.st b0 b1, wl, el, hcopy, wc]
  by_cases hd : ((a.t != b.t) || (a.v != b.v)) = true
  rotate_left
  · by_cases sd : snapD a b = true
    rotate_left
    · skip
      have eh : hardL a b = [] := if_neg hd
      have es : snapL a b = [] := if_neg sd
      have ev : haveL a b = a.es := if_neg sd
      have sd2 := sd
      unfold snapD at sd2
      have sd2 : (!((a.si == b.si) && ((a.st == b.st) && ((a.sd.toList == b.sd.toList) && true)))) = false := by simpa using sd2
      have hd2 : ((a.t != b.t) || (a.v != b.v)) = false := by simpa using hd
      rw [eh, es, ev]
      have c1 := rcD_chk (L := ([] : List (List D))) ⟨1, b.t, 0, b.v, ⟨#[]⟩⟩ (by simp)
      have c2 := rcD_chk (L := ([] : List (List D))) ⟨4, b.st, b.si, 0, b.sd⟩ (by simp)
      have c3 := fun c : Nat => rcD_chk (L := ([] : List (List D))) ⟨3, 0, b.si + (c : Int) + 1, 0, ⟨#[]⟩⟩ (by simp)
      simp only [rcD, List.cons_append, List.nil_append] at c1 c2 c3
      simp only [hd2, sd2, c1, c2, chk_true, if_true, Bool.false_eq_true, if_false, List.cons_append, List.nil_append]
      obtain ⟨l1, l2⟩ := cpl_le a.es b.es (a.es.length + 1) 0 (by omega) (by omega)
      refine sameS2 ta tb (by omega) (a.es.length + 1) 0 KK _ (by omega) (by omega) (by rw [KK_eq]; omega) (fun bb => ?_)
      unfold restL
      generalize cpl a.es b.es (a.es.length + 1) 0 = c at l1 l2 ⊢
      obtain ⟨M, hM⟩ : ∃ M, M = ([] : List (List D)) ++ (cutL a.es b c ++ entL b.si b.es (b.es.length - c) c) := ⟨_, rfl⟩
      have hcl := cutL_len a.es b c
      have wM : M.length ≤ 1000 := by rw [hM]; simp only [List.length_append, entL_len, List.length_cons, List.length_nil]; omega
      have rM : ∀ r ∈ M, ∃ x, r = rcD x := by
        rw [hM]
        exact app_rc (by simp) (app_rc hcl.2 (entL_rc _ _ _ _))
      have goalR : chR a ([] ++ [] ++ (cutL a.es b c ++ entL b.si b.es (b.es.length - c) c)) = chR a M := by rw [hM]; simp only [List.nil_append, List.append_assoc, List.cons_append]
      refine Eq.trans ?_ goalR.symm
      by_cases hc : c < a.es.length
      · have hc2 : decide ((c : Int) < (a.es.length : Int)) = true := nat_in hc
        unfold cutL at hM
        rw [if_pos hc] at hM
        simp only [hc2, e1 c (by omega), c3, chk_true, if_true, List.cons_append, List.nil_append]
        refine entS2 tb (by omega) b0 b1 (b.es.length - c) c KK _ _ (by omega) (by rw [KK_eq]; omega) (by simp; omega) (fun b2 => ?_)
        have hT : ∀ X, X = M → X = M := fun _ h => h
        rw [show _ ++ entL b.si b.es (b.es.length - c) c = M from by rw [hM]; rfl]
        unfold chR
        by_cases h80 : decide ((M.length : Int) > 80) = true
        · simp only [h80, if_true]
        · have h80' : decide ((M.length : Int) > 80) = false := by simpa using h80
          simp only [h80', Bool.false_eq_true, if_false, hcopy, wc, chk_true, resC, nthR, cellsDV, nthD, asI, asS, asL]
          refine (foldC2 (X := some ([.one (.l []), .one (.b false)], [])) (F := fun _ => some ([.one (.l M), .one (.b true)], [])) (fun _ _ _ _ _ _ _ _ _ _ _ _ _ _ _ => rfl) (fun _ _ _ _ _ => rfl) rM (by omega) M.length 0 KK a _ _ _ ka (by omega) (by rw [KK_eq]; omega)).trans ?_
          cases foldN M M.length 0 a <;> rfl
      · have hc2 : decide ((c : Int) < (a.es.length : Int)) = false := by simp; omega
        unfold cutL at hM
        rw [if_neg hc] at hM
        simp only [hc2, Bool.false_eq_true, if_false]
        refine entS2 tb (by omega) b0 b1 (b.es.length - c) c KK _ _ (by omega) (by rw [KK_eq]; omega) (by simp; omega) (fun b2 => ?_)
        have hT : ∀ X, X = M → X = M := fun _ h => h
        rw [show _ ++ entL b.si b.es (b.es.length - c) c = M from by rw [hM]; rfl]
        unfold chR
        by_cases h80 : decide ((M.length : Int) > 80) = true
        · simp only [h80, if_true]
        · have h80' : decide ((M.length : Int) > 80) = false := by simpa using h80
          simp only [h80', Bool.false_eq_true, if_false, hcopy, wc, chk_true, resC, nthR, cellsDV, nthD, asI, asS, asL]
          refine (foldC2 (X := some ([.one (.l []), .one (.b false)], [])) (F := fun _ => some ([.one (.l M), .one (.b true)], [])) (fun _ _ _ _ _ _ _ _ _ _ _ _ _ _ _ => rfl) (fun _ _ _ _ _ => rfl) rM (by omega) M.length 0 KK a _ _ _ ka (by omega) (by rw [KK_eq]; omega)).trans ?_
          cases foldN M M.length 0 a <;> rfl
    · skip
      have eh : hardL a b = [] := if_neg hd
      have es : snapL a b = [rcD ⟨4, b.st, b.si, 0, b.sd⟩] := if_pos sd
      have ev : haveL a b = (behindG a b.si b.st) := if_pos sd
      have sd2 := sd
      unfold snapD at sd2
      have hd2 : ((a.t != b.t) || (a.v != b.v)) = false := by simpa using hd
      rw [eh, es, ev]
      have c1 := rcD_chk (L := ([] : List (List D))) ⟨1, b.t, 0, b.v, ⟨#[]⟩⟩ (by simp)
      have c2 := rcD_chk (L := ([] : List (List D))) ⟨4, b.st, b.si, 0, b.sd⟩ (by simp)
      have c3 := fun c : Nat => rcD_chk (L := ([rcD ⟨4, b.st, b.si, 0, b.sd⟩] : List (List D))) ⟨3, 0, b.si + (c : Int) + 1, 0, ⟨#[]⟩⟩ (by simp)
      simp only [rcD, List.cons_append, List.nil_append] at c1 c2 c3
      simp only [hd2, sd2, c1, c2, chk_true, if_true, Bool.false_eq_true, if_false, List.cons_append, List.nil_append]
      obtain ⟨l1, l2⟩ := cpl_le (behindG a b.si b.st) b.es ((behindG a b.si b.st).length + 1) 0 (by omega) (by omega)
      refine sameS1 g2 tb (by omega) ((behindG a b.si b.st).length + 1) 0 KK _ (by omega) (by omega) (by rw [KK_eq]; omega) (fun bb => ?_)
      unfold restL
      generalize cpl (behindG a b.si b.st) b.es ((behindG a b.si b.st).length + 1) 0 = c at l1 l2 ⊢
      obtain ⟨M, hM⟩ : ∃ M, M = ([rcD ⟨4, b.st, b.si, 0, b.sd⟩] : List (List D)) ++ (cutL (behindG a b.si b.st) b c ++ entL b.si b.es (b.es.length - c) c) := ⟨_, rfl⟩
      have hcl := cutL_len (behindG a b.si b.st) b c
      have wM : M.length ≤ 1000 := by rw [hM]; simp only [List.length_append, entL_len, List.length_cons, List.length_nil]; omega
      have rM : ∀ r ∈ M, ∃ x, r = rcD x := by
        rw [hM]
        refine app_rc (fun r hr => ?_) (app_rc hcl.2 (entL_rc _ _ _ _))
        simp only [List.mem_cons, List.not_mem_nil, or_false] at hr
        subst hr; exact ⟨_, rfl⟩
      have goalR : chR a ([] ++ [rcD ⟨4, b.st, b.si, 0, b.sd⟩] ++ (cutL (behindG a b.si b.st) b c ++ entL b.si b.es (b.es.length - c) c)) = chR a M := by rw [hM]; simp only [List.nil_append, List.append_assoc, List.cons_append]
      refine Eq.trans ?_ goalR.symm
      by_cases hc : c < (behindG a b.si b.st).length
      · have hc2 : decide ((c : Int) < ((behindG a b.si b.st).length : Int)) = true := nat_in hc
        unfold cutL at hM
        rw [if_pos hc] at hM
        simp only [hc2, e1 c (by omega), c3, chk_true, if_true, List.cons_append, List.nil_append]
        refine entS1 tb (by omega) b0 b1 (b.es.length - c) c KK _ _ (by omega) (by rw [KK_eq]; omega) (by simp; omega) (fun b2 => ?_)
        have hT : ∀ X, X = M → X = M := fun _ h => h
        rw [show _ ++ entL b.si b.es (b.es.length - c) c = M from by rw [hM]; rfl]
        unfold chR
        by_cases h80 : decide ((M.length : Int) > 80) = true
        · simp only [h80, if_true]
        · have h80' : decide ((M.length : Int) > 80) = false := by simpa using h80
          simp only [h80', Bool.false_eq_true, if_false, hcopy, wc, chk_true, resC, nthR, cellsDV, nthD, asI, asS, asL]
          refine (foldC1 (X := some ([.one (.l []), .one (.b false)], [])) (F := fun _ => some ([.one (.l M), .one (.b true)], [])) (fun _ _ _ _ _ _ _ _ _ _ _ _ _ _ _ => rfl) (fun _ _ _ _ _ => rfl) rM (by omega) M.length 0 KK a _ _ _ ka (by omega) (by rw [KK_eq]; omega)).trans ?_
          cases foldN M M.length 0 a <;> rfl
      · have hc2 : decide ((c : Int) < ((behindG a b.si b.st).length : Int)) = false := by simp; omega
        unfold cutL at hM
        rw [if_neg hc] at hM
        simp only [hc2, Bool.false_eq_true, if_false]
        refine entS1 tb (by omega) b0 b1 (b.es.length - c) c KK _ _ (by omega) (by rw [KK_eq]; omega) (by simp; omega) (fun b2 => ?_)
        have hT : ∀ X, X = M → X = M := fun _ h => h
        rw [show _ ++ entL b.si b.es (b.es.length - c) c = M from by rw [hM]; rfl]
        unfold chR
        by_cases h80 : decide ((M.length : Int) > 80) = true
        · simp only [h80, if_true]
        · have h80' : decide ((M.length : Int) > 80) = false := by simpa using h80
          simp only [h80', Bool.false_eq_true, if_false, hcopy, wc, chk_true, resC, nthR, cellsDV, nthD, asI, asS, asL]
          refine (foldC1 (X := some ([.one (.l []), .one (.b false)], [])) (F := fun _ => some ([.one (.l M), .one (.b true)], [])) (fun _ _ _ _ _ _ _ _ _ _ _ _ _ _ _ => rfl) (fun _ _ _ _ _ => rfl) rM (by omega) M.length 0 KK a _ _ _ ka (by omega) (by rw [KK_eq]; omega)).trans ?_
          cases foldN M M.length 0 a <;> rfl
  · by_cases sd : snapD a b = true
    rotate_left
    · skip
      have eh : hardL a b = [rcD ⟨1, b.t, 0, b.v, ⟨#[]⟩⟩] := if_pos hd
      have es : snapL a b = [] := if_neg sd
      have ev : haveL a b = a.es := if_neg sd
      have sd2 := sd
      unfold snapD at sd2
      have sd2 : (!((a.si == b.si) && ((a.st == b.st) && ((a.sd.toList == b.sd.toList) && true)))) = false := by simpa using sd2
      rw [eh, es, ev]
      have c1 := rcD_chk (L := ([] : List (List D))) ⟨1, b.t, 0, b.v, ⟨#[]⟩⟩ (by simp)
      have c2 := rcD_chk (L := ([rcD ⟨1, b.t, 0, b.v, ⟨#[]⟩⟩] : List (List D))) ⟨4, b.st, b.si, 0, b.sd⟩ (by simp)
      have c3 := fun c : Nat => rcD_chk (L := ([rcD ⟨1, b.t, 0, b.v, ⟨#[]⟩⟩] : List (List D))) ⟨3, 0, b.si + (c : Int) + 1, 0, ⟨#[]⟩⟩ (by simp)
      simp only [rcD, List.cons_append, List.nil_append] at c1 c2 c3
      simp only [hd, sd2, c1, c2, chk_true, if_true, Bool.false_eq_true, if_false, List.cons_append, List.nil_append]
      obtain ⟨l1, l2⟩ := cpl_le a.es b.es (a.es.length + 1) 0 (by omega) (by omega)
      refine sameS2 ta tb (by omega) (a.es.length + 1) 0 KK _ (by omega) (by omega) (by rw [KK_eq]; omega) (fun bb => ?_)
      unfold restL
      generalize cpl a.es b.es (a.es.length + 1) 0 = c at l1 l2 ⊢
      obtain ⟨M, hM⟩ : ∃ M, M = ([rcD ⟨1, b.t, 0, b.v, ⟨#[]⟩⟩] : List (List D)) ++ (cutL a.es b c ++ entL b.si b.es (b.es.length - c) c) := ⟨_, rfl⟩
      have hcl := cutL_len a.es b c
      have wM : M.length ≤ 1000 := by rw [hM]; simp only [List.length_append, entL_len, List.length_cons, List.length_nil]; omega
      have rM : ∀ r ∈ M, ∃ x, r = rcD x := by
        rw [hM]
        refine app_rc (fun r hr => ?_) (app_rc hcl.2 (entL_rc _ _ _ _))
        simp only [List.mem_cons, List.not_mem_nil, or_false] at hr
        subst hr; exact ⟨_, rfl⟩
      have goalR : chR a ([rcD ⟨1, b.t, 0, b.v, ⟨#[]⟩⟩] ++ [] ++ (cutL a.es b c ++ entL b.si b.es (b.es.length - c) c)) = chR a M := by rw [hM]; simp only [List.nil_append, List.append_assoc, List.cons_append]
      refine Eq.trans ?_ goalR.symm
      by_cases hc : c < a.es.length
      · have hc2 : decide ((c : Int) < (a.es.length : Int)) = true := nat_in hc
        unfold cutL at hM
        rw [if_pos hc] at hM
        simp only [hc2, e1 c (by omega), c3, chk_true, if_true, List.cons_append, List.nil_append]
        refine entS2 tb (by omega) b0 b1 (b.es.length - c) c KK _ _ (by omega) (by rw [KK_eq]; omega) (by simp; omega) (fun b2 => ?_)
        have hT : ∀ X, X = M → X = M := fun _ h => h
        rw [show _ ++ entL b.si b.es (b.es.length - c) c = M from by rw [hM]; rfl]
        unfold chR
        by_cases h80 : decide ((M.length : Int) > 80) = true
        · simp only [h80, if_true]
        · have h80' : decide ((M.length : Int) > 80) = false := by simpa using h80
          simp only [h80', Bool.false_eq_true, if_false, hcopy, wc, chk_true, resC, nthR, cellsDV, nthD, asI, asS, asL]
          refine (foldC2 (X := some ([.one (.l []), .one (.b false)], [])) (F := fun _ => some ([.one (.l M), .one (.b true)], [])) (fun _ _ _ _ _ _ _ _ _ _ _ _ _ _ _ => rfl) (fun _ _ _ _ _ => rfl) rM (by omega) M.length 0 KK a _ _ _ ka (by omega) (by rw [KK_eq]; omega)).trans ?_
          cases foldN M M.length 0 a <;> rfl
      · have hc2 : decide ((c : Int) < (a.es.length : Int)) = false := by simp; omega
        unfold cutL at hM
        rw [if_neg hc] at hM
        simp only [hc2, Bool.false_eq_true, if_false]
        refine entS2 tb (by omega) b0 b1 (b.es.length - c) c KK _ _ (by omega) (by rw [KK_eq]; omega) (by simp; omega) (fun b2 => ?_)
        have hT : ∀ X, X = M → X = M := fun _ h => h
        rw [show _ ++ entL b.si b.es (b.es.length - c) c = M from by rw [hM]; rfl]
        unfold chR
        by_cases h80 : decide ((M.length : Int) > 80) = true
        · simp only [h80, if_true]
        · have h80' : decide ((M.length : Int) > 80) = false := by simpa using h80
          simp only [h80', Bool.false_eq_true, if_false, hcopy, wc, chk_true, resC, nthR, cellsDV, nthD, asI, asS, asL]
          refine (foldC2 (X := some ([.one (.l []), .one (.b false)], [])) (F := fun _ => some ([.one (.l M), .one (.b true)], [])) (fun _ _ _ _ _ _ _ _ _ _ _ _ _ _ _ => rfl) (fun _ _ _ _ _ => rfl) rM (by omega) M.length 0 KK a _ _ _ ka (by omega) (by rw [KK_eq]; omega)).trans ?_
          cases foldN M M.length 0 a <;> rfl
    · skip
      have eh : hardL a b = [rcD ⟨1, b.t, 0, b.v, ⟨#[]⟩⟩] := if_pos hd
      have es : snapL a b = [rcD ⟨4, b.st, b.si, 0, b.sd⟩] := if_pos sd
      have ev : haveL a b = (behindG a b.si b.st) := if_pos sd
      have sd2 := sd
      unfold snapD at sd2
      rw [eh, es, ev]
      have c1 := rcD_chk (L := ([] : List (List D))) ⟨1, b.t, 0, b.v, ⟨#[]⟩⟩ (by simp)
      have c2 := rcD_chk (L := ([rcD ⟨1, b.t, 0, b.v, ⟨#[]⟩⟩] : List (List D))) ⟨4, b.st, b.si, 0, b.sd⟩ (by simp)
      have c3 := fun c : Nat => rcD_chk (L := ([rcD ⟨1, b.t, 0, b.v, ⟨#[]⟩⟩, rcD ⟨4, b.st, b.si, 0, b.sd⟩] : List (List D))) ⟨3, 0, b.si + (c : Int) + 1, 0, ⟨#[]⟩⟩ (by simp)
      simp only [rcD, List.cons_append, List.nil_append] at c1 c2 c3
      simp only [hd, sd2, c1, c2, chk_true, if_true, Bool.false_eq_true, if_false, List.cons_append, List.nil_append]
      obtain ⟨l1, l2⟩ := cpl_le (behindG a b.si b.st) b.es ((behindG a b.si b.st).length + 1) 0 (by omega) (by omega)
      refine sameS1 g2 tb (by omega) ((behindG a b.si b.st).length + 1) 0 KK _ (by omega) (by omega) (by rw [KK_eq]; omega) (fun bb => ?_)
      unfold restL
      generalize cpl (behindG a b.si b.st) b.es ((behindG a b.si b.st).length + 1) 0 = c at l1 l2 ⊢
      obtain ⟨M, hM⟩ : ∃ M, M = ([rcD ⟨1, b.t, 0, b.v, ⟨#[]⟩⟩, rcD ⟨4, b.st, b.si, 0, b.sd⟩] : List (List D)) ++ (cutL (behindG a b.si b.st) b c ++ entL b.si b.es (b.es.length - c) c) := ⟨_, rfl⟩
      have hcl := cutL_len (behindG a b.si b.st) b c
      have wM : M.length ≤ 1000 := by rw [hM]; simp only [List.length_append, entL_len, List.length_cons, List.length_nil]; omega
      have rM : ∀ r ∈ M, ∃ x, r = rcD x := by
        rw [hM]
        refine app_rc (fun r hr => ?_) (app_rc hcl.2 (entL_rc _ _ _ _))
        simp only [List.mem_cons, List.not_mem_nil, or_false] at hr
        rcases hr with rfl | rfl <;> exact ⟨_, rfl⟩
      have goalR : chR a ([rcD ⟨1, b.t, 0, b.v, ⟨#[]⟩⟩] ++ [rcD ⟨4, b.st, b.si, 0, b.sd⟩] ++ (cutL (behindG a b.si b.st) b c ++ entL b.si b.es (b.es.length - c) c)) = chR a M := by rw [hM]; simp only [List.nil_append, List.append_assoc, List.cons_append]
      refine Eq.trans ?_ goalR.symm
      by_cases hc : c < (behindG a b.si b.st).length
      · have hc2 : decide ((c : Int) < ((behindG a b.si b.st).length : Int)) = true := nat_in hc
        unfold cutL at hM
        rw [if_pos hc] at hM
        simp only [hc2, e1 c (by omega), c3, chk_true, if_true, List.cons_append, List.nil_append]
        refine entS1 tb (by omega) b0 b1 (b.es.length - c) c KK _ _ (by omega) (by rw [KK_eq]; omega) (by simp; omega) (fun b2 => ?_)
        have hT : ∀ X, X = M → X = M := fun _ h => h
        rw [show _ ++ entL b.si b.es (b.es.length - c) c = M from by rw [hM]; rfl]
        unfold chR
        by_cases h80 : decide ((M.length : Int) > 80) = true
        · simp only [h80, if_true]
        · have h80' : decide ((M.length : Int) > 80) = false := by simpa using h80
          simp only [h80', Bool.false_eq_true, if_false, hcopy, wc, chk_true, resC, nthR, cellsDV, nthD, asI, asS, asL]
          refine (foldC1 (X := some ([.one (.l []), .one (.b false)], [])) (F := fun _ => some ([.one (.l M), .one (.b true)], [])) (fun _ _ _ _ _ _ _ _ _ _ _ _ _ _ _ => rfl) (fun _ _ _ _ _ => rfl) rM (by omega) M.length 0 KK a _ _ _ ka (by omega) (by rw [KK_eq]; omega)).trans ?_
          cases foldN M M.length 0 a <;> rfl
      · have hc2 : decide ((c : Int) < ((behindG a b.si b.st).length : Int)) = false := by simp; omega
        unfold cutL at hM
        rw [if_neg hc] at hM
        simp only [hc2, Bool.false_eq_true, if_false]
        refine entS1 tb (by omega) b0 b1 (b.es.length - c) c KK _ _ (by omega) (by rw [KK_eq]; omega) (by simp; omega) (fun b2 => ?_)
        have hT : ∀ X, X = M → X = M := fun _ h => h
        rw [show _ ++ entL b.si b.es (b.es.length - c) c = M from by rw [hM]; rfl]
        unfold chR
        by_cases h80 : decide ((M.length : Int) > 80) = true
        · simp only [h80, if_true]
        · have h80' : decide ((M.length : Int) > 80) = false := by simpa using h80
          simp only [h80', Bool.false_eq_true, if_false, hcopy, wc, chk_true, resC, nthR, cellsDV, nthD, asI, asS, asL]
          refine (foldC1 (X := some ([.one (.l []), .one (.b false)], [])) (F := fun _ => some ([.one (.l M), .one (.b true)], [])) (fun _ _ _ _ _ _ _ _ _ _ _ _ _ _ _ => rfl) (fun _ _ _ _ _ => rfl) rM (by omega) M.length 0 KK a _ _ _ ka (by omega) (by rw [KK_eq]; omega)).trans ?_
          cases foldN M M.length 0 a <;> rfl
theorem final_eq {a K : KS} {bad : Bool} {M : List (List D)} (h : NoteI a K bad M) : (if (bad || decide ((M.length : Int) > 80)) = true then some ([DV.one (.l []), .one (.b false)], ([] : List (List D))) else some ([DV.one (.l M), .one (.b true)], [])) = chR a M := by
  cases bad with
  | true => rw [chR_bad (h.no rfl)]; simp
  | false => unfold chR; rw [h.ok rfl]; simp only [Bool.false_or]
theorem ag6 (t v si st : Int) (sd : ByteArray) (l : List (List D)) : asI (resC (some ([.agg [.i .i64 t, .i .i64 v, .i .i64 si, .i .i64 st, .s sd, .l l]], [])) 0 0) = t ∧ asI (resC (some ([.agg [.i .i64 t, .i .i64 v, .i .i64 si, .i .i64 st, .s sd, .l l]], [])) 0 1) = v ∧ asI (resC (some ([.agg [.i .i64 t, .i .i64 v, .i .i64 si, .i .i64 st, .s sd, .l l]], [])) 0 2) = si ∧ asI (resC (some ([.agg [.i .i64 t, .i .i64 v, .i .i64 si, .i .i64 st, .s sd, .l l]], [])) 0 3) = st ∧ asS (resC (some ([.agg [.i .i64 t, .i .i64 v, .i .i64 si, .i .i64 st, .s sd, .l l]], [])) 0 4) = sd ∧ asL (resC (some ([.agg [.i .i64 t, .i .i64 v, .i .i64 si, .i .i64 st, .s sd, .l l]], [])) 0 5) = l := ⟨rfl, rfl, rfl, rfl, rfl, rfl⟩
theorem hard_note {a : KS} (ka : KI a) : NoteI a a false [] := ⟨ka, fun _ => rfl, fun h => (by cases h), by simp⟩
theorem stepK_hard {k : KS} {t v : Int} {d : ByteArray} {i : Int} (h1 : fitsB k ⟨1, t, i, v, d⟩ = true) (h2 : recOk ⟨1, t, i, v, d⟩ = true) : (stepK k ⟨1, t, i, v, d⟩).1.es = k.es ∧ (stepK k ⟨1, t, i, v, d⟩).1.si = k.si := by
  unfold stepK; simp [h1, h2]
theorem stepK_snap {k : KS} {t v : Int} {d : ByteArray} {i : Int} (h1 : fitsB k ⟨4, t, i, v, d⟩ = true) (h2 : recOk ⟨4, t, i, v, d⟩ = true) : (stepK k ⟨4, t, i, v, d⟩).1.es = behindG k i t := by
  have hf : k.si < i := by
    simp [fitsB] at h1; omega
  unfold stepK; simp only [h1, h2, Bool.and_self, if_true]
  show behindA k i t = behindG k i t
  unfold behindA behindG
  by_cases h : i - k.si ≤ (k.es.length : Int) ∧ asI (nthD (k.es.getD (i - k.si - 1).toNat []) 0) = t
  · rw [if_pos h, if_pos ⟨by omega, h.1, h.2⟩]
  · rw [if_neg h, if_neg (fun x => h x.2)]
theorem behindG_congr {k k' : KS} (h1 : k.es = k'.es) (h2 : k.si = k'.si) (i t : Int) : behindG k i t = behindG k' i t := by unfold behindG; rw [h1, h2]
theorem rest_eq {a b K : KS} {bad : Bool} {L : List (List D)} (h : NoteI a K bad L) (hb : bad = false → K.es = haveL a b) : chR a (L ++ restL K.es b) = chR a (L ++ restL (haveL a b) b) := by
  cases bad with
  | false => rw [hb rfl]
  | true => rw [chR_bad (foldN_none _ _ _ (h.no rfl)), chR_bad (foldN_none _ _ _ (h.no rfl))]
theorem changes_impl (a b : KS) (ha : keptB a.t a.v a.si a.st a.sd a.es = true) (hb : keptB b.t b.v b.si b.st b.sd b.es = true) (ta : ∀ r ∈ a.es, typL shEntry r) (tb : ∀ r ∈ b.es, typL shEntry r) :
    t66 a.t a.v a.si a.st a.sd a.es b.t b.v b.si b.st b.sd b.es = chR a (hardL a b ++ snapL a b ++ restL (haveL a b) b) := by
  have ka : KI a := keptB_KI ta ha
  have kb : KI b := keptB_KI tb hb
  have a2 := ka.h2; have b0 := kb.h0; have b1 := kb.h1; have b2 := kb.h2
  have wc : ∀ t v si st sd l, okR zr57 zo57 (some ([.agg [.i .i64 t, .i .i64 v, .i .i64 si, .i .i64 st, .s sd, .l l]], [])) = true := fun _ _ _ _ _ _ => rfl
  have e1 : ∀ c : Nat, c ≤ 60 → w64 (w64 (b.si + (c : Int)) + 1) = b.si + (c : Int) + 1 := fun c hc => by rw [w64_in (b.si + (c : Int)) (by omega), w64_in _ (by omega)]
  have e12 : ∀ c : Nat, c ≤ b.es.length → decide (0 ≤ (c : Int) ∧ (c : Int) ≤ (b.es.length : Int) ∧ (b.es.getD 0 z90).length = z90.length) = true := fun c hc => by
    refine decide_eq_true ⟨by omega, by omega, ?_⟩
    cases hes : b.es with
    | nil => rfl
    | cons x xs =>
      obtain ⟨a, b, rfl, _⟩ := Entry_row (tb x (by rw [hes]; simp))
      rfl
  have hcopy := copyKept_eq a.t a.v a.si a.st a.sd a.es ta (by omega)
  unfold t66 ta66
  obtain ⟨o0, o1, o2, o3, o4, o5⟩ := ag6 a.t a.v a.si a.st a.sd a.es
  simp only [hcopy, wc, chk_true, o0, o1, o2, o3, o4, o5]
  by_cases hd : ((a.t != b.t) || (a.v != b.v)) = true
  rotate_left
  · by_cases sd : snapD a b = true
    rotate_left
    · skip
      have eh : hardL a b = [] := if_neg hd
      have es : snapL a b = [] := if_neg sd
      have ev : haveL a b = a.es := if_neg sd
      have sd2 := sd
      unfold snapD at sd2
      have sd2 : (!((a.si == b.si) && ((a.st == b.st) && ((a.sd.toList == b.sd.toList) && true)))) = false := by simpa using sd2
      have hd2 : ((a.t != b.t) || (a.v != b.v)) = false := by simpa using hd
      rw [eh, es]
      have hbad : false = false → a.es = haveL a b := fun _ => ev.symm
      have hN0 := hard_note ka
      simp only [hd2, sd2, if_true, Bool.false_eq_true, if_false, chk_true, note_w]
      rw [show ([] ++ [] ++ restL (haveL a b) b : List (List D)) = ([] : List (List D)) ++ restL (haveL a b) b from by simp]
      have hK := hN0.ki.h3
      have hK2 := hN0.ki.h2
      refine Eq.trans ?_ (rest_eq hN0 hbad)
      obtain ⟨l1, l2⟩ := cpl_le a.es b.es (a.es.length + 1) 0 (by omega) (by omega)
      refine sameI hK tb (by omega) (a.es.length + 1) 0 KK _ (by omega) (by omega) (by rw [KK_eq]; omega) (fun bb => ?_)
      unfold restL
      generalize cpl a.es b.es (a.es.length + 1) 0 = c at l1 l2 ⊢
      by_cases hc : c < a.es.length
      · have hc2 : decide ((c : Int) < (a.es.length : Int)) = true := nat_in hc
        obtain ⟨K3, bad3, m1, m2, m3, m4⟩ := note_eq hN0 (by simp) ⟨3, 0, b.si + (c : Int) + 1, 0, ⟨#[]⟩⟩
        obtain ⟨p0, p1, p2, p3, p4, p5, p6, p7⟩ := note_o K3 (([] : List (List D)) ++ [rcD ⟨3, 0, b.si + (c : Int) + 1, 0, ⟨#[]⟩⟩]) bad3
        simp only at m1
        have ec : cutL a.es b c = [rcD ⟨3, 0, b.si + (c : Int) + 1, 0, ⟨#[]⟩⟩] := if_pos hc
        rw [ec, ← List.append_assoc]
        simp only [hc2, e1 c (by omega), m1, note_w, chk_true, if_true, p0, p1, p2, p3, p4, p5, p6, p7, e12 c l2, Int.toNat_natCast]
        refine entI tb (by omega) l2 b0 b1 (b.es.length - c) 0 KK _ _ K3 bad3 _ (by omega) (by rw [KK_eq]; omega) (by simp; omega) m2 (fun u n bq K bad hN => ?_)
        exact final_eq hN
      · have hc2 : decide ((c : Int) < (a.es.length : Int)) = false := by simp; omega
        have ec : cutL a.es b c = [] := if_neg hc
        rw [ec, List.nil_append]
        simp only [hc2, Bool.false_eq_true, if_false, chk_true, e12 c l2, Int.toNat_natCast]
        refine entI tb (by omega) l2 b0 b1 (b.es.length - c) 0 KK _ _ a _ _ (by omega) (by rw [KK_eq]; omega) (by simp; omega) hN0 (fun u n bq K bad hN => ?_)
        exact final_eq hN
    · skip
      have eh : hardL a b = [] := if_neg hd
      have es : snapL a b = [rcD ⟨4, b.st, b.si, 0, b.sd⟩] := if_pos sd
      have ev : haveL a b = behindG a b.si b.st := if_pos sd
      have sd2 := sd
      unfold snapD at sd2
      have hd2 : ((a.t != b.t) || (a.v != b.v)) = false := by simpa using hd
      rw [eh, es]
      obtain ⟨K2, bad2, g1, hN2, g3, g4⟩ := note_eq (hard_note ka) (by simp) ⟨4, b.st, b.si, 0, b.sd⟩
      obtain ⟨v0, v1, v2, v3, v4, v5, v6, v7⟩ := note_o K2 (([] : List (List D)) ++ [rcD ⟨4, b.st, b.si, 0, b.sd⟩]) bad2
      simp only at g1
      have hbad : bad2 = false → K2.es = haveL a b := fun hb => by
        obtain ⟨w1, w2, w3⟩ := g4 hb
        rw [w1, stepK_snap w2 w3, ev]
      simp only [hd2, sd2, if_true, Bool.false_eq_true, if_false, chk_true, note_w, g1, v0, v1, v2, v3, v4, v5, v6, v7]
      rw [show ([] ++ [rcD ⟨4, b.st, b.si, 0, b.sd⟩] ++ restL (haveL a b) b : List (List D)) = ([] ++ [rcD ⟨4, b.st, b.si, 0, b.sd⟩] : List (List D)) ++ restL (haveL a b) b from by simp]
      have hK := hN2.ki.h3
      have hK2 := hN2.ki.h2
      refine Eq.trans ?_ (rest_eq hN2 hbad)
      obtain ⟨l1, l2⟩ := cpl_le K2.es b.es (K2.es.length + 1) 0 (by omega) (by omega)
      refine sameI hK tb (by omega) (K2.es.length + 1) 0 KK _ (by omega) (by omega) (by rw [KK_eq]; omega) (fun bb => ?_)
      unfold restL
      generalize cpl K2.es b.es (K2.es.length + 1) 0 = c at l1 l2 ⊢
      by_cases hc : c < K2.es.length
      · have hc2 : decide ((c : Int) < (K2.es.length : Int)) = true := nat_in hc
        obtain ⟨K3, bad3, m1, m2, m3, m4⟩ := note_eq hN2 (by simp) ⟨3, 0, b.si + (c : Int) + 1, 0, ⟨#[]⟩⟩
        obtain ⟨p0, p1, p2, p3, p4, p5, p6, p7⟩ := note_o K3 (([] ++ [rcD ⟨4, b.st, b.si, 0, b.sd⟩] : List (List D)) ++ [rcD ⟨3, 0, b.si + (c : Int) + 1, 0, ⟨#[]⟩⟩]) bad3
        simp only at m1
        have ec : cutL K2.es b c = [rcD ⟨3, 0, b.si + (c : Int) + 1, 0, ⟨#[]⟩⟩] := if_pos hc
        rw [ec, ← List.append_assoc]
        simp only [hc2, e1 c (by omega), m1, note_w, chk_true, if_true, p0, p1, p2, p3, p4, p5, p6, p7, e12 c l2, Int.toNat_natCast]
        refine entI tb (by omega) l2 b0 b1 (b.es.length - c) 0 KK _ _ K3 bad3 _ (by omega) (by rw [KK_eq]; omega) (by simp; omega) m2 (fun u n bq K bad hN => ?_)
        exact final_eq hN
      · have hc2 : decide ((c : Int) < (K2.es.length : Int)) = false := by simp; omega
        have ec : cutL K2.es b c = [] := if_neg hc
        rw [ec, List.nil_append]
        simp only [hc2, Bool.false_eq_true, if_false, chk_true, e12 c l2, Int.toNat_natCast]
        refine entI tb (by omega) l2 b0 b1 (b.es.length - c) 0 KK _ _ K2 _ _ (by omega) (by rw [KK_eq]; omega) (by simp; omega) hN2 (fun u n bq K bad hN => ?_)
        exact final_eq hN
  · by_cases sd : snapD a b = true
    rotate_left
    · skip
      have eh : hardL a b = [rcD ⟨1, b.t, 0, b.v, ⟨#[]⟩⟩] := if_pos hd
      have es : snapL a b = [] := if_neg sd
      have ev : haveL a b = a.es := if_neg sd
      have sd2 := sd
      unfold snapD at sd2
      have sd2 : (!((a.si == b.si) && ((a.st == b.st) && ((a.sd.toList == b.sd.toList) && true)))) = false := by simpa using sd2
      rw [eh, es]
      obtain ⟨K1, bad1, h1, hN1, h3, h4⟩ := note_eq (hard_note ka) (by simp) ⟨1, b.t, 0, b.v, ⟨#[]⟩⟩
      obtain ⟨u0, u1, u2, u3, u4, u5, u6, u7⟩ := note_o K1 ([] ++ [rcD ⟨1, b.t, 0, b.v, ⟨#[]⟩⟩]) bad1
      simp only at h1
      have hbad : bad1 = false → K1.es = haveL a b := fun hb => by
        obtain ⟨q1, q2, q3⟩ := h4 hb
        rw [q1, (stepK_hard q2 q3).1, ev]
      simp only [hd, sd2, if_true, Bool.false_eq_true, if_false, chk_true, note_w, h1, u0, u1, u2, u3, u4, u5, u6, u7]
      rw [show ([rcD ⟨1, b.t, 0, b.v, ⟨#[]⟩⟩] ++ [] ++ restL (haveL a b) b : List (List D)) = ([] ++ [rcD ⟨1, b.t, 0, b.v, ⟨#[]⟩⟩] : List (List D)) ++ restL (haveL a b) b from by simp]
      have hK := hN1.ki.h3
      have hK2 := hN1.ki.h2
      refine Eq.trans ?_ (rest_eq hN1 hbad)
      obtain ⟨l1, l2⟩ := cpl_le K1.es b.es (K1.es.length + 1) 0 (by omega) (by omega)
      refine sameI hK tb (by omega) (K1.es.length + 1) 0 KK _ (by omega) (by omega) (by rw [KK_eq]; omega) (fun bb => ?_)
      unfold restL
      generalize cpl K1.es b.es (K1.es.length + 1) 0 = c at l1 l2 ⊢
      by_cases hc : c < K1.es.length
      · have hc2 : decide ((c : Int) < (K1.es.length : Int)) = true := nat_in hc
        obtain ⟨K3, bad3, m1, m2, m3, m4⟩ := note_eq hN1 (by simp) ⟨3, 0, b.si + (c : Int) + 1, 0, ⟨#[]⟩⟩
        obtain ⟨p0, p1, p2, p3, p4, p5, p6, p7⟩ := note_o K3 (([] ++ [rcD ⟨1, b.t, 0, b.v, ⟨#[]⟩⟩] : List (List D)) ++ [rcD ⟨3, 0, b.si + (c : Int) + 1, 0, ⟨#[]⟩⟩]) bad3
        simp only at m1
        have ec : cutL K1.es b c = [rcD ⟨3, 0, b.si + (c : Int) + 1, 0, ⟨#[]⟩⟩] := if_pos hc
        rw [ec, ← List.append_assoc]
        simp only [hc2, e1 c (by omega), m1, note_w, chk_true, if_true, p0, p1, p2, p3, p4, p5, p6, p7, e12 c l2, Int.toNat_natCast]
        refine entI tb (by omega) l2 b0 b1 (b.es.length - c) 0 KK _ _ K3 bad3 _ (by omega) (by rw [KK_eq]; omega) (by simp; omega) m2 (fun u n bq K bad hN => ?_)
        exact final_eq hN
      · have hc2 : decide ((c : Int) < (K1.es.length : Int)) = false := by simp; omega
        have ec : cutL K1.es b c = [] := if_neg hc
        rw [ec, List.nil_append]
        simp only [hc2, Bool.false_eq_true, if_false, chk_true, e12 c l2, Int.toNat_natCast]
        refine entI tb (by omega) l2 b0 b1 (b.es.length - c) 0 KK _ _ K1 _ _ (by omega) (by rw [KK_eq]; omega) (by simp; omega) hN1 (fun u n bq K bad hN => ?_)
        exact final_eq hN
    · skip
      have eh : hardL a b = [rcD ⟨1, b.t, 0, b.v, ⟨#[]⟩⟩] := if_pos hd
      have es : snapL a b = [rcD ⟨4, b.st, b.si, 0, b.sd⟩] := if_pos sd
      have ev : haveL a b = behindG a b.si b.st := if_pos sd
      have sd2 := sd
      unfold snapD at sd2
      rw [eh, es]
      obtain ⟨K1, bad1, h1, hN1, h3, h4⟩ := note_eq (hard_note ka) (by simp) ⟨1, b.t, 0, b.v, ⟨#[]⟩⟩
      obtain ⟨u0, u1, u2, u3, u4, u5, u6, u7⟩ := note_o K1 ([] ++ [rcD ⟨1, b.t, 0, b.v, ⟨#[]⟩⟩]) bad1
      simp only at h1
      obtain ⟨K2, bad2, g1, hN2, g3, g4⟩ := note_eq hN1 (by simp) ⟨4, b.st, b.si, 0, b.sd⟩
      obtain ⟨v0, v1, v2, v3, v4, v5, v6, v7⟩ := note_o K2 (([] ++ [rcD ⟨1, b.t, 0, b.v, ⟨#[]⟩⟩]) ++ [rcD ⟨4, b.st, b.si, 0, b.sd⟩]) bad2
      simp only at g1
      have hbad : bad2 = false → K2.es = haveL a b := fun hb => by
        have hb1 : bad1 = false := by cases bad1 <;> simp_all
        obtain ⟨q1, q2, q3⟩ := h4 hb1
        obtain ⟨w1, w2, w3⟩ := g4 hb
        obtain ⟨x1, x2⟩ := stepK_hard q2 q3
        rw [w1, stepK_snap w2 w3, ev]
        exact behindG_congr (by rw [q1, x1]) (by rw [q1, x2]) _ _
      simp only [hd, sd2, if_true, Bool.false_eq_true, if_false, chk_true, note_w, h1, u0, u1, u2, u3, u4, u5, u6, u7, g1, v0, v1, v2, v3, v4, v5, v6, v7]
      rw [show ([rcD ⟨1, b.t, 0, b.v, ⟨#[]⟩⟩] ++ [rcD ⟨4, b.st, b.si, 0, b.sd⟩] ++ restL (haveL a b) b : List (List D)) = (([] ++ [rcD ⟨1, b.t, 0, b.v, ⟨#[]⟩⟩]) ++ [rcD ⟨4, b.st, b.si, 0, b.sd⟩] : List (List D)) ++ restL (haveL a b) b from by simp]
      have hK := hN2.ki.h3
      have hK2 := hN2.ki.h2
      refine Eq.trans ?_ (rest_eq hN2 hbad)
      obtain ⟨l1, l2⟩ := cpl_le K2.es b.es (K2.es.length + 1) 0 (by omega) (by omega)
      refine sameI hK tb (by omega) (K2.es.length + 1) 0 KK _ (by omega) (by omega) (by rw [KK_eq]; omega) (fun bb => ?_)
      unfold restL
      generalize cpl K2.es b.es (K2.es.length + 1) 0 = c at l1 l2 ⊢
      by_cases hc : c < K2.es.length
      · have hc2 : decide ((c : Int) < (K2.es.length : Int)) = true := nat_in hc
        obtain ⟨K3, bad3, m1, m2, m3, m4⟩ := note_eq hN2 (by simp) ⟨3, 0, b.si + (c : Int) + 1, 0, ⟨#[]⟩⟩
        obtain ⟨p0, p1, p2, p3, p4, p5, p6, p7⟩ := note_o K3 ((([] ++ [rcD ⟨1, b.t, 0, b.v, ⟨#[]⟩⟩]) ++ [rcD ⟨4, b.st, b.si, 0, b.sd⟩] : List (List D)) ++ [rcD ⟨3, 0, b.si + (c : Int) + 1, 0, ⟨#[]⟩⟩]) bad3
        simp only at m1
        have ec : cutL K2.es b c = [rcD ⟨3, 0, b.si + (c : Int) + 1, 0, ⟨#[]⟩⟩] := if_pos hc
        rw [ec, ← List.append_assoc]
        simp only [hc2, e1 c (by omega), m1, note_w, chk_true, if_true, p0, p1, p2, p3, p4, p5, p6, p7, e12 c l2, Int.toNat_natCast]
        refine entI tb (by omega) l2 b0 b1 (b.es.length - c) 0 KK _ _ K3 bad3 _ (by omega) (by rw [KK_eq]; omega) (by simp; omega) m2 (fun u n bq K bad hN => ?_)
        exact final_eq hN
      · have hc2 : decide ((c : Int) < (K2.es.length : Int)) = false := by simp; omega
        have ec : cutL K2.es b c = [] := if_neg hc
        rw [ec, List.nil_append]
        simp only [hc2, Bool.false_eq_true, if_false, chk_true, e12 c l2, Int.toNat_natCast]
        refine entI tb (by omega) l2 b0 b1 (b.es.length - c) 0 KK _ _ K2 _ _ (by omega) (by rw [KK_eq]; omega) (by simp; omega) hN2 (fun u n bq K bad hN => ?_)
        exact final_eq hN
theorem both_Changes (x1 x2 x3 x4 : Int) (x5 : ByteArray) (x6 : List (List D)) (x7 x8 x9 x10 : Int) (x11 : ByteArray) (x12 : List (List D)) (w5 : x5.size ≤ 1048576) (w6 : x6.length ≤ 1048576) (t6 : ∀ r ∈ x6, typL shEntry r) (s6 : ∀ r ∈ x6, szdL shEntry r) (w11 : x11.size ≤ 1048576) (w12 : x12.length ≤ 1048576) (t12 : ∀ r ∈ x12, typL shEntry r) (s12 : ∀ r ∈ x12, szdL shEntry r) :
    ∃ r1 r2, t26 x1 x2 x3 x4 x5 x6 x7 x8 x9 x10 x11 x12 = some ([.one (.l r1), .one (.b r2)], []) ∧ t27 x1 x2 x3 x4 x5 x6 x7 x8 x9 x10 x11 x12 = some ([.one (.l r1), .one (.b r2)], []) ∧ r1.length ≤ 1048576 ∧ (∀ r ∈ r1, typL shRec r) ∧ True := by
  have ew : ∀ x, okR zr51 zo51 (some ([.one (.b x)], [])) = true := fun _ => rfl
  have ew2 : ∀ x, okR zr56 zo56 (some ([.one (.b x)], [])) = true := fun _ => rfl
  have eb : ∀ x, asB (resC (some ([.one (.b x)], [])) 0 0) = x := fun _ => rfl
  have wC : ∀ x y, okR zr66 zo66 (some ([.one (.l x), .one (.b y)], [])) = true := fun _ _ => rfl
  by_cases hk : keptB x1 x2 x3 x4 x5 x6 = true ∧ keptB x7 x8 x9 x10 x11 x12 = true
  · have hS := changes_spec ⟨x1, x2, x3, x4, x5, x6⟩ ⟨x7, x8, x9, x10, x11, x12⟩ hk.1 hk.2 t6 t12
    have hI := changes_impl ⟨x1, x2, x3, x4, x5, x6⟩ ⟨x7, x8, x9, x10, x11, x12⟩ hk.1 hk.2 t6 t12
    simp only at hS hI
    have hrc : ∀ r ∈ hardL ⟨x1, x2, x3, x4, x5, x6⟩ ⟨x7, x8, x9, x10, x11, x12⟩ ++ snapL ⟨x1, x2, x3, x4, x5, x6⟩ ⟨x7, x8, x9, x10, x11, x12⟩ ++ restL (haveL ⟨x1, x2, x3, x4, x5, x6⟩ ⟨x7, x8, x9, x10, x11, x12⟩) ⟨x7, x8, x9, x10, x11, x12⟩, ∃ x, r = rcD x :=
      app_rc (app_rc (hardL_len _ _).2 (snapL_len _ _).2) (app_rc (cutL_len _ _ _).2 (entL_rc _ _ _ _))
    generalize hM : hardL ⟨x1, x2, x3, x4, x5, x6⟩ ⟨x7, x8, x9, x10, x11, x12⟩ ++ snapL ⟨x1, x2, x3, x4, x5, x6⟩ ⟨x7, x8, x9, x10, x11, x12⟩ ++ restL (haveL ⟨x1, x2, x3, x4, x5, x6⟩ ⟨x7, x8, x9, x10, x11, x12⟩) ⟨x7, x8, x9, x10, x11, x12⟩ = M at hS hI hrc
    have hres : ∃ r1 r2, chR ⟨x1, x2, x3, x4, x5, x6⟩ M = some ([.one (.l r1), .one (.b r2)], []) ∧ r1.length ≤ 1048576 ∧ ∀ r ∈ r1, typL shRec r := by
      unfold chR
      split
      · exact ⟨[], false, rfl, by simp, by simp⟩
      · rename_i h80
        split
        · rename_i K hf
          exact ⟨M, true, rfl, by simp at h80; omega, recs_typ hrc hf⟩
        · exact ⟨[], false, rfl, by simp, by simp⟩
    obtain ⟨r1, r2, hr, hr1, hr2⟩ := hres
    refine ⟨r1, r2, hS.trans hr, ?_, hr1, hr2, trivial⟩
    rw [hr] at hI
    simp only [t27, ta27, keptOk_impl x1 x2 x3 x4 x5 x6 w6 t6, keptOk_impl x7 x8 x9 x10 x11 x12 w12 t12, ew2, eb, hk.1, hk.2, hI, wC, Bool.not_true, Bool.or_self, Bool.true_or, Bool.false_eq_true, if_false, chk_true, resC, nthR, cellsDV, nthD, asL, asB]
  · refine ⟨[], false, ?_, ?_, by simp, by simp, trivial⟩
    · simp only [t26, ta26, keptOk_spec x1 x2 x3 x4 x5 x6 w6 t6, keptOk_spec x7 x8 x9 x10 x11 x12 w12 t12, ew, eb, Bool.true_or, chk_true]
      rw [if_pos]
      cases h1 : keptB x1 x2 x3 x4 x5 x6 <;> cases h2 : keptB x7 x8 x9 x10 x11 x12 <;> simp_all
    · simp only [t27, ta27, keptOk_impl x1 x2 x3 x4 x5 x6 w6 t6, keptOk_impl x7 x8 x9 x10 x11 x12 w12 t12, ew2, eb, Bool.true_or, chk_true]
      rw [if_pos]
      cases h1 : keptB x1 x2 x3 x4 x5 x6 <;> cases h2 : keptB x7 x8 x9 x10 x11 x12 <;> simp_all
end Go.Den.L5

/- The law FnExactChanges. Printed by lawgen.py. -/
namespace Go.Den.L5
open Go
theorem law5 (x1 : Int) (x2 : Int) (x3 : Int) (x4 : Int) (x5 : ByteArray) (wx5 : x5.size ≤ maxLen) (x6 : List (List D)) (wx6 : x6.length ≤ maxLen) (tx6 : ∀ r ∈ x6, typL shEntry r) (x7 : Int) (x8 : Int) (x9 : Int) (x10 : Int) (x11 : ByteArray) (wx11 : x11.size ≤ maxLen) (x12 : List (List D)) (wx12 : x12.length ≤ maxLen) (tx12 : ∀ r ∈ x12, typL shEntry r) : t5 x1 x2 x3 x4 x5 x6 x7 x8 x9 x10 x11 x12 = some ([.one (.b true)], []) := by
  obtain ⟨y1, e1, a1, z1⟩ := szKept_ok x1 x2 x3 x4 x5 x6 wx5 wx6 tx6 1048576 (by omega) (by omega)
  by_cases n1 : y1 < 0
  · simp only [t5, ta5, e1, n1, zr12, zo12, zr15, zo15, zr18, zo18, zr19, zo19, zr26, zo26, zr27, zo27, zr28, zo28, zr29, zo29, zr30, zo30, okR, isVs, isV, isD, isDs, isOs, resC, outC, nthR, nthO, cellsDV, nthD, asB, asI, asS, asL, Bool.and_true, Bool.true_and, Bool.true_or, BEq.rfl, chk_true, bne_self_eq_false, Bool.not_true, Bool.not_false, Bool.or_self, Bool.or_false, Bool.false_or, decide_true, decide_false, Bool.false_eq_true, if_false, if_true]
  have u1 := z1 (by omega)
  have sx5 : x5.size ≤ 1048576 := u1.2.2.2.2.1
  have sx6 := u1.2.2.2.2.2.1
  obtain ⟨y2, e2, a2, z2⟩ := szKept_ok x7 x8 x9 x10 x11 x12 wx11 wx12 tx12 (y1) (by omega) (by omega)
  by_cases n2 : y2 < 0
  · simp only [t5, ta5, e1, n1, e2, n2, zr12, zo12, zr15, zo15, zr18, zo18, zr19, zo19, zr26, zo26, zr27, zo27, zr28, zo28, zr29, zo29, zr30, zo30, okR, isVs, isV, isD, isDs, isOs, resC, outC, nthR, nthO, cellsDV, nthD, asB, asI, asS, asL, Bool.and_true, Bool.true_and, Bool.true_or, BEq.rfl, chk_true, bne_self_eq_false, Bool.not_true, Bool.not_false, Bool.or_self, Bool.or_false, Bool.false_or, decide_true, decide_false, Bool.false_eq_true, if_false, if_true]
  have u2 := z2 (by omega)
  have sx11 : x11.size ≤ 1048576 := u2.2.2.2.2.1
  have sx12 := u2.2.2.2.2.2.1
  have qx6 : x6.length ≤ 1048576 := sx6.1
  have qx12 : x12.length ≤ 1048576 := sx12.1
  obtain ⟨r1, r2, k1, k2, qr1, tr1, _⟩ := both_Changes x1 x2 x3 x4 x5 x6 x7 x8 x9 x10 x11 x12 sx5 sx6.1 tx6 sx6.2 sx11 sx12.1 tx12 sx12.2
  have mx6 : ∀ r ∈ x6, r.length = 2 := fun r hr => typL_len _ r (tx6 r hr)
  have mx12 : ∀ r ∈ x12, r.length = 2 := fun r hr => typL_len _ r (tx12 r hr)
  have mr1 : ∀ r ∈ r1, r.length = 5 := fun r hr => typL_len _ r (tr1 r hr)
  have f1 := markKept_eq x1 x2 x3 x4 x5 x6 mx6 qx6 (1) (by omega) (by omega)
  have f2 : decide (1 + 2 * (x6.length : Int) < 0) = false := decide_eq_false (by omega)
  have f3 := markKept_eq x7 x8 x9 x10 x11 x12 mx12 qx12 (1 + 2 * (x6.length : Int)) (by omega) (by omega)
  have f4 : decide (1 + 2 * (x6.length : Int) + 2 * (x12.length : Int) < 0) = false := decide_eq_false (by omega)
  have f5 := markRecS_eq r1 mr1 (by omega) (1) (by omega) (by omega)
  have f6 : decide (1 + 5 * (r1.length : Int) < 0) = false := decide_eq_false (by omega)
  have f7 := heldRecS_eq r1 (by omega) (1) (by omega) (by omega)
  have f8 : decide (1 + 5 * (r1.length : Int) < 0) = false := decide_eq_false (by omega)
  simp only [t5, ta5, e1, n1, e2, n2, toKept_eq x1 x2 x3 x4 x5 x6 sx6.1 tx6 sx6.2, toKept_eq x7 x8 x9 x10 x11 x12 sx12.1 tx12 sx12.2, k1, k2, eqRecS_self r1 qr1 tr1, eqKept_self x1 x2 x3 x4 x5 x6 qx6 tx6, eqKept_self x7 x8 x9 x10 x11 x12 qx12 tx12, f1, f2, f3, f4, f5, f6, f7, f8, zr12, zo12, zr15, zo15, zr18, zo18, zr19, zo19, zr26, zo26, zr27, zo27, zr28, zo28, zr29, zo29, zr30, zo30, okR, isVs, isV, isD, isDs, isOs, resC, outC, nthR, nthO, cellsDV, nthD, asB, asI, asS, asL, Bool.and_true, Bool.true_and, Bool.true_or, BEq.rfl, chk_true, bne_self_eq_false, Bool.not_true, Bool.not_false, Bool.or_self, Bool.or_false, Bool.false_or, decide_true, decide_false, Bool.false_eq_true, if_false, if_true]
end Go.Den.L5
