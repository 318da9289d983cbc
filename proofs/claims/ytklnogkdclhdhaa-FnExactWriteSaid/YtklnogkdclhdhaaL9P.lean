/- Plain laws about what the functions compute; no condition. -/
import Derived.Test.YtklnogkdclhdhaaL9Tw
import Derived.IntWalk
set_option linter.unusedVariables false
set_option linter.unusedSimpArgs false
/- How twins are taken apart. -/
namespace Go.Den.L9
open Go Go.IntWalk
theorem chk_true (x : Rs) : chk true x = x := rfl
theorem chk_ok {b : Bool} (h : b = true) (x : Rs) : chk b x = x := by rw [h]; rfl
attribute [simp] chk_true okR isVs isV isD isDs isOs resC outC nthR nthO cellsDV nthD asB asI asS asL
theorem ite_not {α : Type} (a b : Bool) (h : a = !b) (x y : α) : (if a = true then x else y) = (if b = true then y else x) := by
  subst h; cases b <;> rfl
theorem bool_some (a b : Bool) (h : a = b) : (some ([DV.one (.b a)], ([] : List (List D))) : Rs) = some ([.one (.b b)], []) := by rw [h]
theorem nil_toList : (⟨#[]⟩ : ByteArray).toList = [] := by rw [ByteArray.toList_eq]
theorem toList_nil (s : ByteArray) : s.toList = [] ↔ (s.size : Int) = 0 := by
  have e : s.size = s.data.toList.length := by rw [Array.length_toList]; rfl
  rw [ByteArray.toList_eq, e]
  cases s.data.toList <;> simp <;> omega
theorem toList_isEmpty (s : ByteArray) : s.toList.isEmpty = decide ((s.size : Int) = 0) := by
  rw [Bool.eq_iff_iff, List.isEmpty_iff, toList_nil]; simp
attribute [simp] nil_toList toList_nil toList_isEmpty
theorem KK_eq : KK = 18446744073709551616 := Classical.choose_spec (⟨2 ^ 64, rfl⟩ : ∃ n : Nat, n = 2 ^ 64)
theorem w64_in (n : Int) (h : -9223372036854775808 ≤ n ∧ n ≤ 9223372036854775807) : w64 n = n := i64_in n h
theorem getD_in {l : List (List D)} {i : Nat} (hi : i < l.length) : l.getD i [] = l[i] := by simp [List.getD, hi]
theorem getD_row {l : List (List D)} {es : List Sh} (h : ∀ r ∈ l, typL es r) {i : Nat} (hi : i < l.length) : typL es (l.getD i []) := by
  rw [getD_in hi]; exact h _ (List.getElem_mem hi)
theorem w64_succ (i : Nat) (h : i < 4611686018427387904) : w64 ((i : Int) + 1) = ((i + 1 : Nat) : Int) := by
  rw [w64_in _ (by omega)]; rfl
theorem within_eq (a b c : Int) : t76 a b c = some ([.one (.b (decide (b ≤ a) && decide (a ≤ c)))], []) := rfl
theorem in_eq (a b c : Int) : t83 a b c = some ([.one (.b (decide (b ≤ a) && decide (a ≤ c)))], []) := rfl
end Go.Den.L9

/- Sizes; copies of rows. -/
namespace Go.Den.L9
open Go
mutual
/-- What was found small enough. -/
def szdD : Sh → D → Prop
  | .b, _ => True
  | .i _, _ => True
  | .s, d => (asS d).size ≤ 1048576
  | .l es, d => (asL d).length ≤ 1048576 ∧ ∀ r ∈ asL d, szdL es r
def szdL : List Sh → List D → Prop
  | [], _ => True
  | e :: es, ds => szdD e (nthD ds 0) ∧ szdL es ds.tail
end
theorem mem_getD {l : List (List D)} {i : Nat} (h : i < l.length) : l.getD i [] ∈ l := by rw [getD_in h]; exact List.getElem_mem h
theorem all_getD {l : List (List D)} {P : List D → Prop} (h : ∀ j, j < l.length → P (l.getD j [])) : ∀ r ∈ l, P r := by
  intro r hr
  obtain ⟨j, hj, rfl⟩ := List.mem_iff_getElem.1 hr
  rw [← getD_in hj]; exact h j hj
theorem nat_in {i n : Nat} (h : i < n) : decide ((i : Int) < (n : Int)) = true := by simp; omega
theorem nat_pos (i : Nat) : decide ((0 : Int) ≤ (i : Int)) = true := by simp
theorem modify_mid {α : Type} (f : α → α) : ∀ (a : List α) (x : α) (b : List α), (a ++ x :: b).modify a.length f = a ++ f x :: b
  | [], x, b => by simp
  | y :: a, x, b => by simp [modify_mid f a x b]
theorem stR_at (l : List (List D)) (i k : Nat) (z ys : List D) (hz : z.length ≤ ys.length) (e : i + (k + 1) = l.length) (hy : l.getD i [] = ys) : stR (l.take i ++ List.replicate (k + 1) z) i 0 ys = l.take (i + 1) ++ List.replicate k z := by
  have hi : i < l.length := by omega
  rw [getD_in hi] at hy
  have hl : (l.take i).length = i := by simp; omega
  have key := modify_mid (fun r => r.take 0 ++ ys ++ r.drop (0 + ys.length)) (l.take i) z (List.replicate k z)
  rw [hl] at key
  unfold stR
  rw [List.replicate_succ, key, List.take_succ_eq_append_getElem hi, hy]
  simp [List.drop_eq_nil_of_le hz]
end Go.Den.L9

/- Types Snap Entry EntryS Kept Rec RecS Store Dirent DirentS Inode InodeS Vol IntS Cred Call Result Note NoteS Session SessionS Tenant TenantS Slot SlotS Msg MsgS Core: sizes, copies, likeness (printed by fam.py). -/
namespace Go.Den.L9
open Go
abbrev shSnap : List Sh := [.i .i64, .i .i64, .s]
theorem Snap_row {r : List D} (h : typL shSnap r) : ∃ x1 x2 x3, r = [.i .i64 x1, .i .i64 x2, .s x3] ∧ x3.size ≤ maxLen := by
  obtain ⟨_, _, rfl, ⟨x1, rfl, _⟩, ⟨_, _, rfl, ⟨x2, rfl, _⟩, ⟨_, _, rfl, ⟨x3, rfl, wx3⟩, rfl⟩⟩⟩ := h
  exact ⟨x1, x2, x3, rfl, wx3⟩
theorem szSnap_ok (x1 : Int) (x2 : Int) (x3 : ByteArray) (wx3 : x3.size ≤ maxLen) (n : Int) (h0 : 0 ≤ n) (h1 : n ≤ 1048576) : ∃ y, t49 x1 x2 x3 n = some ([.one (.i .i64 y)], []) ∧ y ≤ n ∧ (0 ≤ y → szdL shSnap [.i .i64 x1, .i .i64 x2, .s x3]) := by
  simp only [t49]
  have e1 : w64 (n - (x3.size : Int)) = n - (x3.size : Int) := w64_in _ (by simp only [maxLen] at wx3; omega)
  simp only [e1]
  by_cases g1 : (n - (x3.size : Int)) < 0
  · exact ⟨-1, by simp only [g1, decide_true, if_true, chk_true], by omega, by omega⟩
  simp only [g1, decide_false, Bool.false_eq_true, if_false, chk_true]
  exact ⟨_, rfl, by omega, fun _ => ⟨trivial, trivial, (by omega : x3.size ≤ 1048576), trivial⟩⟩
theorem toSnap_eq (x1 : Int) (x2 : Int) (x3 : ByteArray)  : t54 x1 x2 x3 = some ([.agg [.i .i64 x1, .i .i64 x2, .s x3]], []) := rfl
theorem eqSnap_self (x1 : Int) (x2 : Int) (x3 : ByteArray)  : t59 x1 x2 x3 x1 x2 x3 = some ([.one (.b true)], []) := by
  simp only [t59, bne_self_eq_false, Bool.not_true, Bool.false_eq_true, if_false, okR, isVs, isV, isD, isDs, isOs, resC, outC, nthR, nthO, cellsDV, nthD, asB, asI, asS, asL, Bool.and_true, Bool.true_and, BEq.rfl, chk_true, decide_true]
abbrev shEntry : List Sh := [.i .i64, .s]
theorem Entry_row {r : List D} (h : typL shEntry r) : ∃ x1 x2, r = [.i .i64 x1, .s x2] ∧ x2.size ≤ maxLen := by
  obtain ⟨_, _, rfl, ⟨x1, rfl, _⟩, ⟨_, _, rfl, ⟨x2, rfl, wx2⟩, rfl⟩⟩ := h
  exact ⟨x1, x2, rfl, wx2⟩
theorem szEntry_ok (x1 : Int) (x2 : ByteArray) (wx2 : x2.size ≤ maxLen) (n : Int) (h0 : 0 ≤ n) (h1 : n ≤ 1048576) : ∃ y, t82 x1 x2 n = some ([.one (.i .i64 y)], []) ∧ y ≤ n ∧ (0 ≤ y → szdL shEntry [.i .i64 x1, .s x2]) := by
  simp only [t82]
  have e1 : w64 (n - (x2.size : Int)) = n - (x2.size : Int) := w64_in _ (by simp only [maxLen] at wx2; omega)
  simp only [e1]
  by_cases g1 : (n - (x2.size : Int)) < 0
  · exact ⟨-1, by simp only [g1, decide_true, if_true, chk_true], by omega, by omega⟩
  simp only [g1, decide_false, Bool.false_eq_true, if_false, chk_true]
  exact ⟨_, rfl, by omega, fun _ => ⟨trivial, (by omega : x2.size ≤ 1048576), trivial⟩⟩
theorem toEntry_eq (x1 : Int) (x2 : ByteArray)  : t87 x1 x2 = some ([.agg [.i .i64 x1, .s x2]], []) := rfl
theorem eqEntry_self (x1 : Int) (x2 : ByteArray)  : t89 x1 x2 x1 x2 = some ([.one (.b true)], []) := by
  simp only [t89, bne_self_eq_false, Bool.not_true, Bool.false_eq_true, if_false, okR, isVs, isV, isD, isDs, isOs, resC, outC, nthR, nthO, cellsDV, nthD, asB, asI, asS, asL, Bool.and_true, Bool.true_and, BEq.rfl, chk_true, decide_true]
theorem szEntryS_loop (n0 : Int) (b0 : Bool) (q1 : Int → Int → Bool → Bool → Rs) (q2 : Int → Int → Bool → SV → Rs) (h1 : ∀ a b c d, q1 a b c d = some ([.one (.i .i64 (-1))], [])) (h2 : ∀ a b c d, q2 a b c d = some ([.one (.i .i64 a)], []))
    (l : List (List D)) (h : ∀ r ∈ l, typL shEntry r) (hl : l.length < 4611686018427387904) : ∀ (k i m : Nat) (n : Int) (v w : SV), i + k = l.length → k < m → 0 ≤ n → n ≤ 1048576 → ∃ y, l50o1 l n0 b0 q1 q2 m n i v w = some ([.one (.i .i64 y)], []) ∧ y ≤ n ∧ (0 ≤ y → ∀ j, i ≤ j → j < l.length → szdL shEntry (l.getD j [])) := by
  intro k
  induction k with
  | zero =>
    intro i m n v w e hm g0 g1
    obtain ⟨m, rfl⟩ : ∃ m', m = m' + 1 := ⟨m - 1, by omega⟩
    have ei : decide ((i : Int) < (l.length : Int)) = false := by simp; omega
    refine ⟨n, ?_, by omega, by omega⟩
    simp only [l50o1, ei, h2, Bool.false_eq_true, if_false]
  | succ k ih =>
    intro i m n v w e hm g0 g1
    obtain ⟨m, rfl⟩ : ∃ m', m = m' + 1 := ⟨m - 1, by omega⟩
    have hr := getD_row h (i := i) (by omega)
    obtain ⟨c1, c2, er, wc2⟩ := Entry_row hr
    obtain ⟨z, hz, hzn, hzo⟩ := szEntry_ok c1 c2 wc2 n g0 g1
    have e1 : decide ((i : Int) < (l.length : Int)) = true := by simp; omega
    have e2 : decide ((0 : Int) ≤ (i : Int)) = true := by simp
    have ez : isRow z105 [.i .i64 c1, .s c2] = true := rfl
    have ew : okR zr82 zo82 (some ([.one (.i .i64 z)], [])) = true := rfl
    simp only [l50o1, e1, e2, Int.toNat_natCast, er, ez, nthD, asI, asS, asB, asL, hz, resC, nthR, cellsDV, ew, Bool.and_true, chk_true, if_true]
    by_cases g : z < 0
    · exact ⟨-1, by simp only [g, decide_true, if_true, h1], by omega, by omega⟩
    · simp only [g, decide_false, Bool.false_eq_true, if_false]
      rw [w64_succ i (by omega)]
      obtain ⟨y, ey, hy1, hy2⟩ := ih (i + 1) m z (.d (.b true)) (.d (.b false)) (by omega) (by omega) (by omega) (by omega)
      refine ⟨y, ey, by omega, fun hy j hj1 hj2 => ?_⟩
      by_cases hj : j = i
      · subst hj; rw [er]; exact hzo (by omega)
      · exact hy2 hy j (by omega) hj2
theorem szEntryS_ok (l : List (List D)) (hl : l.length ≤ maxLen) (h : ∀ r ∈ l, typL shEntry r) (n : Int) (h0 : 0 ≤ n) (h1 : n ≤ 1048576) : ∃ y, t50 l n = some ([.one (.i .i64 y)], []) ∧ y ≤ n ∧ (0 ≤ y → l.length ≤ 1048576 ∧ ∀ r ∈ l, szdL shEntry r) := by
  have e : w64 (n - (l.length : Int)) = n - (l.length : Int) := w64_in _ (by simp only [maxLen] at hl; omega)
  simp only [t50, e]
  by_cases g : n - (l.length : Int) < 0
  · exact ⟨-1, by simp only [g, decide_true, if_true], by omega, by omega⟩
  · simp only [g, decide_false, Bool.false_eq_true, if_false]
    obtain ⟨y, ey, hy1, hy2⟩ := szEntryS_loop 0 false (fun _ _ _ _ => some ([.one (.i .i64 (-1))], [])) (fun a _ _ _ => some ([.one (.i .i64 a)], [])) (fun _ _ _ _ => rfl) (fun _ _ _ _ => rfl) l h (by omega) l.length 0 KK (n - (l.length : Int)) .undef .undef (by omega) (by rw [KK_eq]; omega) (by omega) (by omega)
    refine ⟨y, ey, by omega, fun hy => ⟨by omega, all_getD (fun j hj => hy2 hy j (by omega) hj)⟩⟩
theorem toEntryS_loop (q : Int → Bool → List (List D) → Rs) (l : List (List D)) (h : ∀ r ∈ l, typL shEntry r) (hs : ∀ r ∈ l, szdL shEntry r) (hl : l.length < 4611686018427387904) : ∀ (k i m : Nat) (v : SV), i + k = l.length → k < m →
    l55o0 l q m i v (l.take i ++ List.replicate k z90) = q l.length false l := by
  intro k
  induction k with
  | zero =>
    intro i m v e hm
    obtain ⟨m, rfl⟩ : ∃ m', m = m' + 1 := ⟨m - 1, by omega⟩
    have ei : decide ((i : Int) < (l.length : Int)) = false := by simp; omega
    have e0 : i = l.length := by omega
    simp only [l55o0, ei, e0]
    simp
  | succ k ih =>
    intro i m v e hm
    obtain ⟨m, rfl⟩ : ∃ m', m = m' + 1 := ⟨m - 1, by omega⟩
    have hr := getD_row h (i := i) (by omega)
    obtain ⟨c1, c2, er, wc2⟩ := Entry_row hr
    have e1 : decide ((i : Int) < (l.length : Int)) = true := by simp; omega
    have e2 : decide ((0 : Int) ≤ (i : Int)) = true := by simp
    have e3 : decide ((i : Int) < ((l.take i ++ List.replicate (k + 1) z90).length : Int)) = true := by simp; omega
    have e4 : decide (2 ≤ 2 ∧ i < (l.take i ++ List.replicate (k + 1) z90).length) = true := by simp; omega
    have ez : isRow z105 [.i .i64 c1, .s c2] = true := rfl
    have ew : okR zr87 zo87 (some ([.agg [.i .i64 c1, .s c2]], [])) = true := rfl
    simp only [l55o0, e1, e2, Int.toNat_natCast, er, ez, nthD, asI, asS, asB, asL, toEntry_eq c1 c2, resC, nthR, cellsDV, ew, e3, e4, Bool.and_true, chk_true, if_true]
    rw [stR_at l i k _ _ (by simp [z90]) e er, w64_succ i (by omega)]
    exact ih (i + 1) m _ (by omega) (by omega)
theorem toEntryS_eq (l : List (List D)) (hl : l.length ≤ 1048576) (h : ∀ r ∈ l, typL shEntry r) (hs : ∀ r ∈ l, szdL shEntry r) : t55 l = some ([.one (.l l)], []) := by
  unfold t55
  have e1 : l.length ≤ lim := by unfold lim; omega
  have := toEntryS_loop (fun _ _ l => some ([.one (.l l)], [])) l h hs (by omega) l.length 0 KK .undef (by omega) (by rw [KK_eq]; omega)
  simpa [e1] using this
theorem eqEntryS_loop (b0 b1 : Bool) (q1 : Int → Bool → Bool → Rs) (q2 : Int → Bool → SV → Rs) (h2 : ∀ a b c, q2 a b c = some ([.one (.b true)], [])) (l : List (List D)) (h : ∀ r ∈ l, typL shEntry r) (hl : l.length < 4611686018427387904) : ∀ (k i m : Nat) (v w : SV), i + k = l.length → k < m →
    l60o1 l l b0 b1 q1 q2 m i v w = some ([.one (.b true)], []) := by
  intro k
  induction k with
  | zero =>
    intro i m v w e hm
    obtain ⟨m, rfl⟩ : ∃ m', m = m' + 1 := ⟨m - 1, by omega⟩
    have ei : decide ((i : Int) < (l.length : Int)) = false := by simp; omega
    simp only [l60o1, ei, h2]
    simp
  | succ k ih =>
    intro i m v w e hm
    obtain ⟨m, rfl⟩ : ∃ m', m = m' + 1 := ⟨m - 1, by omega⟩
    have hr := getD_row h (i := i) (by omega)
    obtain ⟨c1, c2, er, wc2⟩ := Entry_row hr
    have e1 : decide ((i : Int) < (l.length : Int)) = true := by simp; omega
    have e2 : decide ((0 : Int) ≤ (i : Int)) = true := by simp
    have ez : isRow z90 [.i .i64 c1, .s c2] = true := rfl
    have ew : okR zr89 zo89 (some ([.one (.b true)], [])) = true := rfl
    simp only [l60o1, e1, e2, Int.toNat_natCast, er, ez, nthD, asI, asS, asB, asL, eqEntry_self c1 c2, resC, nthR, cellsDV, ew, Bool.and_true, chk_true, if_true, Bool.not_true, Bool.false_eq_true, if_false]
    rw [w64_succ i (by omega)]
    exact ih (i + 1) m _ _ (by omega) (by omega)
theorem eqEntryS_self (l : List (List D)) (hl : l.length ≤ 1048576) (h : ∀ r ∈ l, typL shEntry r) : t60 l l = some ([.one (.b true)], []) := by
  have := eqEntryS_loop false false (fun _ _ _ => some ([.one (.b false)], [])) (fun _ _ _ => some ([.one (.b true)], [])) (fun _ _ _ => rfl) l h (by omega) l.length 0 KK .undef .undef (by omega) (by rw [KK_eq]; omega)
  simpa [t60] using this
abbrev shKept : List Sh := [.i .i64, .i .i64, .i .i64, .i .i64, .s, .l [.i .i64, .s]]
theorem Kept_row {r : List D} (h : typL shKept r) : ∃ x1 x2 x3 x4 x5 x6, r = [.i .i64 x1, .i .i64 x2, .i .i64 x3, .i .i64 x4, .s x5, .l x6] ∧ x5.size ≤ maxLen ∧ x6.length ≤ maxLen ∧ (∀ r ∈ x6, typL shEntry r) := by
  obtain ⟨_, _, rfl, ⟨x1, rfl, _⟩, ⟨_, _, rfl, ⟨x2, rfl, _⟩, ⟨_, _, rfl, ⟨x3, rfl, _⟩, ⟨_, _, rfl, ⟨x4, rfl, _⟩, ⟨_, _, rfl, ⟨x5, rfl, wx5⟩, ⟨_, _, rfl, ⟨x6, rfl, wx6, tx6⟩, rfl⟩⟩⟩⟩⟩⟩ := h
  exact ⟨x1, x2, x3, x4, x5, x6, rfl, wx5, wx6, tx6⟩
theorem szKept_ok (x1 : Int) (x2 : Int) (x3 : Int) (x4 : Int) (x5 : ByteArray) (x6 : List (List D)) (wx5 : x5.size ≤ maxLen) (wx6 : x6.length ≤ maxLen) (tx6 : ∀ r ∈ x6, typL shEntry r) (n : Int) (h0 : 0 ≤ n) (h1 : n ≤ 1048576) : ∃ y, t12 x1 x2 x3 x4 x5 x6 n = some ([.one (.i .i64 y)], []) ∧ y ≤ n ∧ (0 ≤ y → szdL shKept [.i .i64 x1, .i .i64 x2, .i .i64 x3, .i .i64 x4, .s x5, .l x6]) := by
  simp only [t12]
  obtain ⟨y1, e1, h1a, o1⟩ := szSnap_ok x3 x4 x5 wx5 n (by omega) (by omega)
  simp only [e1, zr49, zo49, okR, isVs, isV, isD, isDs, isOs, resC, outC, nthR, nthO, cellsDV, nthD, asB, asI, asS, asL, Bool.and_true, Bool.true_and, BEq.rfl, chk_true, decide_true]
  by_cases g1 : y1 < 0
  · exact ⟨-1, by simp only [g1, decide_true, if_true, chk_true], by omega, by omega⟩
  simp only [g1, decide_false, Bool.false_eq_true, if_false, chk_true]
  obtain ⟨y2, e2, h2a, o2⟩ := szEntryS_ok x6 wx6 tx6 y1 (by omega) (by omega)
  simp only [e2, zr50, zo50, okR, isVs, isV, isD, isDs, isOs, resC, outC, nthR, nthO, cellsDV, nthD, asB, asI, asS, asL, Bool.and_true, Bool.true_and, BEq.rfl, chk_true, decide_true]
  by_cases g2 : y2 < 0
  · exact ⟨-1, by simp only [g2, decide_true, if_true, chk_true], by omega, by omega⟩
  simp only [g2, decide_false, Bool.false_eq_true, if_false, chk_true]
  exact ⟨_, rfl, by omega, fun _ => ⟨trivial, trivial, (o1 (by omega)).1, (o1 (by omega)).2.1, (o1 (by omega)).2.2.1, (o2 (by omega)), trivial⟩⟩
theorem toKept_eq (x1 : Int) (x2 : Int) (x3 : Int) (x4 : Int) (x5 : ByteArray) (x6 : List (List D)) (wx6 : x6.length ≤ 1048576) (tx6 : ∀ r ∈ x6, typL shEntry r) (sx6 : ∀ r ∈ x6, szdL shEntry r) : t15 x1 x2 x3 x4 x5 x6 = some ([.agg [.i .i64 x1, .i .i64 x2, .i .i64 x3, .i .i64 x4, .s x5, .l x6]], []) := by
  simp only [t15, toSnap_eq x3 x4 x5 , toEntryS_eq x6 wx6 tx6 sx6, zr54, zo54, zr55, zo55, okR, isVs, isV, isD, isDs, isOs, resC, outC, nthR, nthO, cellsDV, nthD, asB, asI, asS, asL, Bool.and_true, Bool.true_and, BEq.rfl, chk_true, decide_true]
theorem eqKept_self (x1 : Int) (x2 : Int) (x3 : Int) (x4 : Int) (x5 : ByteArray) (x6 : List (List D)) (wx6 : x6.length ≤ 1048576) (tx6 : ∀ r ∈ x6, typL shEntry r) : t18 x1 x2 x3 x4 x5 x6 x1 x2 x3 x4 x5 x6 = some ([.one (.b true)], []) := by
  simp only [t18, bne_self_eq_false, Bool.not_true, Bool.false_eq_true, if_false, eqSnap_self x3 x4 x5 , eqEntryS_self x6 wx6 tx6, zr59, zo59, zr60, zo60, okR, isVs, isV, isD, isDs, isOs, resC, outC, nthR, nthO, cellsDV, nthD, asB, asI, asS, asL, Bool.and_true, Bool.true_and, BEq.rfl, chk_true, decide_true]
abbrev shRec : List Sh := [.i .i64, .i .i64, .i .i64, .i .i64, .s]
theorem Rec_row {r : List D} (h : typL shRec r) : ∃ x1 x2 x3 x4 x5, r = [.i .i64 x1, .i .i64 x2, .i .i64 x3, .i .i64 x4, .s x5] ∧ x5.size ≤ maxLen := by
  obtain ⟨_, _, rfl, ⟨x1, rfl, _⟩, ⟨_, _, rfl, ⟨x2, rfl, _⟩, ⟨_, _, rfl, ⟨x3, rfl, _⟩, ⟨_, _, rfl, ⟨x4, rfl, _⟩, ⟨_, _, rfl, ⟨x5, rfl, wx5⟩, rfl⟩⟩⟩⟩⟩ := h
  exact ⟨x1, x2, x3, x4, x5, rfl, wx5⟩
theorem szRec_ok (x1 : Int) (x2 : Int) (x3 : Int) (x4 : Int) (x5 : ByteArray) (wx5 : x5.size ≤ maxLen) (n : Int) (h0 : 0 ≤ n) (h1 : n ≤ 1048576) : ∃ y, t13 x1 x2 x3 x4 x5 n = some ([.one (.i .i64 y)], []) ∧ y ≤ n ∧ (0 ≤ y → szdL shRec [.i .i64 x1, .i .i64 x2, .i .i64 x3, .i .i64 x4, .s x5]) := by
  simp only [t13]
  have e1 : w64 (n - (x5.size : Int)) = n - (x5.size : Int) := w64_in _ (by simp only [maxLen] at wx5; omega)
  simp only [e1]
  by_cases g1 : (n - (x5.size : Int)) < 0
  · exact ⟨-1, by simp only [g1, decide_true, if_true, chk_true], by omega, by omega⟩
  simp only [g1, decide_false, Bool.false_eq_true, if_false, chk_true]
  exact ⟨_, rfl, by omega, fun _ => ⟨trivial, trivial, trivial, trivial, (by omega : x5.size ≤ 1048576), trivial⟩⟩
theorem toRec_eq (x1 : Int) (x2 : Int) (x3 : Int) (x4 : Int) (x5 : ByteArray)  : t16 x1 x2 x3 x4 x5 = some ([.agg [.i .i64 x1, .i .i64 x2, .i .i64 x3, .i .i64 x4, .s x5]], []) := rfl
theorem eqRec_self (x1 : Int) (x2 : Int) (x3 : Int) (x4 : Int) (x5 : ByteArray)  : t67 x1 x2 x3 x4 x5 x1 x2 x3 x4 x5 = some ([.one (.b true)], []) := by
  simp only [t67, bne_self_eq_false, Bool.not_true, Bool.false_eq_true, if_false, okR, isVs, isV, isD, isDs, isOs, resC, outC, nthR, nthO, cellsDV, nthD, asB, asI, asS, asL, Bool.and_true, Bool.true_and, BEq.rfl, chk_true, decide_true]
theorem szRecS_loop (n0 : Int) (b0 : Bool) (q1 : Int → Int → Bool → Bool → Rs) (q2 : Int → Int → Bool → SV → Rs) (h1 : ∀ a b c d, q1 a b c d = some ([.one (.i .i64 (-1))], [])) (h2 : ∀ a b c d, q2 a b c d = some ([.one (.i .i64 a)], []))
    (l : List (List D)) (h : ∀ r ∈ l, typL shRec r) (hl : l.length < 4611686018427387904) : ∀ (k i m : Nat) (n : Int) (v w : SV), i + k = l.length → k < m → 0 ≤ n → n ≤ 1048576 → ∃ y, l39o1 l n0 b0 q1 q2 m n i v w = some ([.one (.i .i64 y)], []) ∧ y ≤ n ∧ (0 ≤ y → ∀ j, i ≤ j → j < l.length → szdL shRec (l.getD j [])) := by
  intro k
  induction k with
  | zero =>
    intro i m n v w e hm g0 g1
    obtain ⟨m, rfl⟩ : ∃ m', m = m' + 1 := ⟨m - 1, by omega⟩
    have ei : decide ((i : Int) < (l.length : Int)) = false := by simp; omega
    refine ⟨n, ?_, by omega, by omega⟩
    simp only [l39o1, ei, h2, Bool.false_eq_true, if_false]
  | succ k ih =>
    intro i m n v w e hm g0 g1
    obtain ⟨m, rfl⟩ : ∃ m', m = m' + 1 := ⟨m - 1, by omega⟩
    have hr := getD_row h (i := i) (by omega)
    obtain ⟨c1, c2, c3, c4, c5, er, wc5⟩ := Rec_row hr
    obtain ⟨z, hz, hzn, hzo⟩ := szRec_ok c1 c2 c3 c4 c5 wc5 n g0 g1
    have e1 : decide ((i : Int) < (l.length : Int)) = true := by simp; omega
    have e2 : decide ((0 : Int) ≤ (i : Int)) = true := by simp
    have ez : isRow z28 [.i .i64 c1, .i .i64 c2, .i .i64 c3, .i .i64 c4, .s c5] = true := rfl
    have ew : okR zr13 zo13 (some ([.one (.i .i64 z)], [])) = true := rfl
    simp only [l39o1, e1, e2, Int.toNat_natCast, er, ez, nthD, asI, asS, asB, asL, hz, resC, nthR, cellsDV, ew, Bool.and_true, chk_true, if_true]
    by_cases g : z < 0
    · exact ⟨-1, by simp only [g, decide_true, if_true, h1], by omega, by omega⟩
    · simp only [g, decide_false, Bool.false_eq_true, if_false]
      rw [w64_succ i (by omega)]
      obtain ⟨y, ey, hy1, hy2⟩ := ih (i + 1) m z (.d (.b true)) (.d (.b false)) (by omega) (by omega) (by omega) (by omega)
      refine ⟨y, ey, by omega, fun hy j hj1 hj2 => ?_⟩
      by_cases hj : j = i
      · subst hj; rw [er]; exact hzo (by omega)
      · exact hy2 hy j (by omega) hj2
theorem szRecS_ok (l : List (List D)) (hl : l.length ≤ maxLen) (h : ∀ r ∈ l, typL shRec r) (n : Int) (h0 : 0 ≤ n) (h1 : n ≤ 1048576) : ∃ y, t39 l n = some ([.one (.i .i64 y)], []) ∧ y ≤ n ∧ (0 ≤ y → l.length ≤ 1048576 ∧ ∀ r ∈ l, szdL shRec r) := by
  have e : w64 (n - (l.length : Int)) = n - (l.length : Int) := w64_in _ (by simp only [maxLen] at hl; omega)
  simp only [t39, e]
  by_cases g : n - (l.length : Int) < 0
  · exact ⟨-1, by simp only [g, decide_true, if_true], by omega, by omega⟩
  · simp only [g, decide_false, Bool.false_eq_true, if_false]
    obtain ⟨y, ey, hy1, hy2⟩ := szRecS_loop 0 false (fun _ _ _ _ => some ([.one (.i .i64 (-1))], [])) (fun a _ _ _ => some ([.one (.i .i64 a)], [])) (fun _ _ _ _ => rfl) (fun _ _ _ _ => rfl) l h (by omega) l.length 0 KK (n - (l.length : Int)) .undef .undef (by omega) (by rw [KK_eq]; omega) (by omega) (by omega)
    refine ⟨y, ey, by omega, fun hy => ⟨by omega, all_getD (fun j hj => hy2 hy j (by omega) hj)⟩⟩
theorem toRecS_loop (q : Int → Bool → List (List D) → Rs) (l : List (List D)) (h : ∀ r ∈ l, typL shRec r) (hs : ∀ r ∈ l, szdL shRec r) (hl : l.length < 4611686018427387904) : ∀ (k i m : Nat) (v : SV), i + k = l.length → k < m →
    l41o0 l q m i v (l.take i ++ List.replicate k z38) = q l.length false l := by
  intro k
  induction k with
  | zero =>
    intro i m v e hm
    obtain ⟨m, rfl⟩ : ∃ m', m = m' + 1 := ⟨m - 1, by omega⟩
    have ei : decide ((i : Int) < (l.length : Int)) = false := by simp; omega
    have e0 : i = l.length := by omega
    simp only [l41o0, ei, e0]
    simp
  | succ k ih =>
    intro i m v e hm
    obtain ⟨m, rfl⟩ : ∃ m', m = m' + 1 := ⟨m - 1, by omega⟩
    have hr := getD_row h (i := i) (by omega)
    obtain ⟨c1, c2, c3, c4, c5, er, wc5⟩ := Rec_row hr
    have e1 : decide ((i : Int) < (l.length : Int)) = true := by simp; omega
    have e2 : decide ((0 : Int) ≤ (i : Int)) = true := by simp
    have e3 : decide ((i : Int) < ((l.take i ++ List.replicate (k + 1) z38).length : Int)) = true := by simp; omega
    have e4 : decide (5 ≤ 5 ∧ i < (l.take i ++ List.replicate (k + 1) z38).length) = true := by simp; omega
    have ez : isRow z28 [.i .i64 c1, .i .i64 c2, .i .i64 c3, .i .i64 c4, .s c5] = true := rfl
    have ew : okR zr16 zo16 (some ([.agg [.i .i64 c1, .i .i64 c2, .i .i64 c3, .i .i64 c4, .s c5]], [])) = true := rfl
    simp only [l41o0, e1, e2, Int.toNat_natCast, er, ez, nthD, asI, asS, asB, asL, toRec_eq c1 c2 c3 c4 c5, resC, nthR, cellsDV, ew, e3, e4, Bool.and_true, chk_true, if_true]
    rw [stR_at l i k _ _ (by simp [z38]) e er, w64_succ i (by omega)]
    exact ih (i + 1) m _ (by omega) (by omega)
theorem toRecS_eq (l : List (List D)) (hl : l.length ≤ 1048576) (h : ∀ r ∈ l, typL shRec r) (hs : ∀ r ∈ l, szdL shRec r) : t41 l = some ([.one (.l l)], []) := by
  unfold t41
  have e1 : l.length ≤ lim := by unfold lim; omega
  have := toRecS_loop (fun _ _ l => some ([.one (.l l)], [])) l h hs (by omega) l.length 0 KK .undef (by omega) (by rw [KK_eq]; omega)
  simpa [e1] using this
theorem eqRecS_loop (b0 b1 : Bool) (q1 : Int → Bool → Bool → Rs) (q2 : Int → Bool → SV → Rs) (h2 : ∀ a b c, q2 a b c = some ([.one (.b true)], [])) (l : List (List D)) (h : ∀ r ∈ l, typL shRec r) (hl : l.length < 4611686018427387904) : ∀ (k i m : Nat) (v w : SV), i + k = l.length → k < m →
    l28o1 l l b0 b1 q1 q2 m i v w = some ([.one (.b true)], []) := by
  intro k
  induction k with
  | zero =>
    intro i m v w e hm
    obtain ⟨m, rfl⟩ : ∃ m', m = m' + 1 := ⟨m - 1, by omega⟩
    have ei : decide ((i : Int) < (l.length : Int)) = false := by simp; omega
    simp only [l28o1, ei, h2]
    simp
  | succ k ih =>
    intro i m v w e hm
    obtain ⟨m, rfl⟩ : ∃ m', m = m' + 1 := ⟨m - 1, by omega⟩
    have hr := getD_row h (i := i) (by omega)
    obtain ⟨c1, c2, c3, c4, c5, er, wc5⟩ := Rec_row hr
    have e1 : decide ((i : Int) < (l.length : Int)) = true := by simp; omega
    have e2 : decide ((0 : Int) ≤ (i : Int)) = true := by simp
    have ez : isRow z38 [.i .i64 c1, .i .i64 c2, .i .i64 c3, .i .i64 c4, .s c5] = true := rfl
    have ew : okR zr67 zo67 (some ([.one (.b true)], [])) = true := rfl
    simp only [l28o1, e1, e2, Int.toNat_natCast, er, ez, nthD, asI, asS, asB, asL, eqRec_self c1 c2 c3 c4 c5, resC, nthR, cellsDV, ew, Bool.and_true, chk_true, if_true, Bool.not_true, Bool.false_eq_true, if_false]
    rw [w64_succ i (by omega)]
    exact ih (i + 1) m _ _ (by omega) (by omega)
theorem eqRecS_self (l : List (List D)) (hl : l.length ≤ 1048576) (h : ∀ r ∈ l, typL shRec r) : t28 l l = some ([.one (.b true)], []) := by
  have := eqRecS_loop false false (fun _ _ _ => some ([.one (.b false)], [])) (fun _ _ _ => some ([.one (.b true)], [])) (fun _ _ _ => rfl) l h (by omega) l.length 0 KK .undef .undef (by omega) (by rw [KK_eq]; omega)
  simpa [t28] using this
abbrev shStore : List Sh := [.i .i64, .i .i64, .i .i64, .i .i64, .s, .l [.i .i64, .s], .l [.i .i64, .i .i64, .i .i64, .i .i64, .s]]
theorem Store_row {r : List D} (h : typL shStore r) : ∃ x1 x2 x3 x4 x5 x6 x7, r = [.i .i64 x1, .i .i64 x2, .i .i64 x3, .i .i64 x4, .s x5, .l x6, .l x7] ∧ x5.size ≤ maxLen ∧ x6.length ≤ maxLen ∧ (∀ r ∈ x6, typL shEntry r) ∧ x7.length ≤ maxLen ∧ (∀ r ∈ x7, typL shRec r) := by
  obtain ⟨_, _, rfl, ⟨x1, rfl, _⟩, ⟨_, _, rfl, ⟨x2, rfl, _⟩, ⟨_, _, rfl, ⟨x3, rfl, _⟩, ⟨_, _, rfl, ⟨x4, rfl, _⟩, ⟨_, _, rfl, ⟨x5, rfl, wx5⟩, ⟨_, _, rfl, ⟨x6, rfl, wx6, tx6⟩, ⟨_, _, rfl, ⟨x7, rfl, wx7, tx7⟩, rfl⟩⟩⟩⟩⟩⟩⟩ := h
  exact ⟨x1, x2, x3, x4, x5, x6, x7, rfl, wx5, wx6, tx6, wx7, tx7⟩
theorem szStore_ok (x1 : Int) (x2 : Int) (x3 : Int) (x4 : Int) (x5 : ByteArray) (x6 : List (List D)) (x7 : List (List D)) (wx5 : x5.size ≤ maxLen) (wx6 : x6.length ≤ maxLen) (tx6 : ∀ r ∈ x6, typL shEntry r) (wx7 : x7.length ≤ maxLen) (tx7 : ∀ r ∈ x7, typL shRec r) (n : Int) (h0 : 0 ≤ n) (h1 : n ≤ 1048576) : ∃ y, t21 x1 x2 x3 x4 x5 x6 x7 n = some ([.one (.i .i64 y)], []) ∧ y ≤ n ∧ (0 ≤ y → szdL shStore [.i .i64 x1, .i .i64 x2, .i .i64 x3, .i .i64 x4, .s x5, .l x6, .l x7]) := by
  simp only [t21]
  obtain ⟨y1, e1, h1a, o1⟩ := szKept_ok x1 x2 x3 x4 x5 x6 wx5 wx6 tx6 n (by omega) (by omega)
  simp only [e1, zr12, zo12, okR, isVs, isV, isD, isDs, isOs, resC, outC, nthR, nthO, cellsDV, nthD, asB, asI, asS, asL, Bool.and_true, Bool.true_and, BEq.rfl, chk_true, decide_true]
  by_cases g1 : y1 < 0
  · exact ⟨-1, by simp only [g1, decide_true, if_true, chk_true], by omega, by omega⟩
  simp only [g1, decide_false, Bool.false_eq_true, if_false, chk_true]
  obtain ⟨y2, e2, h2a, o2⟩ := szRecS_ok x7 wx7 tx7 y1 (by omega) (by omega)
  simp only [e2, zr39, zo39, okR, isVs, isV, isD, isDs, isOs, resC, outC, nthR, nthO, cellsDV, nthD, asB, asI, asS, asL, Bool.and_true, Bool.true_and, BEq.rfl, chk_true, decide_true]
  by_cases g2 : y2 < 0
  · exact ⟨-1, by simp only [g2, decide_true, if_true, chk_true], by omega, by omega⟩
  simp only [g2, decide_false, Bool.false_eq_true, if_false, chk_true]
  exact ⟨_, rfl, by omega, fun _ => ⟨(o1 (by omega)).1, (o1 (by omega)).2.1, (o1 (by omega)).2.2.1, (o1 (by omega)).2.2.2.1, (o1 (by omega)).2.2.2.2.1, (o1 (by omega)).2.2.2.2.2.1, (o2 (by omega)), trivial⟩⟩
theorem toStore_eq (x1 : Int) (x2 : Int) (x3 : Int) (x4 : Int) (x5 : ByteArray) (x6 : List (List D)) (x7 : List (List D)) (wx6 : x6.length ≤ 1048576) (tx6 : ∀ r ∈ x6, typL shEntry r) (sx6 : ∀ r ∈ x6, szdL shEntry r) (wx7 : x7.length ≤ 1048576) (tx7 : ∀ r ∈ x7, typL shRec r) (sx7 : ∀ r ∈ x7, szdL shRec r) : t23 x1 x2 x3 x4 x5 x6 x7 = some ([.agg [.i .i64 x1, .i .i64 x2, .i .i64 x3, .i .i64 x4, .s x5, .l x6, .l x7]], []) := by
  simp only [t23, toKept_eq x1 x2 x3 x4 x5 x6 wx6 tx6 sx6, toRecS_eq x7 wx7 tx7 sx7, zr15, zo15, zr41, zo41, okR, isVs, isV, isD, isDs, isOs, resC, outC, nthR, nthO, cellsDV, nthD, asB, asI, asS, asL, Bool.and_true, Bool.true_and, BEq.rfl, chk_true, decide_true]
theorem eqStore_self (x1 : Int) (x2 : Int) (x3 : Int) (x4 : Int) (x5 : ByteArray) (x6 : List (List D)) (x7 : List (List D)) (wx6 : x6.length ≤ 1048576) (tx6 : ∀ r ∈ x6, typL shEntry r) (wx7 : x7.length ≤ 1048576) (tx7 : ∀ r ∈ x7, typL shRec r) : t25 x1 x2 x3 x4 x5 x6 x7 x1 x2 x3 x4 x5 x6 x7 = some ([.one (.b true)], []) := by
  simp only [t25, bne_self_eq_false, Bool.not_true, Bool.false_eq_true, if_false, eqKept_self x1 x2 x3 x4 x5 x6 wx6 tx6, eqRecS_self x7 wx7 tx7, zr18, zo18, zr28, zo28, okR, isVs, isV, isD, isDs, isOs, resC, outC, nthR, nthO, cellsDV, nthD, asB, asI, asS, asL, Bool.and_true, Bool.true_and, BEq.rfl, chk_true, decide_true]
abbrev shDirent : List Sh := [.s, .i .i64]
theorem Dirent_row {r : List D} (h : typL shDirent r) : ∃ x1 x2, r = [.s x1, .i .i64 x2] ∧ x1.size ≤ maxLen := by
  obtain ⟨_, _, rfl, ⟨x1, rfl, wx1⟩, ⟨_, _, rfl, ⟨x2, rfl, _⟩, rfl⟩⟩ := h
  exact ⟨x1, x2, rfl, wx1⟩
abbrev shInode : List Sh := [.i .i64, .i .i64, .i .i64, .i .i64, .i .i64, .s, .l [.s, .i .i64], .i .i64, .i .i64]
theorem Inode_row {r : List D} (h : typL shInode r) : ∃ x1 x2 x3 x4 x5 x6 x7 x8 x9, r = [.i .i64 x1, .i .i64 x2, .i .i64 x3, .i .i64 x4, .i .i64 x5, .s x6, .l x7, .i .i64 x8, .i .i64 x9] ∧ x6.size ≤ maxLen ∧ x7.length ≤ maxLen ∧ (∀ r ∈ x7, typL shDirent r) := by
  obtain ⟨_, _, rfl, ⟨x1, rfl, _⟩, ⟨_, _, rfl, ⟨x2, rfl, _⟩, ⟨_, _, rfl, ⟨x3, rfl, _⟩, ⟨_, _, rfl, ⟨x4, rfl, _⟩, ⟨_, _, rfl, ⟨x5, rfl, _⟩, ⟨_, _, rfl, ⟨x6, rfl, wx6⟩, ⟨_, _, rfl, ⟨x7, rfl, wx7, tx7⟩, ⟨_, _, rfl, ⟨x8, rfl, _⟩, ⟨_, _, rfl, ⟨x9, rfl, _⟩, rfl⟩⟩⟩⟩⟩⟩⟩⟩⟩ := h
  exact ⟨x1, x2, x3, x4, x5, x6, x7, x8, x9, rfl, wx6, wx7, tx7⟩
abbrev shVol : List Sh := [.i .i64, .l [.i .i64, .i .i64, .i .i64, .i .i64, .i .i64, .s, .l [.s, .i .i64], .i .i64, .i .i64]]
theorem Vol_row {r : List D} (h : typL shVol r) : ∃ x1 x2, r = [.i .i64 x1, .l x2] ∧ x2.length ≤ maxLen ∧ (∀ r ∈ x2, typL shInode r) := by
  obtain ⟨_, _, rfl, ⟨x1, rfl, _⟩, ⟨_, _, rfl, ⟨x2, rfl, wx2, tx2⟩, rfl⟩⟩ := h
  exact ⟨x1, x2, rfl, wx2, tx2⟩
abbrev shInt : List Sh := [.i .i64]
theorem Int_row {r : List D} (h : typL shInt r) : ∃ x1, r = [.i .i64 x1] := by
  obtain ⟨_, _, rfl, ⟨x1, rfl, _⟩, rfl⟩ := h
  exact ⟨x1, rfl⟩
abbrev shCred : List Sh := [.i .i64, .i .i64, .l [.i .i64]]
theorem Cred_row {r : List D} (h : typL shCred r) : ∃ x1 x2 x3, r = [.i .i64 x1, .i .i64 x2, .l x3] ∧ x3.length ≤ maxLen ∧ (∀ r ∈ x3, typL shInt r) := by
  obtain ⟨_, _, rfl, ⟨x1, rfl, _⟩, ⟨_, _, rfl, ⟨x2, rfl, _⟩, ⟨_, _, rfl, ⟨x3, rfl, wx3, tx3⟩, rfl⟩⟩⟩ := h
  exact ⟨x1, x2, x3, rfl, wx3, tx3⟩
abbrev shCall : List Sh := [.i .i64, .s, .s, .i .i64, .i .i64, .s]
theorem Call_row {r : List D} (h : typL shCall r) : ∃ x1 x2 x3 x4 x5 x6, r = [.i .i64 x1, .s x2, .s x3, .i .i64 x4, .i .i64 x5, .s x6] ∧ x2.size ≤ maxLen ∧ x3.size ≤ maxLen ∧ x6.size ≤ maxLen := by
  obtain ⟨_, _, rfl, ⟨x1, rfl, _⟩, ⟨_, _, rfl, ⟨x2, rfl, wx2⟩, ⟨_, _, rfl, ⟨x3, rfl, wx3⟩, ⟨_, _, rfl, ⟨x4, rfl, _⟩, ⟨_, _, rfl, ⟨x5, rfl, _⟩, ⟨_, _, rfl, ⟨x6, rfl, wx6⟩, rfl⟩⟩⟩⟩⟩⟩ := h
  exact ⟨x1, x2, x3, x4, x5, x6, rfl, wx2, wx3, wx6⟩
abbrev shResult : List Sh := [.i .i64, .s]
theorem Result_row {r : List D} (h : typL shResult r) : ∃ x1 x2, r = [.i .i64 x1, .s x2] ∧ x2.size ≤ maxLen := by
  obtain ⟨_, _, rfl, ⟨x1, rfl, _⟩, ⟨_, _, rfl, ⟨x2, rfl, wx2⟩, rfl⟩⟩ := h
  exact ⟨x1, x2, rfl, wx2⟩
abbrev shNote : List Sh := [.i .i64, .i .i64, .i .i64, .i .i64, .i .i64]
theorem Note_row {r : List D} (h : typL shNote r) : ∃ x1 x2 x3 x4 x5, r = [.i .i64 x1, .i .i64 x2, .i .i64 x3, .i .i64 x4, .i .i64 x5] := by
  obtain ⟨_, _, rfl, ⟨x1, rfl, _⟩, ⟨_, _, rfl, ⟨x2, rfl, _⟩, ⟨_, _, rfl, ⟨x3, rfl, _⟩, ⟨_, _, rfl, ⟨x4, rfl, _⟩, ⟨_, _, rfl, ⟨x5, rfl, _⟩, rfl⟩⟩⟩⟩⟩ := h
  exact ⟨x1, x2, x3, x4, x5, rfl⟩
abbrev shSession : List Sh := [.i .i64, .i .i64, .i .i64, .i .i64, .s]
theorem Session_row {r : List D} (h : typL shSession r) : ∃ x1 x2 x3 x4 x5, r = [.i .i64 x1, .i .i64 x2, .i .i64 x3, .i .i64 x4, .s x5] ∧ x5.size ≤ maxLen := by
  obtain ⟨_, _, rfl, ⟨x1, rfl, _⟩, ⟨_, _, rfl, ⟨x2, rfl, _⟩, ⟨_, _, rfl, ⟨x3, rfl, _⟩, ⟨_, _, rfl, ⟨x4, rfl, _⟩, ⟨_, _, rfl, ⟨x5, rfl, wx5⟩, rfl⟩⟩⟩⟩⟩ := h
  exact ⟨x1, x2, x3, x4, x5, rfl, wx5⟩
abbrev shTenant : List Sh := [.i .i64, .l [.i .i64, .i .i64, .i .i64, .i .i64, .i .i64, .s, .l [.s, .i .i64], .i .i64, .i .i64], .i .i64, .l [.i .i64, .i .i64, .i .i64, .i .i64, .i .i64], .l [.i .i64, .i .i64, .i .i64, .i .i64, .s]]
theorem Tenant_row {r : List D} (h : typL shTenant r) : ∃ x1 x2 x3 x4 x5, r = [.i .i64 x1, .l x2, .i .i64 x3, .l x4, .l x5] ∧ x2.length ≤ maxLen ∧ (∀ r ∈ x2, typL shInode r) ∧ x4.length ≤ maxLen ∧ (∀ r ∈ x4, typL shNote r) ∧ x5.length ≤ maxLen ∧ (∀ r ∈ x5, typL shSession r) := by
  obtain ⟨_, _, rfl, ⟨x1, rfl, _⟩, ⟨_, _, rfl, ⟨x2, rfl, wx2, tx2⟩, ⟨_, _, rfl, ⟨x3, rfl, _⟩, ⟨_, _, rfl, ⟨x4, rfl, wx4, tx4⟩, ⟨_, _, rfl, ⟨x5, rfl, wx5, tx5⟩, rfl⟩⟩⟩⟩⟩ := h
  exact ⟨x1, x2, x3, x4, x5, rfl, wx2, tx2, wx4, tx4, wx5, tx5⟩
abbrev shSlot : List Sh := [.i .i64, .i .i64, .i .i64, .i .i64, .s, .s, .i .i64, .i .i64, .s]
theorem Slot_row {r : List D} (h : typL shSlot r) : ∃ x1 x2 x3 x4 x5 x6 x7 x8 x9, r = [.i .i64 x1, .i .i64 x2, .i .i64 x3, .i .i64 x4, .s x5, .s x6, .i .i64 x7, .i .i64 x8, .s x9] ∧ x5.size ≤ maxLen ∧ x6.size ≤ maxLen ∧ x9.size ≤ maxLen := by
  obtain ⟨_, _, rfl, ⟨x1, rfl, _⟩, ⟨_, _, rfl, ⟨x2, rfl, _⟩, ⟨_, _, rfl, ⟨x3, rfl, _⟩, ⟨_, _, rfl, ⟨x4, rfl, _⟩, ⟨_, _, rfl, ⟨x5, rfl, wx5⟩, ⟨_, _, rfl, ⟨x6, rfl, wx6⟩, ⟨_, _, rfl, ⟨x7, rfl, _⟩, ⟨_, _, rfl, ⟨x8, rfl, _⟩, ⟨_, _, rfl, ⟨x9, rfl, wx9⟩, rfl⟩⟩⟩⟩⟩⟩⟩⟩⟩ := h
  exact ⟨x1, x2, x3, x4, x5, x6, x7, x8, x9, rfl, wx5, wx6, wx9⟩
abbrev shMsg : List Sh := [.i .i64, .i .i64, .i .i64, .i .i64, .i .i64, .i .i64, .i .i64, .b, .l [.i .i64, .s], .s]
theorem Msg_row {r : List D} (h : typL shMsg r) : ∃ x1 x2 x3 x4 x5 x6 x7 x8 x9 x10, r = [.i .i64 x1, .i .i64 x2, .i .i64 x3, .i .i64 x4, .i .i64 x5, .i .i64 x6, .i .i64 x7, .b x8, .l x9, .s x10] ∧ x9.length ≤ maxLen ∧ (∀ r ∈ x9, typL shEntry r) ∧ x10.size ≤ maxLen := by
  obtain ⟨_, _, rfl, ⟨x1, rfl, _⟩, ⟨_, _, rfl, ⟨x2, rfl, _⟩, ⟨_, _, rfl, ⟨x3, rfl, _⟩, ⟨_, _, rfl, ⟨x4, rfl, _⟩, ⟨_, _, rfl, ⟨x5, rfl, _⟩, ⟨_, _, rfl, ⟨x6, rfl, _⟩, ⟨_, _, rfl, ⟨x7, rfl, _⟩, ⟨_, _, rfl, ⟨x8, rfl⟩, ⟨_, _, rfl, ⟨x9, rfl, wx9, tx9⟩, ⟨_, _, rfl, ⟨x10, rfl, wx10⟩, rfl⟩⟩⟩⟩⟩⟩⟩⟩⟩⟩ := h
  exact ⟨x1, x2, x3, x4, x5, x6, x7, x8, x9, x10, rfl, wx9, tx9, wx10⟩
abbrev shCore : List Sh := [.i .i64, .i .i64, .i .i64, .i .i64, .i .i64, .i .i64, .i .i64, .i .i64, .l [.i .i64, .s], .i .i64, .l [.i .i64], .l [.i .i64], .l [.i .i64]]
theorem Core_row {r : List D} (h : typL shCore r) : ∃ x1 x2 x3 x4 x5 x6 x7 x8 x9 x10 x11 x12 x13, r = [.i .i64 x1, .i .i64 x2, .i .i64 x3, .i .i64 x4, .i .i64 x5, .i .i64 x6, .i .i64 x7, .i .i64 x8, .l x9, .i .i64 x10, .l x11, .l x12, .l x13] ∧ x9.length ≤ maxLen ∧ (∀ r ∈ x9, typL shEntry r) ∧ x11.length ≤ maxLen ∧ (∀ r ∈ x11, typL shInt r) ∧ x12.length ≤ maxLen ∧ (∀ r ∈ x12, typL shInt r) ∧ x13.length ≤ maxLen ∧ (∀ r ∈ x13, typL shInt r) := by
  obtain ⟨_, _, rfl, ⟨x1, rfl, _⟩, ⟨_, _, rfl, ⟨x2, rfl, _⟩, ⟨_, _, rfl, ⟨x3, rfl, _⟩, ⟨_, _, rfl, ⟨x4, rfl, _⟩, ⟨_, _, rfl, ⟨x5, rfl, _⟩, ⟨_, _, rfl, ⟨x6, rfl, _⟩, ⟨_, _, rfl, ⟨x7, rfl, _⟩, ⟨_, _, rfl, ⟨x8, rfl, _⟩, ⟨_, _, rfl, ⟨x9, rfl, wx9, tx9⟩, ⟨_, _, rfl, ⟨x10, rfl, _⟩, ⟨_, _, rfl, ⟨x11, rfl, wx11, tx11⟩, ⟨_, _, rfl, ⟨x12, rfl, wx12, tx12⟩, ⟨_, _, rfl, ⟨x13, rfl, wx13, tx13⟩, rfl⟩⟩⟩⟩⟩⟩⟩⟩⟩⟩⟩⟩⟩ := h
  exact ⟨x1, x2, x3, x4, x5, x6, x7, x8, x9, x10, x11, x12, x13, rfl, wx9, tx9, wx11, tx11, wx12, tx12, wx13, tx13⟩
end Go.Den.L9

/- Places, batches. -/
namespace Go.Den.L9
open Go
theorem row_in {sh : List Sh} {l : List (List D)} (h : ∀ r ∈ l, typL sh r) (z : List D) (hz : ∀ r, typL sh r → isRow z r = true) (i : Nat) (hi : i < l.length) : isRow z (l.getD i []) = true := hz _ (getD_row h hi)
theorem entry_row : ∀ r, typL shEntry r → isRow z90 r = true := fun r h => by
  obtain ⟨a, b, rfl, _⟩ := Entry_row h; rfl
/-- A batch: terms that do not fall, up to t; none too long. -/
def runB (l : List (List D)) (t : Int) : Nat → Nat → Int → Bool
  | 0, _, _ => true
  | k + 1, i, p => decide (p ≤ asI (nthD (l.getD i []) 0) ∧ asI (nthD (l.getD i []) 0) ≤ t ∧ ((asS (nthD (l.getD i []) 1)).size : Int) ≤ 1600) && runB l t k (i + 1) (asI (nthD (l.getD i []) 0))
/-- A message that may be. -/
def placeB (a b : Int) : Bool := decide ((a = 0 ∧ b = 0) ∨ (1 ≤ a ∧ a ≤ 100000 ∧ 1 ≤ b ∧ b ≤ 100000))
theorem place_spec (a b : Int) : t84 a b = some ([.one (.b (placeB a b))], []) := by
  simp only [t84, in_eq, zr83, zo83, okR, isVs, isV, isD, isOs, resC, nthR, cellsDV, nthD, asB, Bool.and_true, Bool.true_or, chk_true]
  split <;> (apply bool_some; unfold placeB; rw [Bool.eq_iff_iff]; simp_all; try omega)
end Go.Den.L9

/- Marks. -/
namespace Go.Den.L9
open Go
theorem markText_loop (s7 : ByteArray) (b9 : Bool) (q1 : Int → ByteArray → Bool → Rs) (h1 : ∀ n (s : ByteArray) b, s.size ≤ 1000 → ∃ x, q1 n s b = some ([.one (.s x)], [])) : ∀ (k m : Nat) (n : Int) (s : ByteArray) (v : SV), 0 ≤ n → n < 10 ^ k → n < 4611686018427387904 → k < m → s.size + k ≤ 1000 →
    ∃ x, l68o1 s7 b9 q1 m n s v = some ([.one (.s x)], []) := by
  intro k
  induction k with
  | zero =>
    intro m n s v h0 hn h2 hm hs
    obtain ⟨m, rfl⟩ : ∃ m', m = m' + 1 := ⟨m - 1, by omega⟩
    have e : decide (n > 0) = false := by simp; omega
    simp only [l68o1, e, Bool.false_eq_true, if_false]
    exact h1 _ _ _ (by omega)
  | succ k ih =>
    intro m n s v h0 hn h2 hm hs
    obtain ⟨m, rfl⟩ : ∃ m', m = m' + 1 := ⟨m - 1, by omega⟩
    by_cases e : n > 0
    · have e' : decide (n > 0) = true := decide_eq_true e
      have hb : ∀ x : Int, isBytes [[D.i .u8 x]] = true := fun _ => rfl
      have hz : ∀ x : Int, (⟨(bytesD [[D.i .u8 x]]).toArray⟩ : ByteArray).size = 1 := fun _ => rfl
      simp only [l68o1, e', if_true, hb, chk_true, hz]
      rw [chk_ok (decide_eq_true (by unfold lim; omega)), Int.tdiv_eq_ediv_of_nonneg h0, w64_in (n / 10) (by omega)]
      refine ih m (n / 10) _ _ (by omega) ?_ (by omega) (by omega) (by rw [ByteArray.size_append, hz]; omega)
      rw [Int.ediv_lt_iff_lt_mul (by omega)]
      rw [Int.pow_succ] at hn
      exact hn
    · have e' : decide (n > 0) = false := decide_eq_false e
      simp only [l68o1, e', Bool.false_eq_true, if_false]
      exact h1 _ _ _ (by omega)
noncomputable def mkT (k : Int) : ByteArray := asS (resC (t68 k) 0 0)
theorem markText_eq (k : Int) (h : k < 4611686018427387904) : t68 k = some ([.one (.s (mkT k))], []) := by
  have : ∃ x, t68 k = some ([.one (.s x)], []) := by
    unfold t68
    by_cases e : k ≤ 0
    · have e' : decide (k ≤ 0) = true := decide_eq_true e
      simp only [e', if_true]; exact ⟨_, rfl⟩
    · have e' : decide (k ≤ 0) = false := decide_eq_false e
      simp only [e', Bool.false_eq_true, if_false]
      refine markText_loop _ _ _ ?_ 20 KK k _ _ (by omega) (by omega) h (by rw [KK_eq]; omega) (by show 0 + 20 ≤ 1000; omega)
      intro n s b hs
      have e0 : (⟨#[109]⟩ : ByteArray).size = 1 := rfl
      simp only [e0]
      rw [chk_ok (decide_eq_true (by unfold lim; omega))]
      exact ⟨_, rfl⟩
  obtain ⟨x, hx⟩ := this
  have : mkT k = x := by unfold mkT; rw [hx]; rfl
  rw [this, hx]
theorem markText_w {x : ByteArray} : okR zr68 zo68 (some ([.one (.s x)], [])) = true := rfl
theorem markText_r {x : ByteArray} : asS (resC (some ([.one (.s x)], [])) 0 0) = x := rfl
theorem stR_mid (a b : List (List D)) (r ys : List D) (i off : Nat) (h : i = a.length) : stR (a ++ r :: b) i off ys = a ++ (r.take off ++ ys ++ r.drop (off + ys.length)) :: b := by
  subst h; unfold stR; exact modify_mid _ a r b
theorem getD_mid (a b : List (List D)) (r : List D) (i : Nat) (h : i = a.length) : (a ++ r :: b).getD i [] = r := by
  subst h; simp [List.getD]
theorem typL_len : ∀ (es : List Sh) (r : List D), typL es r → r.length = es.length
  | [], r, h => by rw [show r = [] from h]; rfl
  | e :: es, r, h => by
    obtain ⟨d, r', rfl, _, h⟩ := h
    simp only [List.length_cons, typL_len es r' h]
theorem snoc_app (a b : List (List D)) (r : List D) : a ++ r :: b = (a ++ [r]) ++ b := by simp
end Go.Den.L9

/- Marks laid and held. Printed by mark.py. -/
namespace Go.Den.L9
open Go
theorem st2_0 (a b : List (List D)) (i : Nat) (h : i = a.length) (c1 c2 d : D) : stR (a ++ [c1, c2] :: b) i 0 [d] = a ++ [d, c2] :: b := stR_mid a b _ _ i 0 h
theorem st2_1 (a b : List (List D)) (i : Nat) (h : i = a.length) (c1 c2 d : D) : stR (a ++ [c1, c2] :: b) i 1 [d] = a ++ [c1, d] :: b := stR_mid a b _ _ i 1 h
theorem len2 {r : List D} (h : r.length = 2) : ∃ c1 c2, r = [c1, c2] := by
  match r, h with
  | [c1, c2], _ => exact ⟨c1, c2, rfl⟩
noncomputable def rowMEntryS (k : Int) : List D := [.i .i64 (k), .s (mkT (k + 1))]
noncomputable def markedEntryS : Int → List (List D) → List (List D)
  | _, [] => []
  | k, _ :: b => rowMEntryS k :: markedEntryS (k + 1 + 1) b
theorem markedEntryS_len : ∀ (b : List (List D)) (k : Int), (markedEntryS k b).length = b.length
  | [], _ => rfl
  | _ :: b, k => by simp only [markedEntryS, List.length_cons, markedEntryS_len b]
theorem markEntryS_loop (n8 : Int) (q : Int → Int → Bool → List (List D) → Rs) (hq : ∀ a b c d, q a b c d = some ([.one (.i .i64 a)], [[.l d]])) : ∀ (b a : List (List D)) (m : Nat) (k : Int) (v10 : SV), (∀ r ∈ b, r.length = 2) → b.length < m → a.length + b.length ≤ 4000000 → 0 ≤ k → k + 2 * (b.length : Int) ≤ 4000000000000000000 →
    l61o0 n8 q m k (a.length : Int) v10 (a ++ b) = some ([.one (.i .i64 (k + 2 * (b.length : Int)))], [[.l (a ++ markedEntryS k b)]]) := by
  intro b
  induction b with
  | nil =>
    intro a m k v10 h hm hl h0 hk
    obtain ⟨m, rfl⟩ : ∃ m', m = m' + 1 := ⟨m - 1, by omega⟩
    have e : decide ((a.length : Int) < ((a ++ ([] : List (List D))).length : Int)) = false := by simp
    have e2 : k + 2 * ((([] : List (List D)).length : Nat) : Int) = k := by simp
    simp only [l61o0, e, Bool.false_eq_true, if_false, hq, e2, markedEntryS]
  | cons r b ih =>
    intro a m k v10 h hm hl h0 hk
    obtain ⟨m, rfl⟩ : ∃ m', m = m' + 1 := ⟨m - 1, by omega⟩
    simp only [List.length_cons] at hm hl hk
    obtain ⟨c1, c2, rfl⟩ := len2 (h r (List.mem_cons_self ..))
    have hb : ∀ r ∈ b, r.length = 2 := fun r hr => h r (List.mem_cons_of_mem _ hr)
    have e1 : ∀ r : List D, decide ((a.length : Int) < ((a ++ r :: b).length : Int)) = true := fun r => decide_eq_true (by simp; omega)
    have e0 : decide (0 ≤ (a.length : Int)) = true := decide_eq_true (by omega)
    have p1 : ∀ r : List D, decide (1 ≤ 2 ∧ a.length < (a ++ r :: b).length) = true := fun r => decide_eq_true (by simp)
    have p2 : ∀ r : List D, decide (2 ≤ 2 ∧ a.length < (a ++ r :: b).length) = true := fun r => decide_eq_true (by simp)
    have u1 : w64 (k + 1) = k + 1 := w64_in _ (by omega)
    have u2 : w64 (k + 1 + 1) = k + 1 + 1 := w64_in _ (by omega)
    have t1 := markText_eq (k + 1) (by omega)
    have hw := w64_succ a.length (by omega)
    simp only [l61o0, e1, e0, if_true, Int.toNat_natCast, p1, p2, u1, u2, t1, markText_w, markText_r, st2_0 a b _ rfl, st2_1 a b _ rfl, Bool.and_true, chk_true, hw]
    have := fun (z0 : SV) => ih (a ++ [rowMEntryS k]) m (k + 1 + 1) z0 hb (by omega) (by simp; omega) (by omega) (by omega)
    have e3 : (a ++ [rowMEntryS k]).length = a.length + 1 := by simp
    simp only [e3, List.append_assoc] at this
    have e4 : k + 2 * ((([c1, c2] :: b).length : Nat) : Int) = k + 1 + 1 + 2 * (b.length : Int) := by simp only [List.length_cons]; omega
    have e5 : a ++ markedEntryS k ([c1, c2] :: b) = (a ++ [rowMEntryS k]) ++ markedEntryS (k + 1 + 1) b := by simp [markedEntryS]
    rw [e4, e5, List.append_assoc]
    exact this _
theorem markEntryS_eq (l : List (List D)) (h : ∀ r ∈ l, r.length = 2) (hl : l.length ≤ 4000000) (k : Int) (h0 : 0 ≤ k) (hk : k + 2 * (l.length : Int) ≤ 4000000000000000000) : t61 l k = some ([.one (.i .i64 (k + 2 * (l.length : Int)))], [[.l (markedEntryS k l)]]) := by
  unfold t61
  exact markEntryS_loop _ _ (fun _ _ _ _ => rfl) l [] KK k _ h (by rw [KK_eq]; omega) (by simpa using hl) h0 hk
theorem heldEntryS_loop (n9 : Int) (q1 : Int → Int → Bool → Bool → SV → Rs) (q2 : Int → Int → Bool → Bool → Bool → Rs) (q3 : Int → Int → Bool → SV → SV → Rs) (hq : ∀ x0 x1 x2 x3 x4, q3 x0 x1 x2 x3 x4 = some ([.one (.i .i64 x0)], [])) : ∀ (b a : List (List D)) (m : Nat) (k : Int) (v11 v12 v13 : SV) (L : List (List D)) (i : Int), L = a ++ markedEntryS k b → i = (a.length : Int) → b.length < m → a.length + b.length ≤ 4000000 → 0 ≤ k → k + 2 * (b.length : Int) ≤ 4000000000000000000 →
    l62o0 L n9 q1 q2 q3 m k i v11 v12 v13 = some ([.one (.i .i64 (k + 2 * (b.length : Int)))], []) := by
  intro b
  induction b with
  | nil =>
    intro a m k v11 v12 v13 L i hL hi hm hl h0 hk
    subst hL hi
    obtain ⟨m, rfl⟩ : ∃ m', m = m' + 1 := ⟨m - 1, by omega⟩
    have e : decide ((a.length : Int) < ((a ++ ([] : List (List D))).length : Int)) = false := by simp
    have e2 : k + 2 * ((([] : List (List D)).length : Nat) : Int) = k := by simp
    rw [show markedEntryS k [] = [] from rfl]
    simp only [l62o0, e, Bool.false_eq_true, if_false, hq, e2]
  | cons r b ih =>
    intro a m k v11 v12 v13 L i hL hi hm hl h0 hk
    subst hL hi
    obtain ⟨m, rfl⟩ : ∃ m', m = m' + 1 := ⟨m - 1, by omega⟩
    simp only [List.length_cons] at hm hl hk
    have e1 : ∀ (r : List D) (b : List (List D)), decide ((a.length : Int) < ((a ++ r :: b).length : Int)) = true := fun r b => decide_eq_true (by simp; omega)
    have e0 : decide (0 ≤ (a.length : Int)) = true := decide_eq_true (by omega)
    have eg : ∀ (r : List D) (b : List (List D)), (a ++ r :: b).getD a.length [] = r := fun r b => getD_mid a b r _ rfl
    have u1 : w64 (k + 1) = k + 1 := w64_in _ (by omega)
    have u2 : w64 (k + 1 + 1) = k + 1 + 1 := w64_in _ (by omega)
    have t1 := markText_eq (k + 1) (by omega)
    have hw := w64_succ a.length (by omega)
    have this := fun (z0 : SV) (z1 : SV) (z2 : SV) => ih (a ++ [rowMEntryS k]) m (k + 1 + 1) z0 z1 z2 _ _ rfl rfl (by omega) (by simp; omega) (by omega) (by omega)
    have e3 : (a ++ [rowMEntryS k]).length = a.length + 1 := by simp
    simp only [e3, List.append_assoc] at this
    have e4 : k + 2 * (((r :: b).length : Nat) : Int) = k + 1 + 1 + 2 * (b.length : Int) := by simp only [List.length_cons]; omega
    have e5 : a ++ markedEntryS k (r :: b) = a ++ rowMEntryS k :: markedEntryS (k + 1 + 1) b := rfl
    rw [e5]
    have ez : isRow z90 (rowMEntryS k) = true := rfl
    have d0 : asI (nthD (rowMEntryS k) 0) = k := rfl
    have d1 : asS (nthD (rowMEntryS k) 1) = mkT (k + 1) := rfl
    simp only [l62o0, e1, e0, if_true, Int.toNat_natCast, eg, ez, d0, d1, u1, u2, t1, markText_w, markText_r, bne_self_eq_false, beq_self_eq_true, Bool.not_true, Bool.false_eq_true, if_false, Bool.and_true, chk_true, hw]
    rw [e4]
    exact this _ _ _
theorem heldEntryS_eq (l : List (List D)) (hl : l.length ≤ 4000000) (k : Int) (h0 : 0 ≤ k) (hk : k + 2 * (l.length : Int) ≤ 4000000000000000000) : t62 (markedEntryS k l) k = some ([.one (.i .i64 (k + 2 * (l.length : Int)))], []) := by
  unfold t62
  exact heldEntryS_loop _ _ _ _ (fun _ _ _ _ _ => rfl) l [] KK k _ _ _ _ _ rfl rfl (by rw [KK_eq]; omega) (by simpa using hl) h0 hk
theorem markKept_eq (x1 : Int) (x2 : Int) (x3 : Int) (x4 : Int) (x5 : ByteArray) (x6 : List (List D)) (mx6 : ∀ r ∈ x6, r.length = 2) (wx6 : x6.length ≤ 1048576) (k : Int) (h0 : 0 ≤ k) (hk : k ≤ 1000000000000) : t19 x1 x2 x3 x4 x5 x6 k = some ([.one (.i .i64 (k + 2 * (x6.length : Int)))], [[.i .i64 x1, .i .i64 x2, .i .i64 x3, .i .i64 x4, .s x5, .l (markedEntryS (k) x6)]]) := by
  simp only [t19, markEntryS_eq x6 mx6 (by omega) (k) (by omega) (by omega), zr61, zo61, okR, isVs, isV, isD, isDs, isOs, resC, outC, nthR, nthO, cellsDV, nthD, asB, asI, asS, asL, Bool.and_true, Bool.true_and, BEq.rfl, chk_true, decide_true]
theorem heldKept_eq (x1 : Int) (x2 : Int) (x3 : Int) (x4 : Int) (x5 : ByteArray) (x6 : List (List D)) (mx6 : ∀ r ∈ x6, r.length = 2) (wx6 : x6.length ≤ 1048576) (k : Int) (h0 : 0 ≤ k) (hk : k ≤ 1000000000000) : t20 x1 x2 x3 x4 x5 (markedEntryS (k) x6) k = some ([.one (.i .i64 (k + 2 * (x6.length : Int)))], []) := by
  have n0 : decide (k + 2 * (x6.length : Int) < 0) = false := decide_eq_false (by omega)
  simp only [t20, heldEntryS_eq x6 (by omega) (k) (by omega) (by omega), zr62, zo62, n0, Bool.false_eq_true, if_false, okR, isVs, isV, isD, isDs, isOs, resC, outC, nthR, nthO, cellsDV, nthD, asB, asI, asS, asL, Bool.and_true, Bool.true_and, BEq.rfl, chk_true, decide_true]
theorem st5_0 (a b : List (List D)) (i : Nat) (h : i = a.length) (c1 c2 c3 c4 c5 d : D) : stR (a ++ [c1, c2, c3, c4, c5] :: b) i 0 [d] = a ++ [d, c2, c3, c4, c5] :: b := stR_mid a b _ _ i 0 h
theorem st5_1 (a b : List (List D)) (i : Nat) (h : i = a.length) (c1 c2 c3 c4 c5 d : D) : stR (a ++ [c1, c2, c3, c4, c5] :: b) i 1 [d] = a ++ [c1, d, c3, c4, c5] :: b := stR_mid a b _ _ i 1 h
theorem st5_2 (a b : List (List D)) (i : Nat) (h : i = a.length) (c1 c2 c3 c4 c5 d : D) : stR (a ++ [c1, c2, c3, c4, c5] :: b) i 2 [d] = a ++ [c1, c2, d, c4, c5] :: b := stR_mid a b _ _ i 2 h
theorem st5_3 (a b : List (List D)) (i : Nat) (h : i = a.length) (c1 c2 c3 c4 c5 d : D) : stR (a ++ [c1, c2, c3, c4, c5] :: b) i 3 [d] = a ++ [c1, c2, c3, d, c5] :: b := stR_mid a b _ _ i 3 h
theorem st5_4 (a b : List (List D)) (i : Nat) (h : i = a.length) (c1 c2 c3 c4 c5 d : D) : stR (a ++ [c1, c2, c3, c4, c5] :: b) i 4 [d] = a ++ [c1, c2, c3, c4, d] :: b := stR_mid a b _ _ i 4 h
theorem len5 {r : List D} (h : r.length = 5) : ∃ c1 c2 c3 c4 c5, r = [c1, c2, c3, c4, c5] := by
  match r, h with
  | [c1, c2, c3, c4, c5], _ => exact ⟨c1, c2, c3, c4, c5, rfl⟩
noncomputable def rowMRecS (k : Int) : List D := [.i .i64 (k), .i .i64 (k + 1), .i .i64 (k + 1 + 1), .i .i64 (k + 1 + 1 + 1), .s (mkT (k + 1 + 1 + 1 + 1))]
noncomputable def markedRecS : Int → List (List D) → List (List D)
  | _, [] => []
  | k, _ :: b => rowMRecS k :: markedRecS (k + 1 + 1 + 1 + 1 + 1) b
theorem markedRecS_len : ∀ (b : List (List D)) (k : Int), (markedRecS k b).length = b.length
  | [], _ => rfl
  | _ :: b, k => by simp only [markedRecS, List.length_cons, markedRecS_len b]
theorem markRecS_loop (n8 : Int) (q : Int → Int → Bool → List (List D) → Rs) (hq : ∀ a b c d, q a b c d = some ([.one (.i .i64 a)], [[.l d]])) : ∀ (b a : List (List D)) (m : Nat) (k : Int) (v10 : SV), (∀ r ∈ b, r.length = 5) → b.length < m → a.length + b.length ≤ 4000000 → 0 ≤ k → k + 5 * (b.length : Int) ≤ 4000000000000000000 →
    l29o0 n8 q m k (a.length : Int) v10 (a ++ b) = some ([.one (.i .i64 (k + 5 * (b.length : Int)))], [[.l (a ++ markedRecS k b)]]) := by
  intro b
  induction b with
  | nil =>
    intro a m k v10 h hm hl h0 hk
    obtain ⟨m, rfl⟩ : ∃ m', m = m' + 1 := ⟨m - 1, by omega⟩
    have e : decide ((a.length : Int) < ((a ++ ([] : List (List D))).length : Int)) = false := by simp
    have e2 : k + 5 * ((([] : List (List D)).length : Nat) : Int) = k := by simp
    simp only [l29o0, e, Bool.false_eq_true, if_false, hq, e2, markedRecS]
  | cons r b ih =>
    intro a m k v10 h hm hl h0 hk
    obtain ⟨m, rfl⟩ : ∃ m', m = m' + 1 := ⟨m - 1, by omega⟩
    simp only [List.length_cons] at hm hl hk
    obtain ⟨c1, c2, c3, c4, c5, rfl⟩ := len5 (h r (List.mem_cons_self ..))
    have hb : ∀ r ∈ b, r.length = 5 := fun r hr => h r (List.mem_cons_of_mem _ hr)
    have e1 : ∀ r : List D, decide ((a.length : Int) < ((a ++ r :: b).length : Int)) = true := fun r => decide_eq_true (by simp; omega)
    have e0 : decide (0 ≤ (a.length : Int)) = true := decide_eq_true (by omega)
    have p1 : ∀ r : List D, decide (1 ≤ 5 ∧ a.length < (a ++ r :: b).length) = true := fun r => decide_eq_true (by simp)
    have p2 : ∀ r : List D, decide (2 ≤ 5 ∧ a.length < (a ++ r :: b).length) = true := fun r => decide_eq_true (by simp)
    have p3 : ∀ r : List D, decide (3 ≤ 5 ∧ a.length < (a ++ r :: b).length) = true := fun r => decide_eq_true (by simp)
    have p4 : ∀ r : List D, decide (4 ≤ 5 ∧ a.length < (a ++ r :: b).length) = true := fun r => decide_eq_true (by simp)
    have p5 : ∀ r : List D, decide (5 ≤ 5 ∧ a.length < (a ++ r :: b).length) = true := fun r => decide_eq_true (by simp)
    have u1 : w64 (k + 1) = k + 1 := w64_in _ (by omega)
    have u2 : w64 (k + 1 + 1) = k + 1 + 1 := w64_in _ (by omega)
    have u3 : w64 (k + 1 + 1 + 1) = k + 1 + 1 + 1 := w64_in _ (by omega)
    have u4 : w64 (k + 1 + 1 + 1 + 1) = k + 1 + 1 + 1 + 1 := w64_in _ (by omega)
    have u5 : w64 (k + 1 + 1 + 1 + 1 + 1) = k + 1 + 1 + 1 + 1 + 1 := w64_in _ (by omega)
    have t4 := markText_eq (k + 1 + 1 + 1 + 1) (by omega)
    have hw := w64_succ a.length (by omega)
    simp only [l29o0, e1, e0, if_true, Int.toNat_natCast, p1, p2, p3, p4, p5, u1, u2, u3, u4, u5, t4, markText_w, markText_r, st5_0 a b _ rfl, st5_1 a b _ rfl, st5_2 a b _ rfl, st5_3 a b _ rfl, st5_4 a b _ rfl, Bool.and_true, chk_true, hw]
    have := fun (z0 : SV) => ih (a ++ [rowMRecS k]) m (k + 1 + 1 + 1 + 1 + 1) z0 hb (by omega) (by simp; omega) (by omega) (by omega)
    have e3 : (a ++ [rowMRecS k]).length = a.length + 1 := by simp
    simp only [e3, List.append_assoc] at this
    have e4 : k + 5 * ((([c1, c2, c3, c4, c5] :: b).length : Nat) : Int) = k + 1 + 1 + 1 + 1 + 1 + 5 * (b.length : Int) := by simp only [List.length_cons]; omega
    have e5 : a ++ markedRecS k ([c1, c2, c3, c4, c5] :: b) = (a ++ [rowMRecS k]) ++ markedRecS (k + 1 + 1 + 1 + 1 + 1) b := by simp [markedRecS]
    rw [e4, e5, List.append_assoc]
    exact this _
theorem markRecS_eq (l : List (List D)) (h : ∀ r ∈ l, r.length = 5) (hl : l.length ≤ 4000000) (k : Int) (h0 : 0 ≤ k) (hk : k + 5 * (l.length : Int) ≤ 4000000000000000000) : t29 l k = some ([.one (.i .i64 (k + 5 * (l.length : Int)))], [[.l (markedRecS k l)]]) := by
  unfold t29
  exact markRecS_loop _ _ (fun _ _ _ _ => rfl) l [] KK k _ h (by rw [KK_eq]; omega) (by simpa using hl) h0 hk
theorem heldRecS_loop (n9 : Int) (q1 : Int → Int → Bool → Bool → SV → SV → SV → SV → Rs) (q2 : Int → Int → Bool → Bool → Bool → SV → SV → SV → Rs) (q3 : Int → Int → Bool → Bool → Bool → Bool → SV → SV → Rs) (q4 : Int → Int → Bool → Bool → Bool → Bool → Bool → SV → Rs) (q5 : Int → Int → Bool → Bool → Bool → Bool → Bool → Bool → Rs) (q6 : Int → Int → Bool → SV → SV → SV → SV → SV → Rs) (hq : ∀ x0 x1 x2 x3 x4 x5 x6 x7, q6 x0 x1 x2 x3 x4 x5 x6 x7 = some ([.one (.i .i64 x0)], [])) : ∀ (b a : List (List D)) (m : Nat) (k : Int) (v11 v12 v13 v14 v15 v16 : SV) (L : List (List D)) (i : Int), L = a ++ markedRecS k b → i = (a.length : Int) → b.length < m → a.length + b.length ≤ 4000000 → 0 ≤ k → k + 5 * (b.length : Int) ≤ 4000000000000000000 →
    l30o0 L n9 q1 q2 q3 q4 q5 q6 m k i v11 v12 v13 v14 v15 v16 = some ([.one (.i .i64 (k + 5 * (b.length : Int)))], []) := by
  intro b
  induction b with
  | nil =>
    intro a m k v11 v12 v13 v14 v15 v16 L i hL hi hm hl h0 hk
    subst hL hi
    obtain ⟨m, rfl⟩ : ∃ m', m = m' + 1 := ⟨m - 1, by omega⟩
    have e : decide ((a.length : Int) < ((a ++ ([] : List (List D))).length : Int)) = false := by simp
    have e2 : k + 5 * ((([] : List (List D)).length : Nat) : Int) = k := by simp
    rw [show markedRecS k [] = [] from rfl]
    simp only [l30o0, e, Bool.false_eq_true, if_false, hq, e2]
  | cons r b ih =>
    intro a m k v11 v12 v13 v14 v15 v16 L i hL hi hm hl h0 hk
    subst hL hi
    obtain ⟨m, rfl⟩ : ∃ m', m = m' + 1 := ⟨m - 1, by omega⟩
    simp only [List.length_cons] at hm hl hk
    have e1 : ∀ (r : List D) (b : List (List D)), decide ((a.length : Int) < ((a ++ r :: b).length : Int)) = true := fun r b => decide_eq_true (by simp; omega)
    have e0 : decide (0 ≤ (a.length : Int)) = true := decide_eq_true (by omega)
    have eg : ∀ (r : List D) (b : List (List D)), (a ++ r :: b).getD a.length [] = r := fun r b => getD_mid a b r _ rfl
    have u1 : w64 (k + 1) = k + 1 := w64_in _ (by omega)
    have u2 : w64 (k + 1 + 1) = k + 1 + 1 := w64_in _ (by omega)
    have u3 : w64 (k + 1 + 1 + 1) = k + 1 + 1 + 1 := w64_in _ (by omega)
    have u4 : w64 (k + 1 + 1 + 1 + 1) = k + 1 + 1 + 1 + 1 := w64_in _ (by omega)
    have u5 : w64 (k + 1 + 1 + 1 + 1 + 1) = k + 1 + 1 + 1 + 1 + 1 := w64_in _ (by omega)
    have t4 := markText_eq (k + 1 + 1 + 1 + 1) (by omega)
    have hw := w64_succ a.length (by omega)
    have this := fun (z0 : SV) (z1 : SV) (z2 : SV) (z3 : SV) (z4 : SV) (z5 : SV) => ih (a ++ [rowMRecS k]) m (k + 1 + 1 + 1 + 1 + 1) z0 z1 z2 z3 z4 z5 _ _ rfl rfl (by omega) (by simp; omega) (by omega) (by omega)
    have e3 : (a ++ [rowMRecS k]).length = a.length + 1 := by simp
    simp only [e3, List.append_assoc] at this
    have e4 : k + 5 * (((r :: b).length : Nat) : Int) = k + 1 + 1 + 1 + 1 + 1 + 5 * (b.length : Int) := by simp only [List.length_cons]; omega
    have e5 : a ++ markedRecS k (r :: b) = a ++ rowMRecS k :: markedRecS (k + 1 + 1 + 1 + 1 + 1) b := rfl
    rw [e5]
    have ez : isRow z38 (rowMRecS k) = true := rfl
    have d0 : asI (nthD (rowMRecS k) 0) = k := rfl
    have d1 : asI (nthD (rowMRecS k) 1) = k + 1 := rfl
    have d2 : asI (nthD (rowMRecS k) 2) = k + 1 + 1 := rfl
    have d3 : asI (nthD (rowMRecS k) 3) = k + 1 + 1 + 1 := rfl
    have d4 : asS (nthD (rowMRecS k) 4) = mkT (k + 1 + 1 + 1 + 1) := rfl
    simp only [l30o0, e1, e0, if_true, Int.toNat_natCast, eg, ez, d0, d1, d2, d3, d4, u1, u2, u3, u4, u5, t4, markText_w, markText_r, bne_self_eq_false, beq_self_eq_true, Bool.not_true, Bool.false_eq_true, if_false, Bool.and_true, chk_true, hw]
    rw [e4]
    exact this _ _ _ _ _ _
theorem heldRecS_eq (l : List (List D)) (hl : l.length ≤ 4000000) (k : Int) (h0 : 0 ≤ k) (hk : k + 5 * (l.length : Int) ≤ 4000000000000000000) : t30 (markedRecS k l) k = some ([.one (.i .i64 (k + 5 * (l.length : Int)))], []) := by
  unfold t30
  exact heldRecS_loop _ _ _ _ _ _ _ (fun _ _ _ _ _ _ _ _ => rfl) l [] KK k _ _ _ _ _ _ _ _ rfl rfl (by rw [KK_eq]; omega) (by simpa using hl) h0 hk
theorem markStore_eq (x1 : Int) (x2 : Int) (x3 : Int) (x4 : Int) (x5 : ByteArray) (x6 : List (List D)) (x7 : List (List D)) (mx6 : ∀ r ∈ x6, r.length = 2) (wx6 : x6.length ≤ 1048576) (mx7 : ∀ r ∈ x7, r.length = 5) (wx7 : x7.length ≤ 1048576) (k : Int) (h0 : 0 ≤ k) (hk : k ≤ 1000000000000) : t33 x1 x2 x3 x4 x5 x6 x7 k = some ([.one (.i .i64 (k + 2 * (x6.length : Int) + 5 * (x7.length : Int)))], [[.i .i64 x1, .i .i64 x2, .i .i64 x3, .i .i64 x4, .s x5, .l (markedEntryS (k) x6), .l (markedRecS (k + 2 * (x6.length : Int)) x7)]]) := by
  simp only [t33, markKept_eq x1 x2 x3 x4 x5 x6 mx6 wx6 (k) (by omega) (by omega), markRecS_eq x7 mx7 (by omega) (k + 2 * (x6.length : Int)) (by omega) (by omega), zr19, zo19, zr29, zo29, okR, isVs, isV, isD, isDs, isOs, resC, outC, nthR, nthO, cellsDV, nthD, asB, asI, asS, asL, Bool.and_true, Bool.true_and, BEq.rfl, chk_true, decide_true]
theorem heldStore_eq (x1 : Int) (x2 : Int) (x3 : Int) (x4 : Int) (x5 : ByteArray) (x6 : List (List D)) (x7 : List (List D)) (mx6 : ∀ r ∈ x6, r.length = 2) (wx6 : x6.length ≤ 1048576) (mx7 : ∀ r ∈ x7, r.length = 5) (wx7 : x7.length ≤ 1048576) (k : Int) (h0 : 0 ≤ k) (hk : k ≤ 1000000000000) : t36 x1 x2 x3 x4 x5 (markedEntryS (k) x6) (markedRecS (k + 2 * (x6.length : Int)) x7) k = some ([.one (.i .i64 (k + 2 * (x6.length : Int) + 5 * (x7.length : Int)))], []) := by
  have n0 : decide (k + 2 * (x6.length : Int) < 0) = false := decide_eq_false (by omega)
  have n1 : decide (k + 2 * (x6.length : Int) + 5 * (x7.length : Int) < 0) = false := decide_eq_false (by omega)
  simp only [t36, heldKept_eq x1 x2 x3 x4 x5 x6 mx6 wx6 (k) (by omega) (by omega), heldRecS_eq x7 (by omega) (k + 2 * (x6.length : Int)) (by omega) (by omega), zr20, zo20, zr30, zo30, n0, n1, Bool.false_eq_true, if_false, okR, isVs, isV, isD, isDs, isOs, resC, outC, nthR, nthO, cellsDV, nthD, asB, asI, asS, asL, Bool.and_true, Bool.true_and, BEq.rfl, chk_true, decide_true]
end Go.Den.L9

/- Kept ones, cores. -/
namespace Go.Den.L9
open Go
def mx (p : Int) : Int := if p < 1 then 1 else p
def allB (f : Nat → Bool) : Nat → Nat → Bool
  | 0, _ => true
  | k + 1, i => f i && allB f k (i + 1)
theorem int_row : ∀ r, typL shInt r → isRow z3 r = true := fun r h => by
  obtain ⟨a, rfl⟩ := Int_row h; rfl
theorem flat_of {n : Nat} {l : List (List D)} (h : ∀ r ∈ l, (decide (r.length = n) && allSc r) = true) : flatR n l = true := by
  induction l with
  | nil => rfl
  | cons r l ih => simp only [flatR, h r (by simp), ih (fun r hr => h r (by simp [hr])), Bool.and_true]
theorem entry_flat {l : List (List D)} (h : ∀ r ∈ l, typL shEntry r) : flatR 2 l = true := flat_of fun r hr => by
  obtain ⟨a, b, rfl, _⟩ := Entry_row (h r hr); rfl
theorem kept_loopS (n23 n24 n25 n26 : Int) (s27 : ByteArray) (l28 : List (List D)) (b29 b32 : Bool) (t n36 n37 n38 : Int) (s39 : ByteArray) (q1 : Int → Int → Bool → Bool → Int → ByteArray → Rs) (q2 : Int → Int → Bool → SV → Rs) (h1 : ∀ a b c d e f, q1 a b c d e f = some ([.one (.b false)], [])) (h2 : ∀ a b c d, q2 a b c d = some ([.one (.b true)], [])) (l : List (List D)) (h : ∀ r ∈ l, typL shEntry r) (hl : l.length < 4611686018427387904) : ∀ (k i m : Nat) (p : Int) (v w : SV), i + k = l.length → k < m →
    l51o1 n23 n24 n25 n26 s27 l28 b29 b32 t n36 n37 n38 s39 l q1 q2 m p i v w = some ([.one (.b (runB l t k i (mx p)))], []) := by
  intro k
  induction k with
  | zero =>
    intro i m p v w e hm
    obtain ⟨m, rfl⟩ : ∃ m', m = m' + 1 := ⟨m - 1, by omega⟩
    have ei : decide ((i : Int) < (l.length : Int)) = false := by simp; omega
    simp only [l51o1, ei, h2, runB]
    simp
  | succ k ih =>
    intro i m p v w e hm
    obtain ⟨m, rfl⟩ : ∃ m', m = m' + 1 := ⟨m - 1, by omega⟩
    have e1 := nat_in (i := i) (n := l.length) (by omega)
    have ez := row_in h _ entry_row i (by omega)
    simp only [l51o1, e1, nat_pos, Int.toNat_natCast, ez, Bool.and_true, chk_true, if_true, runB]
    rw [w64_succ i (by omega)]
    have hm1 : mx p = if p < 1 then 1 else p := rfl
    by_cases g : mx p ≤ asI (nthD (l.getD i []) 0) ∧ asI (nthD (l.getD i []) 0) ≤ t ∧ ((asS (nthD (l.getD i []) 1)).size : Int) ≤ 1600
    · have g1 : (((decide (asI (nthD (l.getD i []) 0) < 1) || decide (asI (nthD (l.getD i []) 0) < p)) || decide (asI (nthD (l.getD i []) 0) > t)) || decide (((asS (nthD (l.getD i []) 1)).size : Int) > 1600)) = false := by
        simp only [Bool.or_eq_false_iff, decide_eq_false_iff_not]; rw [hm1] at g; split at g <;> omega
      simp only [g1, decide_eq_true g, Bool.true_and, Bool.false_eq_true, if_false]
      have hmx : mx (asI (nthD (l.getD i []) 0)) = asI (nthD (l.getD i []) 0) := by unfold mx; rw [hm1] at g; split at g <;> (rw [if_neg (by omega)])
      have := ih (i + 1) m (asI (nthD (l.getD i []) 0)) (.d (.b true)) (.d (.b false)) (by omega) (by omega)
      rw [hmx] at this
      exact this
    · have g1 : (((decide (asI (nthD (l.getD i []) 0) < 1) || decide (asI (nthD (l.getD i []) 0) < p)) || decide (asI (nthD (l.getD i []) 0) > t)) || decide (((asS (nthD (l.getD i []) 1)).size : Int) > 1600)) = true := by
        simp only [Bool.or_eq_true, decide_eq_true_eq]; rw [hm1] at g; split at g <;> omega
      simp only [g1, if_true, h1, decide_eq_false g, Bool.false_and]
theorem kept_loopI (n26 n27 n28 n29 : Int) (s30 : ByteArray) (l31 : List (List D)) (b32 b34 b35 : Bool) (t n42 n43 n44 : Int) (s45 : ByteArray) (l46 : List (List D)) (q1 : Int → Int → Bool → Bool → Int → ByteArray → Rs) (q2 : Int → Int → Bool → SV → Rs) (g : Bool) (h1 : ∀ a b c d e f, q1 a b c d e f = some ([.one (.b false)], [])) (h2 : ∀ a b c d, q2 a b c d = some ([.one (.b g)], [])) (l : List (List D)) (h : ∀ r ∈ l, typL shEntry r) (hl : l.length < 4611686018427387904) : ∀ (k i m : Nat) (p : Int) (v w : SV), i + k = l.length → k < m →
    l56o2 n26 n27 n28 n29 s30 l31 b32 b34 b35 l (l.length : Int) t n42 n43 n44 s45 l46 q1 q2 m p i v w = some ([.one (.b (runB l t k i p && g))], []) := by
  intro k
  induction k with
  | zero =>
    intro i m p v w e hm
    obtain ⟨m, rfl⟩ : ∃ m', m = m' + 1 := ⟨m - 1, by omega⟩
    have ei : decide ((i : Int) < (l.length : Int)) = false := by simp; omega
    simp only [l56o2, ei, h2, runB]
    simp
  | succ k ih =>
    intro i m p v w e hm
    obtain ⟨m, rfl⟩ : ∃ m', m = m' + 1 := ⟨m - 1, by omega⟩
    have e1 := nat_in (i := i) (n := l.length) (by omega)
    have ez := row_in h _ entry_row i (by omega)
    have ew : ∀ x, okR zr76 zo76 (some ([.one (.b x)], [])) = true := fun _ => rfl
    have eb : ∀ x, asB (resC (some ([.one (.b x)], [])) 0 0) = x := fun _ => rfl
    simp only [l56o2, e1, nat_pos, Int.toNat_natCast, ez, within_eq, ew, eb, Bool.and_true, Bool.true_or, chk_true, if_true, runB]
    rw [w64_succ i (by omega)]
    by_cases g' : p ≤ asI (nthD (l.getD i []) 0) ∧ asI (nthD (l.getD i []) 0) ≤ t ∧ ((asS (nthD (l.getD i []) 1)).size : Int) ≤ 1600
    · have g1 : (decide (((asS (nthD (l.getD i []) 1)).size : Int) > 1600) || !(decide (p ≤ asI (nthD (l.getD i []) 0)) && decide (asI (nthD (l.getD i []) 0) ≤ t))) = false := by
        simp only [Bool.or_eq_false_iff, Bool.not_eq_false', Bool.and_eq_true, decide_eq_false_iff_not, decide_eq_true_eq]; omega
      simp only [g1, decide_eq_true g', Bool.true_and, Bool.false_eq_true, if_false]
      exact ih (i + 1) m _ _ _ (by omega) (by omega)
    · have g1 : (decide (((asS (nthD (l.getD i []) 1)).size : Int) > 1600) || !(decide (p ≤ asI (nthD (l.getD i []) 0)) && decide (asI (nthD (l.getD i []) 0) ≤ t))) = true := by
        simp only [Bool.or_eq_true, Bool.not_eq_true', Bool.and_eq_false_iff, decide_eq_false_iff_not, decide_eq_true_eq]; omega
      simp only [g1, if_true, h1, decide_eq_false g', Bool.false_and]
def keptA (t v si st : Int) (ss : ByteArray) (l : List (List D)) : Bool :=
  decide (0 ≤ t ∧ t ≤ 100000 ∧ -1 ≤ v ∧ v ≤ 4 ∧ (si = 0 → (ss.size : Int) = 0) ∧ (ss.size : Int) ≤ 20000 ∧ st ≤ t ∧ (l.length : Int) ≤ 60 ∧ w64 (si + (l.length : Int)) ≤ 100000) && placeB si st
def keptB (t v si st : Int) (ss : ByteArray) (l : List (List D)) : Bool := keptA t v si st ss l && runB l t l.length 0 (mx st)
theorem keptOk_spec (t v si st : Int) (ss : ByteArray) (l : List (List D)) (hl : l.length ≤ 1048576) (h : ∀ r ∈ l, typL shEntry r) : t51 t v si st ss l = some ([.one (.b (keptB t v si st ss l))], []) := by
  have ew : ∀ x, okR zr83 zo83 (some ([.one (.b x)], [])) = true := fun _ => rfl
  have ew2 : ∀ x, okR zr84 zo84 (some ([.one (.b x)], [])) = true := fun _ => rfl
  have eb : ∀ x, asB (resC (some ([.one (.b x)], [])) 0 0) = x := fun _ => rfl
  have key := fun b29 b32 => kept_loopS t v si st ss l b29 b32 t v si st ss (fun _ _ _ _ _ _ => some ([.one (.b false)], [])) (fun _ _ _ _ => some ([.one (.b true)], [])) (fun _ _ _ _ _ _ => rfl) (fun _ _ _ _ => rfl) l h (by omega) l.length 0 KK st .undef .undef (by omega) (by rw [KK_eq]; omega)
  simp only [t51, in_eq, place_spec, ew, ew2, eb, Bool.true_or, chk_true]
  rw [ite_not _ (keptA t v si st ss l)]
  · unfold keptB
    cases keptA t v si st ss l
    · rfl
    · refine Eq.trans (key _ _) ?_; simp
  · unfold keptA
    generalize placeB si st = pl
    rw [Bool.eq_iff_iff]
    cases pl <;> simp [-ByteArray.size_eq_zero_iff] <;> try omega
theorem keptOk_impl (t v si st : Int) (ss : ByteArray) (l : List (List D)) (hl : l.length ≤ 1048576) (h : ∀ r ∈ l, typL shEntry r) : t56 t v si st ss l = some ([.one (.b (keptB t v si st ss l))], []) := by
  have ew : ∀ x, okR zr76 zo76 (some ([.one (.b x)], [])) = true := fun _ => rfl
  have eb : ∀ x, asB (resC (some ([.one (.b x)], [])) 0 0) = x := fun _ => rfl
  have key := fun b32 b34 b35 => kept_loopI t v si st ss l b32 b34 b35 t v si st ss l (fun _ _ _ _ _ _ => some ([.one (.b false)], [])) (fun _ _ _ _ => some ([.one (.b (decide (w64 (si + (l.length : Int)) ≤ 100000)))], [])) _ (fun _ _ _ _ _ _ => rfl) (fun _ _ _ _ => rfl) l h (by omega) l.length 0 KK (mx st) .undef .undef (by omega) (by rw [KK_eq]; omega)
  have e : (if st > 1 then st else 1) = mx st := by unfold mx; split <;> split <;> omega
  simp only [t56, within_eq, ew, eb, Bool.true_or, chk_true, e]
  unfold keptB keptA placeB
  split
  · rename_i g
    apply bool_some
    symm
    rw [Bool.eq_false_iff]
    simp at g ⊢
    omega
  · rename_i g
    split
    · rename_i g2
      apply bool_some
      symm
      rw [Bool.eq_false_iff]
      simp [-ByteArray.size_eq_zero_iff] at g g2 ⊢
      omega
    · rename_i g2
      refine Eq.trans (key _ _ _) ?_
      apply bool_some
      rw [Bool.eq_iff_iff]
      generalize runB l t l.length 0 (mx st) = r
      cases r
      · simp
      · simp [-ByteArray.size_eq_zero_iff] at g g2 ⊢
        omega
end Go.Den.L9

/- Records: are they right, do they fit, what they lead to. -/
namespace Go.Den.L9
open Go
structure KS where
  (t v si st : Int) (sd : ByteArray) (es : List (List D))
structure RC where
  (k t i v : Int) (d : ByteArray)
def kD (k : KS) : List D := [.i .i64 k.t, .i .i64 k.v, .i .i64 k.si, .i .i64 k.st, .s k.sd, .l k.es]
def recOk (r : RC) : Bool :=
  (decide (r.k = 1) && decide (0 ≤ r.t ∧ r.t ≤ 100000 ∧ -1 ≤ r.v ∧ r.v ≤ 4 ∧ r.i = 0 ∧ (r.d.size : Int) = 0)) ||
  (decide (r.k = 2) && decide (1 ≤ r.t ∧ r.t ≤ 100000 ∧ 1 ≤ r.i ∧ r.i ≤ 100000 ∧ r.v = 0 ∧ (r.d.size : Int) ≤ 1600)) ||
  (decide (r.k = 3) && decide (r.t = 0 ∧ 1 ≤ r.i ∧ r.i ≤ 100000 ∧ r.v = 0 ∧ (r.d.size : Int) = 0)) ||
  (decide (r.k = 4) && decide (1 ≤ r.t ∧ r.t ≤ 100000 ∧ 1 ≤ r.i ∧ r.i ≤ 100000 ∧ r.v = 0 ∧ (r.d.size : Int) ≤ 20000))
def lastT (k : KS) : Int := if k.es.length = 0 then k.st else asI (nthD (k.es.getD (k.es.length - 1) []) 0)
def fitsB (k : KS) (r : RC) : Bool :=
  if r.k = 1 then decide (r.t > k.t ∨ (r.t = k.t ∧ (k.v = -1 ∨ r.v = k.v)))
  else if r.k = 2 then decide (r.i = k.si + (k.es.length : Int) + 1 ∧ k.es.length < 60 ∧ lastT k ≤ r.t ∧ r.t ≤ k.t)
  else if r.k = 3 then decide (k.si < r.i ∧ r.i ≤ k.si + (k.es.length : Int))
  else decide (k.si < r.i ∧ r.t ≤ k.t)
def behindA (k : KS) (i t : Int) : List (List D) :=
  if i - k.si ≤ (k.es.length : Int) ∧ asI (nthD (k.es.getD (i - k.si - 1).toNat []) 0) = t then k.es.drop (i - k.si).toNat else []
def stepK (k : KS) (r : RC) : KS × Bool :=
  if recOk r && fitsB k r then
    if r.k = 1 then (⟨r.t, r.v, k.si, k.st, k.sd, k.es⟩, true)
    else if r.k = 2 then (⟨k.t, k.v, k.si, k.st, k.sd, k.es ++ [[.i .i64 r.t, .s r.d]]⟩, true)
    else if r.k = 3 then (⟨k.t, k.v, k.si, k.st, k.sd, k.es.take (r.i - k.si - 1).toNat⟩, true)
    else (⟨k.t, k.v, r.i, r.t, r.d, behindA k r.i r.t⟩, true)
  else (k, false)
/-- What every kept one that is right fulfils. -/
structure KI (k : KS) : Prop where
  h0 : 0 ≤ k.si
  h1 : k.si ≤ 100000
  h2 : k.es.length ≤ 60
  h3 : ∀ r ∈ k.es, typL shEntry r
theorem wfi64 (n : Int) (h : -9223372036854775808 ≤ n ∧ n ≤ 9223372036854775807) : (Lit.int .i64 n).wf = true := by
  have : IntKind.wrap .i64 n = n := w64_in n h
  simp [Lit.wf, this]
  exact h
theorem KI.step {k : KS} (h : KI k) (r : RC) (g : recOk r = true) : KI (stepK k r).1 := by
  unfold stepK
  split
  · rename_i hc
    simp only [Bool.and_eq_true] at hc
    have hf := hc.2
    have hr := hc.1
    simp only [recOk, Bool.or_eq_true, Bool.and_eq_true, decide_eq_true_eq] at hr
    split
    · exact ⟨h.h0, h.h1, h.h2, h.h3⟩
    split
    · rename_i h2
      simp only [fitsB, h2] at hf
      simp at hf
      refine ⟨h.h0, h.h1, by simp; omega, fun x hx => ?_⟩
      rcases List.mem_append.1 hx with hx | hx
      · exact h.h3 x hx
      · simp at hx; subst hx
        have hm : 1600 ≤ maxLen := by decide
        exact ⟨_, _, rfl, ⟨r.t, rfl, wfi64 _ (by omega)⟩, _, _, rfl, ⟨r.d, rfl, by omega⟩, rfl⟩
    split
    · exact ⟨h.h0, h.h1, by have := h.h2; simp; omega, fun x hx => h.h3 x (List.mem_of_mem_take hx)⟩
    · refine ⟨by simp only; omega, by simp only; omega, ?_, fun x hx => ?_⟩
      · have := h.h2
        unfold behindA; split
        · simp; omega
        · simp
      · unfold behindA at hx; split at hx
        · exact h.h3 x (List.mem_of_mem_drop hx)
        · simp at hx
  · exact h
theorem keptB_KI {t v si st : Int} {ss : ByteArray} {l : List (List D)} (h : ∀ r ∈ l, typL shEntry r) (hb : keptB t v si st ss l = true) : KI ⟨t, v, si, st, ss, l⟩ := by
  simp only [keptB, keptA, placeB, Bool.and_eq_true, decide_eq_true_eq] at hb
  exact ⟨by simp only; omega, by simp only; omega, by simp only; omega, h⟩
theorem recOk_spec (a b c d : Int) (e : ByteArray) : t85 a b c d e = some ([.one (.b (recOk ⟨a, b, c, d, e⟩))], []) := by
  simp [-ByteArray.size_eq_zero_iff, t85, in_eq, zr83, zo83, recOk]
  (repeat' split) <;> (apply bool_some; rw [Bool.eq_iff_iff]; simp [-ByteArray.size_eq_zero_iff]; omega)
theorem recOk_impl (a b c d : Int) (e : ByteArray) : t45 a b c d e = some ([.one (.b (recOk ⟨a, b, c, d, e⟩))], []) := by
  simp [-ByteArray.size_eq_zero_iff, t45, within_eq, zr76, zo76, recOk]
  (repeat' split) <;> (apply bool_some; rw [Bool.eq_iff_iff]; simp [-ByteArray.size_eq_zero_iff]; omega)
theorem last_row {k : KS} (h : KI k) (hn : ¬ k.es.length = 0) : w64 ((k.es.length : Int) - 1) = ((k.es.length - 1 : Nat) : Int) ∧ (decide ((0 : Int) ≤ ((k.es.length - 1 : Nat) : Int)) && decide (((k.es.length - 1 : Nat) : Int) < (k.es.length : Int)) && isRow z90 (k.es.getD (k.es.length - 1) [])) = true := by
  have := h.h2
  refine ⟨by rw [w64_in _ (by omega)]; omega, ?_⟩
  rw [nat_pos, nat_in (show k.es.length - 1 < k.es.length by omega), row_in h.h3 _ entry_row _ (by omega)]
  rfl
theorem lastT_spec (k : KS) (h : KI k) : t94 k.t k.v k.si k.st k.sd k.es = some ([.one (.i .i64 (lastT k))], []) := by
  unfold t94 lastT
  by_cases hn : k.es.length = 0
  · have e : ((k.es.length : Int) == 0) = true := by simp [hn]
    simp only [e, if_true, if_pos hn]
  · have e : ((k.es.length : Int) == 0) = false := by rw [beq_eq_false_iff_ne]; omega
    obtain ⟨e1, e2⟩ := last_row h hn
    simp only [e, Bool.false_eq_true, if_false, if_neg hn, e1, Int.toNat_natCast, e2, chk_true]
theorem fits_spec (k : KS) (h : KI k) (r : RC) (hr : recOk r = true) : t86 k.t k.v k.si k.st k.sd k.es r.k r.t r.i r.v r.d = some ([.one (.b (fitsB k r))], []) := by
  have h0 := h.h0; have h1 := h.h1; have h2 := h.h2
  have ew : ∀ x, okR zr94 zo94 (some ([.one (.i .i64 x)], [])) = true := fun _ => rfl
  have eb : ∀ x, asI (resC (some ([.one (.i .i64 x)], [])) 0 0) = x := fun _ => rfl
  have e1 : w64 (k.si + (k.es.length : Int)) = k.si + (k.es.length : Int) := w64_in _ (by omega)
  have e2 : w64 (k.si + (k.es.length : Int) + 1) = k.si + (k.es.length : Int) + 1 := w64_in _ (by omega)
  simp only [t86, lastT_spec k h, ew, eb, e1, e2, Bool.true_or, chk_true, fitsB]
  have hk : r.k = 1 ∨ r.k = 2 ∨ r.k = 3 ∨ r.k = 4 := by
    simp only [recOk, Bool.or_eq_true, Bool.and_eq_true, decide_eq_true_eq] at hr; omega
  rcases hk with hk | hk | hk | hk <;> (simp [hk]; try (rw [Bool.eq_iff_iff]; simp; try omega))
theorem last_implK (k : KS) (h : KI k) : t95 k.t k.v k.si k.st k.sd k.es = some ([.one (.i .i64 (k.si + (k.es.length : Int))), .one (.i .i64 (lastT k))], []) := by
  have h0 := h.h0; have h1 := h.h1; have h2 := h.h2
  have e1 : w64 (k.si + (k.es.length : Int)) = k.si + (k.es.length : Int) := w64_in _ (by omega)
  unfold t95 lastT
  by_cases hn : k.es.length = 0
  · have e : ((k.es.length : Int) == 0) = true := by simp [hn]
    have e0 : k.si + (k.es.length : Int) = k.si := by omega
    simp only [e, if_true, if_pos hn, e0]
  · have e : ((k.es.length : Int) == 0) = false := by rw [beq_eq_false_iff_ne]; omega
    obtain ⟨e3, e2⟩ := last_row h hn
    simp only [e, Bool.false_eq_true, if_false, if_neg hn, e1, e3, Int.toNat_natCast, e2, chk_true]
theorem fits_impl (k : KS) (h : KI k) (r : RC) (hr : recOk r = true) : t88 k.t k.v k.si k.st k.sd k.es r.k r.t r.i r.v r.d = some ([.one (.b (fitsB k r))], []) := by
  have h0 := h.h0; have h1 := h.h1; have h2 := h.h2
  have ew : ∀ x y, okR zr95 zo95 (some ([.one (.i .i64 x), .one (.i .i64 y)], [])) = true := fun _ _ => rfl
  have eb : ∀ x y, asI (resC (some ([.one (.i .i64 x), .one (.i .i64 y)], [])) 0 0) = x := fun _ _ => rfl
  have ec : ∀ x y, asI (resC (some ([.one (.i .i64 x), .one (.i .i64 y)], [])) 1 0) = y := fun _ _ => rfl
  have ew2 : ∀ x, okR zr76 zo76 (some ([.one (.b x)], [])) = true := fun _ => rfl
  have eb2 : ∀ x, asB (resC (some ([.one (.b x)], [])) 0 0) = x := fun _ => rfl
  have e2 : w64 (k.si + (k.es.length : Int) + 1) = k.si + (k.es.length : Int) + 1 := w64_in _ (by omega)
  have e3 : w64 (k.si + 1) = k.si + 1 := w64_in _ (by omega)
  simp only [t88, last_implK k h, within_eq, ew, eb, ec, ew2, eb2, e2, e3, Bool.true_or, chk_true, fitsB]
  have hk : r.k = 1 ∨ r.k = 2 ∨ r.k = 3 ∨ r.k = 4 := by
    simp only [recOk, Bool.or_eq_true, Bool.and_eq_true, decide_eq_true_eq] at hr; omega
  rcases hk with hk | hk | hk | hk <;> (simp [hk]; try (rw [Bool.eq_iff_iff]; simp; try omega))
theorem eflat1 (t : Int) (d : ByteArray) (l : List (List D)) (h : l.length ≤ 60) : ((flatR 2 [[.i .i64 t, .s d]]) && decide (l.length + [[D.i .i64 t, D.s d]].length ≤ lim)) = true := by
  have : l.length + 1 ≤ lim := by unfold lim; omega
  simpa [flatR, allSc, isSc] using this
theorem edrop {k : KS} (h : KI k) (n : Nat) : flatR 2 (k.es.drop n) = true := entry_flat fun r hr => h.h3 r (List.mem_of_mem_drop hr)
theorem step_spec (k : KS) (h : KI k) (r : RC) : t52 k.t k.v k.si k.st k.sd k.es r.k r.t r.i r.v r.d = some ([.agg (kD (stepK k r).1), .one (.b (stepK k r).2)], []) := by
  have h0 := h.h0; have h1 := h.h1; have h2 := h.h2
  have ew : ∀ x, okR zr85 zo85 (some ([.one (.b x)], [])) = true := fun _ => rfl
  have ew2 : ∀ x, okR zr86 zo86 (some ([.one (.b x)], [])) = true := fun _ => rfl
  have eb : ∀ x, asB (resC (some ([.one (.b x)], [])) 0 0) = x := fun _ => rfl
  simp only [t52, recOk_spec, ew, eb, chk_true]
  unfold stepK
  cases hr : recOk r
  · simp only [Bool.not_false, Bool.not_true, Bool.or_true, Bool.true_or, chk_true, if_true, Bool.false_and, Bool.false_eq_true, if_false]
    rfl
  · simp only [fits_spec k h r hr, ew2, eb, Bool.not_true, Bool.not_false, Bool.or_true, Bool.true_or, Bool.false_or, Bool.true_and, chk_true]
    cases hf : fitsB k r
    · simp only [Bool.not_false, if_true, Bool.false_eq_true, if_false]
      rfl
    · simp only [Bool.not_true, Bool.false_eq_true, if_false, if_true]
      have hr' := hr
      simp only [recOk, Bool.or_eq_true, Bool.and_eq_true, decide_eq_true_eq] at hr'
      have hk : r.k = 1 ∨ r.k = 2 ∨ r.k = 3 ∨ r.k = 4 := by omega
      rcases hk with hk | hk | hk | hk
      · simp only [hk]; rfl
      · have g1 : (r.k == 1) = false := by rw [hk]; rfl
        have g2 : (r.k == 2) = true := by rw [hk]; rfl
        simp only [g1, g2, Bool.false_eq_true, if_false, if_true, eflat1 _ _ _ h2, chk_true, if_neg (show ¬ r.k = 1 by omega), if_pos hk]
        rfl
      · have g1 : (r.k == 1) = false := by rw [hk]; rfl
        have g2 : (r.k == 2) = false := by rw [hk]; rfl
        have g3 : (r.k == 3) = true := by rw [hk]; rfl
        have hf' : k.si < r.i ∧ r.i ≤ k.si + (k.es.length : Int) := by simpa [fitsB, hk] using hf
        have e1 : w64 (w64 (r.i - k.si) - 1) = r.i - k.si - 1 := by rw [w64_in (r.i - k.si) (by omega), w64_in _ (by omega)]
        have e2 : decide (0 ≤ r.i - k.si - 1 ∧ r.i - k.si - 1 ≤ (k.es.length : Int)) = true := decide_eq_true (by omega)
        simp only [g1, g2, g3, Bool.false_eq_true, if_false, if_true, e1, e2, chk_true, if_neg (show ¬ r.k = 1 by omega), if_neg (show ¬ r.k = 2 by omega), if_pos hk]
        rfl
      · have g1 : (r.k == 1) = false := by rw [hk]; rfl
        have g2 : (r.k == 2) = false := by rw [hk]; rfl
        have g3 : (r.k == 3) = false := by rw [hk]; rfl
        have hf' : k.si < r.i ∧ r.t ≤ k.t := by simpa [fitsB, hk] using hf
        have eB : t65 k.t k.v k.si k.st k.sd k.es r.i r.t = some ([.one (.l (behindA k r.i r.t))], []) := by
          have e1 : w64 (r.i - k.si) = r.i - k.si := w64_in _ (by omega)
          have e2 : w64 (r.i - k.si - 1) = r.i - k.si - 1 := w64_in _ (by omega)
          have e3 : decide (r.i - k.si ≥ 1) = true := decide_eq_true (by omega)
          simp only [t65, e1, e2, e3, Bool.true_and, behindA]
          by_cases hl : r.i - k.si ≤ (k.es.length : Int)
          · have e4 : decide (r.i - k.si ≤ (k.es.length : Int)) = true := decide_eq_true hl
            have e5 : (decide (0 ≤ r.i - k.si - 1) && decide (r.i - k.si - 1 < (k.es.length : Int)) && isRow z90 (k.es.getD (r.i - k.si - 1).toNat [])) = true := by
              rw [decide_eq_true (by omega), decide_eq_true (by omega), row_in h.h3 _ entry_row _ (by omega)]; rfl
            have e6 : decide (0 ≤ r.i - k.si ∧ r.i - k.si ≤ (k.es.length : Int) ∧ (k.es.getD 0 z90).length = z90.length) = true := by
              refine decide_eq_true ⟨by omega, hl, ?_⟩
              cases hes : k.es with
              | nil => rfl
              | cons x xs =>
                have := h.h3 x (by rw [hes]; simp)
                obtain ⟨a, b, rfl, _⟩ := Entry_row this
                rfl
            have e7 : ((flatR 2 (k.es.drop (r.i - k.si).toNat)) && decide (([] : List (List D)).length + (k.es.drop (r.i - k.si).toNat).length ≤ lim)) = true := by
              rw [edrop h, decide_eq_true (by unfold lim; simp; omega)]; rfl
            simp only [e4, e5, e6, e7, Bool.true_and, Bool.true_or, chk_true, List.nil_append]
            by_cases ht : asI (nthD (k.es.getD (r.i - k.si - 1).toNat []) 0) = r.t
            · rw [if_pos (by simpa using ht), if_pos ⟨hl, ht⟩]
            · rw [if_neg (by simpa using ht), if_neg (fun x => ht x.2)]
          · have e4 : decide (r.i - k.si ≤ (k.es.length : Int)) = false := decide_eq_false hl
            simp only [e4, Bool.not_false, Bool.or_true, chk_true, Bool.false_and, Bool.false_eq_true, if_false]
            rw [if_neg (fun x => hl x.1)]
        have ew3 : ∀ x, okR zr65 zo65 (some ([.one (.l x)], [])) = true := fun _ => rfl
        have eb3 : ∀ x, asL (resC (some ([.one (.l x)], [])) 0 0) = x := fun _ => rfl
        simp only [g1, g2, g3, Bool.false_eq_true, if_false, eB, ew3, eb3, chk_true, if_neg (show ¬ r.k = 1 by omega), if_neg (show ¬ r.k = 2 by omega), if_neg (show ¬ r.k = 3 by omega)]
        rfl
theorem step_impl (k : KS) (h : KI k) (r : RC) : t58 k.t k.v k.si k.st k.sd k.es r.k r.t r.i r.v r.d = some ([.one (.b (stepK k r).2)], [kD (stepK k r).1]) := by
  have h0 := h.h0; have h1 := h.h1; have h2 := h.h2
  have ew : ∀ x, okR zr45 zo45 (some ([.one (.b x)], [])) = true := fun _ => rfl
  have ew2 : ∀ x, okR zr88 zo88 (some ([.one (.b x)], [])) = true := fun _ => rfl
  have eb : ∀ x, asB (resC (some ([.one (.b x)], [])) 0 0) = x := fun _ => rfl
  simp only [t58, recOk_impl, ew, eb, chk_true]
  unfold stepK
  cases hr : recOk r
  · simp only [Bool.not_false, Bool.not_true, Bool.or_true, Bool.true_or, chk_true, if_true, Bool.false_and, Bool.false_eq_true, if_false]
    rfl
  · simp only [fits_impl k h r hr, ew2, eb, Bool.not_true, Bool.not_false, Bool.or_true, Bool.true_or, Bool.false_or, Bool.true_and, chk_true]
    cases hf : fitsB k r
    · simp only [Bool.not_false, if_true, Bool.false_eq_true, if_false]
      rfl
    · simp only [Bool.not_true, Bool.false_eq_true, if_false, if_true]
      have hr' := hr
      simp only [recOk, Bool.or_eq_true, Bool.and_eq_true, decide_eq_true_eq] at hr'
      have hk : r.k = 1 ∨ r.k = 2 ∨ r.k = 3 ∨ r.k = 4 := by omega
      rcases hk with hk | hk | hk | hk
      · simp only [hk]; rfl
      · have g1 : (r.k == 1) = false := by rw [hk]; rfl
        have g2 : (r.k == 2) = true := by rw [hk]; rfl
        simp only [g1, g2, Bool.false_eq_true, if_false, if_true, eflat1 _ _ _ h2, chk_true, if_neg (show ¬ r.k = 1 by omega), if_pos hk]
        rfl
      · have g1 : (r.k == 1) = false := by rw [hk]; rfl
        have g2 : (r.k == 2) = false := by rw [hk]; rfl
        have g3 : (r.k == 3) = true := by rw [hk]; rfl
        have hf' : k.si < r.i ∧ r.i ≤ k.si + (k.es.length : Int) := by simpa [fitsB, hk] using hf
        have e1 : w64 (w64 (r.i - k.si) - 1) = r.i - k.si - 1 := by rw [w64_in (r.i - k.si) (by omega), w64_in _ (by omega)]
        have e2 : decide (0 ≤ r.i - k.si - 1 ∧ r.i - k.si - 1 ≤ (k.es.length : Int) ∧ True) = true := decide_eq_true ⟨by omega, by omega, trivial⟩
        simp only [g1, g2, g3, Bool.false_eq_true, if_false, if_true, e1, e2, chk_true, if_neg (show ¬ r.k = 1 by omega), if_neg (show ¬ r.k = 2 by omega), if_pos hk]
        rfl
      · have g1 : (r.k == 1) = false := by rw [hk]; rfl
        have g2 : (r.k == 2) = false := by rw [hk]; rfl
        have g3 : (r.k == 3) = false := by rw [hk]; rfl
        have hf' : k.si < r.i ∧ r.t ≤ k.t := by simpa [fitsB, hk] using hf
        have e1 : w64 (r.i - k.si) = r.i - k.si := w64_in _ (by omega)
        have e2 : w64 (r.i - k.si - 1) = r.i - k.si - 1 := w64_in _ (by omega)
        simp only [g1, g2, g3, Bool.false_eq_true, if_false, e1, e2, if_neg (show ¬ r.k = 1 by omega), if_neg (show ¬ r.k = 2 by omega), if_neg (show ¬ r.k = 3 by omega), behindA]
        by_cases hl : r.i - k.si ≤ (k.es.length : Int)
        · have e4 : decide (r.i - k.si ≤ (k.es.length : Int)) = true := decide_eq_true hl
          have e5 : (decide (0 ≤ r.i - k.si - 1) && decide (r.i - k.si - 1 < (k.es.length : Int))) = true := by
            rw [decide_eq_true (by omega), decide_eq_true (by omega)]; rfl
          have e6 : (decide (1 ≤ (k.es.getD (r.i - k.si - 1).toNat []).length) && isF z3 0 (k.es.getD (r.i - k.si - 1).toNat [])) = true := by
            obtain ⟨a, b, he, _⟩ := Entry_row (getD_row h.h3 (i := (r.i - k.si - 1).toNat) (by omega))
            rw [he]; rfl
          have e8 : decide (0 ≤ r.i - k.si ∧ r.i - k.si ≤ (k.es.length : Int)) = true := decide_eq_true (by omega)
          have e7 : ((flatR 2 (k.es.drop (r.i - k.si).toNat)) && decide ((k.es.drop (r.i - k.si).toNat).length ≤ lim)) = true := by
            rw [edrop h, decide_eq_true (by unfold lim; simp; omega)]; rfl
          simp only [e4, e5, e6, e7, e8, Bool.true_and, Bool.true_or, chk_true]
          by_cases ht : asI (nthD (k.es.getD (r.i - k.si - 1).toNat []) 0) = r.t
          · rw [if_pos (by simpa using ht), if_pos ⟨hl, ht⟩]; rfl
          · rw [if_neg (by simpa using ht), if_neg (fun x => ht x.2)]; rfl
        · have e4 : decide (r.i - k.si ≤ (k.es.length : Int)) = false := decide_eq_false hl
          simp only [e4, Bool.not_false, Bool.or_true, chk_true, Bool.false_and, Bool.false_eq_true, if_false]
          rw [if_neg (fun x => hl x.1)]; rfl
end Go.Den.L9

/- A kept one's step. -/
namespace Go.Den.L9
open Go
theorem copy_flat {l : List (List D)} (h : ∀ r ∈ l, typL shEntry r) (hl : l.length ≤ 1048576) : ((flatR 2 l) && decide (([] : List (List D)).length + l.length ≤ lim)) = true ∧ ((flatR 2 l) && decide (l.length ≤ lim)) = true := by
  have e : decide (l.length ≤ lim) = true := decide_eq_true (by unfold lim; omega)
  have e2 : decide (([] : List (List D)).length + l.length ≤ lim) = true := decide_eq_true (by unfold lim; simp; omega)
  rw [entry_flat h, e, e2]; exact ⟨rfl, rfl⟩
theorem l3Copy_eq (t v si st : Int) (sd : ByteArray) (l : List (List D)) (h : ∀ r ∈ l, typL shEntry r) (hl : l.length ≤ 1048576) : t53 t v si st sd l = some ([.agg [.i .i64 t, .i .i64 v, .i .i64 si, .i .i64 st, .s sd, .l l]], []) := by
  simp only [t53, (copy_flat h hl).1, chk_true, List.nil_append]
theorem copyKept_eq (t v si st : Int) (sd : ByteArray) (l : List (List D)) (h : ∀ r ∈ l, typL shEntry r) (hl : l.length ≤ 1048576) : t57 t v si st sd l = some ([.agg [.i .i64 t, .i .i64 v, .i .i64 si, .i .i64 st, .s sd, .l l]], []) := by
  simp only [t57, (copy_flat h hl).2, chk_true]
theorem step_norec (k : KS) (r : RC) (g : recOk r = false) : stepK k r = (k, false) := by
  unfold stepK; rw [g]; rfl
theorem KI.step' {k : KS} (h : KI k) (r : RC) : KI (stepK k r).1 := by
  cases g : recOk r
  · rw [step_norec k r g]; exact h
  · exact h.step r g
end Go.Den.L9

/- Stores: what they come to. -/
namespace Go.Den.L9
open Go
theorem rec_row : ∀ r, typL shRec r → isRow z38 r = true := fun r h => by
  obtain ⟨a, b, c, d, e, rfl, _⟩ := Rec_row h; rfl
theorem rec_flat {l : List (List D)} (h : ∀ r ∈ l, typL shRec r) : flatR 5 l = true := flat_of fun r hr => by
  obtain ⟨a, b, c, d, e, rfl, _⟩ := Rec_row (h r hr); rfl
def rcOf (r : List D) : RC := ⟨asI (nthD r 0), asI (nthD r 1), asI (nthD r 2), asI (nthD r 3), asS (nthD r 4)⟩
/-- c records from number i on, each of them fitting. -/
def foldN (l : List (List D)) : Nat → Nat → KS → Option KS
  | 0, _, k => some k
  | c + 1, i, k => if (stepK k (rcOf (l.getD i []))).2 then foldN l c (i + 1) (stepK k (rcOf (l.getD i []))).1 else none
theorem foldN_KI (l : List (List D)) : ∀ (c i : Nat) (k K : KS), KI k → foldN l c i k = some K → KI K
  | 0, _, k, K, h, e => by cases e; exact h
  | c + 1, i, k, K, h, e => by
    simp only [foldN] at e
    split at e
    · exact foldN_KI l c (i + 1) _ K (h.step' _) e
    · cases e
theorem foldN_add (l : List (List D)) : ∀ (c d i : Nat) (k : KS), foldN l (c + d) i k = (foldN l c i k).bind (foldN l d (i + c))
  | 0, d, i, k => by simp [foldN]
  | c + 1, d, i, k => by
    rw [show c + 1 + d = (c + d) + 1 by omega]
    simp only [foldN]
    split
    · rw [foldN_add l c d (i + 1)]; rw [show i + 1 + c = i + (c + 1) by omega]
    · rfl
theorem foldN_take (l : List (List D)) (n : Nat) : ∀ (c i : Nat) (k : KS), i + c ≤ n → foldN (l.take n) c i k = foldN l c i k
  | 0, _, k, _ => rfl
  | c + 1, i, k, h => by
    have e : (l.take n).getD i [] = l.getD i [] := by simp [List.getD, List.getElem?_take, show i < n by omega]
    simp only [foldN, e]
    split
    · exact foldN_take l n c (i + 1) _ (by omega)
    · rfl
theorem foldN_app (a b : List (List D)) : ∀ (c i : Nat) (k : KS), i + c ≤ a.length → foldN (a ++ b) c i k = foldN a c i k
  | 0, _, k, _ => rfl
  | c + 1, i, k, h => by
    have e : (a ++ b).getD i [] = a.getD i [] := by simp [List.getD, List.getElem?_append, show i < a.length by omega]
    simp only [foldN, e]
    split
    · exact foldN_app a b c (i + 1) _ (by omega)
    · rfl
/-- What is to be of a store. -/
def storeV (k : KS) (l : List (List D)) : Option KS := if keptB k.t k.v k.si k.st k.sd k.es && decide (l.length ≤ 80) then foldN l l.length 0 k else none
theorem storeV_KI {k K : KS} {l : List (List D)} (h : ∀ r ∈ k.es, typL shEntry r) (e : storeV k l = some K) : KI k ∧ KI K ∧ l.length ≤ 80 := by
  unfold storeV at e
  split at e
  · rename_i hc
    simp only [Bool.and_eq_true, decide_eq_true_eq] at hc
    have hk : KI k := keptB_KI h hc.1
    exact ⟨hk, foldN_KI l _ _ _ _ hk e, hc.2⟩
  · cases e
theorem storeV_part {k K : KS} {l : List (List D)} (e : storeV k l = some K) (n : Nat) (hn : n ≤ l.length) : ∃ K', foldN l n 0 k = some K' ∧ storeV k (l.take n) = some K' := by
  unfold storeV at e
  split at e
  · rename_i hc
    have h2 := foldN_add l n (l.length - n) 0 k
    rw [show n + (l.length - n) = l.length by omega, e] at h2
    cases hf : foldN l n 0 k with
    | none => rw [hf] at h2; cases h2
    | some K' =>
      refine ⟨K', rfl, ?_⟩
      unfold storeV
      simp only [Bool.and_eq_true, decide_eq_true_eq] at hc
      rw [if_pos (by simp only [Bool.and_eq_true, decide_eq_true_eq]; exact ⟨hc.1, by simp; omega⟩)]
      rw [show (l.take n).length = n by simp; omega, foldN_take l n _ _ _ (by omega), hf]
  · cases e
theorem foldS_loop (n37 n38 n39 n40 : Int) (s41 : ByteArray) (l42 l43 : List (List D)) (n44 : Int) (b45 : Bool) (n50 n51 n52 n53 : Int) (s54 : ByteArray) (l55 l56 : List (List D)) (n57 n58 n59 n60 : Int) (s61 : ByteArray)
    (q1 : Int → Bool → Bool → Bool → Int → Int → Int → Int → ByteArray → Int → Int → Int → Int → ByteArray → List (List D) → Rs) (q2 : Int → SV → Bool → SV → Int → Int → Int → Int → ByteArray → List (List D) → Rs) (X : Rs) (F : KS → Rs)
    (h1 : ∀ a b c d e f g h i j k l m n o, q1 a b c d e f g h i j k l m n o = X) (h2 : ∀ a b c d (k : KS), q2 a b c d k.t k.v k.si k.st k.sd k.es = F k)
    (h : ∀ r ∈ l56, typL shRec r) (hl : l56.length ≤ 1048576) (stop : Nat) (hs : stop ≤ l56.length) (hc : ∀ i : Nat, (decide ((i : Int) < n44) && decide ((i : Int) < (l56.length : Int))) = decide (i < stop)) : ∀ (c i m : Nat) (k : KS) (u v w : SV), KI k → i + c = stop → c < m →
    l63o0 n37 n38 n39 n40 s41 l42 l43 n44 b45 n50 n51 n52 n53 s54 l55 l56 n57 n58 n59 n60 s61 q1 q2 m i u v w k.t k.v k.si k.st k.sd k.es = (match foldN l56 c i k with | some K => F K | none => X) := by
  intro c
  induction c with
  | zero =>
    intro i m k u v w _ e hm
    obtain ⟨m, rfl⟩ : ∃ m', m = m' + 1 := ⟨m - 1, by omega⟩
    have ei : decide (i < stop) = false := by simp; omega
    simp only [l63o0, hc, ei, Bool.false_eq_true, if_false, h2, foldN]
  | succ c ih =>
    intro i m k u v w hk e hm
    obtain ⟨m, rfl⟩ : ∃ m', m = m' + 1 := ⟨m - 1, by omega⟩
    have ei : decide (i < stop) = true := by simp; omega
    have e1 := nat_in (i := i) (n := l56.length) (by omega)
    have ez := row_in h _ rec_row i (by omega)
    have ws : ∀ t v si st sd l b, okR zr52 zo52 (some ([.agg [.i .i64 t, .i .i64 v, .i .i64 si, .i .i64 st, .s sd, .l l], .one (.b b)], [])) = true := fun _ _ _ _ _ _ _ => rfl
    have s1 := step_spec k hk (rcOf (l56.getD i []))
    have hk2 := hk.step' (rcOf (l56.getD i []))
    have ih' := ih (i + 1) m (stepK k (rcOf (l56.getD i []))).1
    rcases hr : stepK k (rcOf (l56.getD i [])) with ⟨⟨t, vv, si, st, sd, es⟩, b⟩
    rw [hr] at s1 hk2 ih'
    simp only [rcOf] at s1
    simp only [l63o0, hc, ei, if_true]
    simp only [e1, nat_pos, Int.toNat_natCast, ez, Bool.and_true, chk_true, foldN, hr]
    simp only [kD] at s1 hk2 ih'
    simp only [s1, ws, chk_true]
    simp only [resC, nthR, cellsDV, nthD, asI, asS, asL, asB]
    cases b
    · simp only [Bool.not_false, if_true, h1, Bool.false_eq_true, if_false]
    · simp only [Bool.not_true, Bool.false_eq_true, if_false, if_true]
      rw [w64_succ i (by omega)]
      exact ih' _ _ _ hk2 (by omega) (by omega)
def foldR (r : Option KS) : Rs := match r with
  | some K => some ([.agg (kD K), .one (.b true)], [])
  | none => some ([.agg [.i .i64 0, .i .i64 0, .i .i64 0, .i .i64 0, .s ⟨#[]⟩, .l []], .one (.b false)], [])
theorem fold_spec (k : KS) (l : List (List D)) (n : Int) (hk : KI k) (h : ∀ r ∈ l, typL shRec r) (hl : l.length ≤ 1048576) (stop : Nat) (hs : stop ≤ l.length) (hn : (stop : Int) = if n ≤ 0 then 0 else if n ≤ (l.length : Int) then n else (l.length : Int)) :
    t63 k.t k.v k.si k.st k.sd k.es l n = foldR (foldN l stop 0 k) := by
  have wc : ∀ t v si st sd l, okR zr53 zo53 (some ([.agg [.i .i64 t, .i .i64 v, .i .i64 si, .i .i64 st, .s sd, .l l]], [])) = true := fun _ _ _ _ _ _ => rfl
  have hk2 := hk.h2
  simp only [t63, l3Copy_eq k.t k.v k.si k.st k.sd k.es hk.h3 (by omega), wc, chk_true, resC, nthR, cellsDV, nthD, asI, asS, asL]
  refine (foldS_loop k.t k.v k.si k.st k.sd k.es l n false k.t k.v k.si k.st k.sd k.es l 0 0 0 0 ⟨#[]⟩ _ _ (foldR none) (fun K => foldR (some K)) (fun _ _ _ _ _ _ _ _ _ _ _ _ _ _ _ => rfl) (fun _ _ _ _ _ => rfl) h hl stop hs (fun i => ?_) stop 0 KK k .undef .undef .undef hk (by omega) (by rw [KK_eq]; omega)).trans ?_
  · rw [Bool.eq_iff_iff]; simp only [Bool.and_eq_true, decide_eq_true_eq]; split at hn
    · omega
    · split at hn <;> omega
  · cases foldN l stop 0 k <;> rfl
theorem fold_w (r : Option KS) : okR zr63 zo63 (foldR r) = true := by cases r <;> rfl
theorem fold_b (r : Option KS) : asB (resC (foldR r) 1 0) = r.isSome := by cases r <;> rfl
theorem storeOk_spec (k : KS) (l : List (List D)) (hek : ∀ r ∈ k.es, typL shEntry r) (hle : k.es.length ≤ 1048576) (h : ∀ r ∈ l, typL shRec r) (hl : l.length ≤ 1048576) :
    t22 k.t k.v k.si k.st k.sd k.es l = some ([.one (.b (storeV k l).isSome)], []) := by
  have ew : ∀ x, okR zr51 zo51 (some ([.one (.b x)], [])) = true := fun _ => rfl
  have eb : ∀ x, asB (resC (some ([.one (.b x)], [])) 0 0) = x := fun _ => rfl
  simp only [t22, keptOk_spec k.t k.v k.si k.st k.sd k.es hle hek, ew, eb, chk_true]
  unfold storeV
  cases hb : keptB k.t k.v k.si k.st k.sd k.es
  · simp
  · have hk : KI k := keptB_KI hek hb
    by_cases h80 : l.length ≤ 80
    · have e1 : decide ((l.length : Int) > 80) = false := by simp; omega
      simp only [e1, Bool.not_true, Bool.or_self, Bool.false_eq_true, if_false, fold_spec k l (l.length : Int) hk h hl l.length (by omega) (by (repeat' split) <;> omega), fold_w, fold_b, chk_true, h80, decide_true, Bool.and_self, if_true]
    · have e1 : decide ((l.length : Int) > 80) = true := by simp; omega
      simp only [e1, Bool.or_true, if_true, h80, decide_false, Bool.and_false, Bool.false_eq_true, if_false, Option.isSome_none]
theorem heldI_loop (n31 n32 n33 n34 : Int) (s35 : ByteArray) (l36 l37 : List (List D)) (b38 b39 : Bool) (n45 n46 n47 n48 : Int) (s49 : ByteArray)
    (q1 : Int → Bool → Bool → ByteArray → Int → Int → Int → Int → ByteArray → Int → Int → Int → Int → ByteArray → List (List D) → Rs) (q2 : Int → Bool → SV → Int → Int → Int → Int → ByteArray → List (List D) → Rs) (X : Rs) (F : KS → Rs)
    (h1 : ∀ a b c e f g h i j k l m n o, q1 a b c ⟨#[]⟩ e f g h i j k l m n o = X) (h2 : ∀ a b c (k : KS), q2 a b c k.t k.v k.si k.st k.sd k.es = F k)
    (l : List (List D)) (h : ∀ r ∈ l, typL shRec r) (hl : l.length ≤ 1048576) : ∀ (c i m : Nat) (k : KS) (u v : SV), KI k → i + c = l.length → c < m →
    l64o1 n31 n32 n33 n34 s35 l36 l37 b38 b39 l (l.length : Int) n45 n46 n47 n48 s49 q1 q2 m i u v k.t k.v k.si k.st k.sd k.es = (match foldN l c i k with | some K => F K | none => X) := by
  intro c
  induction c with
  | zero =>
    intro i m k u v _ e hm
    obtain ⟨m, rfl⟩ : ∃ m', m = m' + 1 := ⟨m - 1, by omega⟩
    have ei : decide ((i : Int) < (l.length : Int)) = false := by simp; omega
    simp only [l64o1, ei, Bool.false_eq_true, if_false, h2, foldN]
  | succ c ih =>
    intro i m k u v hk e hm
    obtain ⟨m, rfl⟩ : ∃ m', m = m' + 1 := ⟨m - 1, by omega⟩
    have e1 := nat_in (i := i) (n := l.length) (by omega)
    have ez := row_in h _ rec_row i (by omega)
    have ws : ∀ t v si st sd l b, okR zr58 zo58 (some ([.one (.b b)], [[.i .i64 t, .i .i64 v, .i .i64 si, .i .i64 st, .s sd, .l l]])) = true := fun _ _ _ _ _ _ _ => rfl
    have s1 := step_impl k hk (rcOf (l.getD i []))
    have hk2 := hk.step' (rcOf (l.getD i []))
    have ih' := ih (i + 1) m (stepK k (rcOf (l.getD i []))).1
    rcases hr : stepK k (rcOf (l.getD i [])) with ⟨⟨t, vv, si, st, sd, es⟩, b⟩
    rw [hr] at s1 hk2 ih'
    simp only [rcOf] at s1
    simp only [l64o1, e1, nat_pos, Int.toNat_natCast, ez, Bool.and_true, chk_true, if_true, foldN, hr]
    simp only [kD] at s1 hk2 ih'
    simp only [s1, ws, chk_true]
    simp only [resC, outC, nthR, nthO, cellsDV, nthD, asI, asS, asL, asB]
    cases b
    · simp only [Bool.not_false, if_true, h1, Bool.false_eq_true, if_false]
    · simp only [Bool.not_true, Bool.false_eq_true, if_false, if_true]
      rw [w64_succ i (by omega)]
      exact ih' _ _ hk2 (by omega) (by omega)
def heldR (r : Option KS) : Rs := match r with
  | some K => some ([.agg (kD K), .one (.b true)], [])
  | none => some ([.agg [.i .i64 0, .i .i64 0, .i .i64 0, .i .i64 0, .s ⟨#[]⟩, .l []], .one (.b false)], [])
theorem held_impl (k : KS) (l : List (List D)) (hek : ∀ r ∈ k.es, typL shEntry r) (hle : k.es.length ≤ 1048576) (h : ∀ r ∈ l, typL shRec r) (hl : l.length ≤ 1048576) :
    t64 k.t k.v k.si k.st k.sd k.es l = heldR (storeV k l) := by
  have ew : ∀ x, okR zr56 zo56 (some ([.one (.b x)], [])) = true := fun _ => rfl
  have eb : ∀ x, asB (resC (some ([.one (.b x)], [])) 0 0) = x := fun _ => rfl
  have wc : ∀ t v si st sd l, okR zr57 zo57 (some ([.agg [.i .i64 t, .i .i64 v, .i .i64 si, .i .i64 st, .s sd, .l l]], [])) = true := fun _ _ _ _ _ _ => rfl
  simp only [t64, keptOk_impl k.t k.v k.si k.st k.sd k.es hle hek, ew, eb, chk_true]
  unfold storeV
  cases hb : keptB k.t k.v k.si k.st k.sd k.es
  · simp only [Bool.not_false, Bool.true_or, if_true, Bool.false_and, Bool.false_eq_true, if_false, heldR]
  · have hk : KI k := keptB_KI hek hb
    by_cases h80 : l.length ≤ 80
    · have e1 : decide ((l.length : Int) > 80) = false := by simp; omega
      simp only [e1, Bool.not_true, Bool.or_self, Bool.false_eq_true, if_false, h80, decide_true, Bool.and_self, if_true, copyKept_eq k.t k.v k.si k.st k.sd k.es hek hle, wc, chk_true, resC, nthR, cellsDV, nthD, asI, asS, asL]
      refine (heldI_loop k.t k.v k.si k.st k.sd k.es l false false 0 0 0 0 ⟨#[]⟩ _ _ (heldR none) (fun K => heldR (some K)) (fun _ _ _ _ _ _ _ _ _ _ _ _ _ _ => rfl) (fun _ _ _ _ => rfl) l h hl l.length 0 KK k .undef .undef hk (by omega) (by rw [KK_eq]; omega)).trans ?_
      cases foldN l l.length 0 k <;> rfl
    · have e1 : decide ((l.length : Int) > 80) = true := by simp; omega
      simp only [e1, Bool.or_true, if_true, h80, decide_false, Bool.and_false, Bool.false_eq_true, if_false, heldR]
theorem held_w (r : Option KS) : okR zr64 zo64 (heldR r) = true := by cases r <;> rfl
theorem held_b (r : Option KS) : asB (resC (heldR r) 1 0) = r.isSome := by cases r <;> rfl
end Go.Den.L9

/- What is written into stores. -/
namespace Go.Den.L9
open Go
/-- c of the records from number i on are written behind L: what is there then, and how many came. -/
def writeN (l : List (List D)) : Nat → Nat → KS → List (List D) → List (List D) × Nat
  | 0, i, _, L => (L, i)
  | c + 1, i, k, L => if 80 ≤ L.length then (L, i) else if (stepK k (rcOf (l.getD i []))).2 then writeN l c (i + 1) (stepK k (rcOf (l.getD i []))).1 (L ++ [l.getD i []]) else (L, i)
theorem writeN_in (l : List (List D)) (h : ∀ r ∈ l, typL shRec r) : ∀ (c i : Nat) (k : KS) (L : List (List D)), i + c ≤ l.length → L.length ≤ 80 → (∀ r ∈ L, typL shRec r) → (writeN l c i k L).1.length ≤ 80 ∧ ∀ r ∈ (writeN l c i k L).1, typL shRec r
  | 0, i, k, L, _, h1, h2 => ⟨h1, h2⟩
  | c + 1, i, k, L, hi, h1, h2 => by
    simp only [writeN]
    split
    · exact ⟨h1, h2⟩
    · split
      · refine writeN_in l h c (i + 1) _ _ (by omega) (by simp; omega) (fun r hr => ?_)
        rcases List.mem_append.1 hr with hr | hr
        · exact h2 r hr
        · simp only [List.mem_singleton] at hr; subst hr; exact getD_row h (by omega)
      · exact ⟨h1, h2⟩
theorem writeN_take (l : List (List D)) (n : Nat) : ∀ (c i : Nat) (k : KS) (L : List (List D)), i + c ≤ n → writeN (l.take n) c i k L = writeN l c i k L
  | 0, _, _, _, _ => rfl
  | c + 1, i, k, L, h => by
    have e : (l.take n).getD i [] = l.getD i [] := by simp [List.getD, List.getElem?_take, show i < n by omega]
    simp only [writeN, e]
    split
    · rfl
    · split
      · exact writeN_take l n c (i + 1) _ _ (by omega)
      · rfl
theorem rec_eta {r : List D} (h : typL shRec r) : [D.i .i64 (asI (nthD r 0)), .i .i64 (asI (nthD r 1)), .i .i64 (asI (nthD r 2)), .i .i64 (asI (nthD r 3)), .s (asS (nthD r 4))] = r := by
  obtain ⟨a, b, c, d, e, rfl, _⟩ := Rec_row h; rfl
theorem rec_one {L : List (List D)} (hL : L.length ≤ 80) (a b c d : Int) (e : ByteArray) : ((flatR 5 [[D.i .i64 a, .i .i64 b, .i .i64 c, .i .i64 d, .s e]]) && decide (L.length + [[D.i .i64 a, .i .i64 b, .i .i64 c, .i .i64 d, .s e]].length ≤ lim)) = true := by
  have e2 : decide (L.length + [[D.i .i64 a, .i .i64 b, .i .i64 c, .i .i64 d, .s e]].length ≤ lim) = true := decide_eq_true (by unfold lim; simp; omega)
  rw [e2]; rfl
theorem rec_chk {L : List (List D)} {r : List D} (h : typL shRec r) (hL : L.length ≤ 80) : ((flatR 5 [r]) && decide (L.length + [r].length ≤ lim)) = true := by
  obtain ⟨a, b, c, d, e, rfl, _⟩ := Rec_row h
  exact rec_one hL a b c d e
theorem writeS_loop (l38 : List (List D)) (n39 n40 n46 n47 n48 n49 : Int) (s50 : ByteArray) (n51 n52 n53 n54 : Int) (s55 : ByteArray) (l61 : List (List D))
    (q1 : SV → Int → SV → Bool → Bool → SV → Int → Int → Int → Int → ByteArray → List (List D) → List (List D) → Rs) (q2 : SV → Int → Bool → Bool → Bool → Bool → Int → Int → Int → Int → ByteArray → Int → Int → Int → Int → ByteArray → List (List D) → List (List D) → Rs) (q3 : SV → Int → SV → Bool → SV → SV → Int → Int → Int → Int → ByteArray → List (List D) → List (List D) → Rs) (G : List (List D) → Int → Rs)
    (h1 : ∀ a b c d e f g h i j k l m, q1 a b c d e f g h i j k l m = G l b) (h2 : ∀ a b c d e f g h i j k l m n o p q r, q2 a b c d e f g h i j k l m n o p q r = G q b) (h3 : ∀ a b c d e f g h i j k l m, q3 a b c d e f g h i j k l m = G l (l38.length : Int))
    (h : ∀ r ∈ l38, typL shRec r) (hl : l38.length ≤ 1048576) (stop : Nat) (hs : stop ≤ l38.length) (hc : ∀ i : Nat, i < l38.length → (decide ((i : Int) ≥ n39)) = decide (stop ≤ i)) : ∀ (c i m : Nat) (k : KS) (L : List (List D)) (u v w x y : SV), KI k → L.length ≤ 80 → i + c = stop → c < m →
    l69o0 l38 n39 n40 n46 n47 n48 n49 s50 n51 n52 n53 n54 s55 l61 q1 q2 q3 m u i v w x y k.t k.v k.si k.st k.sd L k.es = G (writeN l38 c i k L).1 ((writeN l38 c i k L).2 : Int) := by
  intro c
  induction c with
  | zero =>
    intro i m k L u v w x y _ hL e hm
    obtain ⟨m, rfl⟩ : ∃ m', m = m' + 1 := ⟨m - 1, by omega⟩
    by_cases hi : i < l38.length
    · have e1 := nat_in hi
      have e2 : decide ((i : Int) ≥ n39) = true := by rw [hc i hi]; simp; omega
      simp only [l69o0, e1, e2, Bool.true_or, if_true, h1, writeN]
    · have e1 : decide ((i : Int) < (l38.length : Int)) = false := by simp; omega
      have e3 : l38.length = i := by omega
      simp only [l69o0, e1, Bool.false_eq_true, if_false, h3, writeN]
      rw [e3]
  | succ c ih =>
    intro i m k L u v w x y hk hL e hm
    obtain ⟨m, rfl⟩ : ∃ m', m = m' + 1 := ⟨m - 1, by omega⟩
    have hi : i < l38.length := by omega
    have e1 := nat_in hi
    have e2 : decide ((i : Int) ≥ n39) = false := by rw [hc i hi]; simp; omega
    have ez := row_in h _ rec_row i hi
    have ws : ∀ t v si st sd l b, okR zr52 zo52 (some ([.agg [.i .i64 t, .i .i64 v, .i .i64 si, .i .i64 st, .s sd, .l l], .one (.b b)], [])) = true := fun _ _ _ _ _ _ _ => rfl
    by_cases h80 : 80 ≤ L.length
    · have e3 : decide ((L.length : Int) ≥ 80) = true := by simp; omega
      simp only [l69o0, e1, e2, e3, Bool.or_true, if_true, h1, writeN, if_pos h80]
    · have e3 : decide ((L.length : Int) ≥ 80) = false := by simp; omega
      have s1 := step_spec k hk (rcOf (l38.getD i []))
      have hk2 := hk.step' (rcOf (l38.getD i []))
      have ih' := ih (i + 1) m (stepK k (rcOf (l38.getD i []))).1 (L ++ [l38.getD i []])
      rcases hr : stepK k (rcOf (l38.getD i [])) with ⟨⟨t, vv, si, st, sd, es⟩, b⟩
      rw [hr] at s1 hk2 ih'
      simp only [rcOf] at s1
      simp only [l69o0, e1, e2, e3, Bool.or_self, Bool.false_eq_true, if_true, if_false, nat_pos, Int.toNat_natCast, ez, Bool.and_true, chk_true, writeN, if_neg h80, hr]
      simp only [kD] at s1 hk2 ih'
      simp only [s1, ws, chk_true]
      simp only [resC, nthR, cellsDV]
      cases b
      · simp only [nthD, asB, Bool.not_false, if_true, h2, Bool.false_eq_true, if_false]
      · simp only [rec_eta (getD_row h hi), rec_chk (getD_row h hi) hL, chk_true]
        simp only [nthD, asI, asS, asL, asB, Bool.not_true, Bool.false_eq_true, if_false, if_true]
        rw [w64_succ i (by omega)]
        exact ih' _ _ _ _ _ hk2 (by simp; omega) (by omega) (by omega)
theorem writeI_loop (n51 n52 n53 n54 : Int) (s55 : ByteArray) (l56 l57 l58 : List (List D)) (n59 n60 : Int) (b61 b63 : Bool) (n69 n70 n71 n72 : Int) (s73 : ByteArray) (l74 l75 : List (List D)) (n76 n77 n78 n79 : Int) (s80 : ByteArray) (n86 n87 n88 n89 : Int) (s90 : ByteArray) (l92 : List (List D))
    (q1 : Int → Int → Bool → Bool → Int → Int → Int → Int → ByteArray → List (List D) → List (List D) → Rs) (q2 : Int → Int → Bool → SV → Int → Int → Int → Int → ByteArray → List (List D) → List (List D) → Rs) (G : List (List D) → Int → Rs)
    (h1 : ∀ a b c d e f g h i j k, q1 a b c d e f g h i j k = G k a) (h2 : ∀ a b c d e f g h i j k, q2 a b c d e f g h i j k = G k a)
    (l : List (List D)) (h : ∀ r ∈ l, typL shRec r) (hl : l.length ≤ 1048576) : ∀ (c i m : Nat) (k : KS) (L : List (List D)) (u v : SV), KI k → L.length ≤ 80 → i + c = l.length → c < m →
    l42o1 n51 n52 n53 n54 s55 l56 l57 l58 n59 n60 b61 b63 l (l.length : Int) n69 n70 n71 n72 s73 l74 l75 n76 n77 n78 n79 s80 n86 n87 n88 n89 s90 l92 q1 q2 m i i u v k.t k.v k.si k.st k.sd k.es L = G (writeN l c i k L).1 ((writeN l c i k L).2 : Int) := by
  intro c
  induction c with
  | zero =>
    intro i m k L u v _ hL e hm
    obtain ⟨m, rfl⟩ : ∃ m', m = m' + 1 := ⟨m - 1, by omega⟩
    have e1 : decide ((i : Int) < (l.length : Int)) = false := by simp; omega
    simp only [l42o1, e1, Bool.false_eq_true, if_false, h2, writeN]
  | succ c ih =>
    intro i m k L u v hk hL e hm
    obtain ⟨m, rfl⟩ : ∃ m', m = m' + 1 := ⟨m - 1, by omega⟩
    have hi : i < l.length := by omega
    have e1 := nat_in hi
    have ez := row_in h _ rec_row i hi
    have ws : ∀ t v si st sd l b, okR zr58 zo58 (some ([.one (.b b)], [[.i .i64 t, .i .i64 v, .i .i64 si, .i .i64 st, .s sd, .l l]])) = true := fun _ _ _ _ _ _ _ => rfl
    by_cases h80 : 80 ≤ L.length
    · have e3 : ((L.length : Int) == 80) = true := by rw [beq_iff_eq]; omega
      simp only [l42o1, e1, e3, nat_pos, Int.toNat_natCast, ez, Bool.and_true, chk_true, Bool.not_true, Bool.false_eq_true, if_true, if_false, h1, writeN, if_pos h80]
    · have e3 : ((L.length : Int) == 80) = false := by rw [beq_eq_false_iff_ne]; omega
      have s1 := step_impl k hk (rcOf (l.getD i []))
      have hk2 := hk.step' (rcOf (l.getD i []))
      have ih' := ih (i + 1) m (stepK k (rcOf (l.getD i []))).1 (L ++ [l.getD i []])
      rcases hr : stepK k (rcOf (l.getD i [])) with ⟨⟨t, vv, si, st, sd, es⟩, b⟩
      rw [hr] at s1 hk2 ih'
      simp only [rcOf] at s1
      simp only [l42o1, e1, e3, Bool.not_false, Bool.false_or, Bool.false_eq_true, if_true, if_false, nat_pos, Int.toNat_natCast, ez, Bool.and_true, chk_true, writeN, if_neg h80, hr]
      simp only [kD] at s1 hk2 ih'
      simp only [s1, ws, chk_true]
      simp only [resC, outC, nthR, nthO, cellsDV]
      cases b
      · simp only [nthD, asB, Bool.not_false, if_true, h1, Bool.false_eq_true, if_false]
      · simp only [rec_eta (getD_row h hi), rec_chk (getD_row h hi) hL, chk_true]
        simp only [nthD, asI, asS, asL, asB, Bool.not_true, Bool.false_eq_true, if_false, if_true]
        rw [w64_succ i (by omega)]
        exact ih' _ _ hk2 (by simp; omega) (by omega) (by omega)
theorem recs_flat {l : List (List D)} (h : ∀ r ∈ l, typL shRec r) (hl : l.length ≤ 1048576) : ((flatR 5 l) && decide (([] : List (List D)).length + l.length ≤ lim)) = true ∧ ((flatR 5 l) && decide (l.length ≤ lim)) = true := by
  have e : decide (l.length ≤ lim) = true := decide_eq_true (by unfold lim; omega)
  have e2 : decide (([] : List (List D)).length + l.length ≤ lim) = true := decide_eq_true (by unfold lim; simp; omega)
  rw [rec_flat h, e, e2]; exact ⟨rfl, rfl⟩
theorem l3CopyStore_eq (x1 x2 x3 x4 : Int) (x5 : ByteArray) (x6 x7 : List (List D)) (w6 : x6.length ≤ 1048576) (t6 : ∀ r ∈ x6, typL shEntry r) (w7 : x7.length ≤ 1048576) (t7 : ∀ r ∈ x7, typL shRec r) : t70 x1 x2 x3 x4 x5 x6 x7 = some ([.agg [.i .i64 x1, .i .i64 x2, .i .i64 x3, .i .i64 x4, .s x5, .l x6, .l x7]], []) := by
  have wc : ∀ t v si st sd l, okR zr53 zo53 (some ([.agg [.i .i64 t, .i .i64 v, .i .i64 si, .i .i64 st, .s sd, .l l]], [])) = true := fun _ _ _ _ _ _ => rfl
  simp only [t70, l3Copy_eq x1 x2 x3 x4 x5 x6 t6 w6, wc, (recs_flat t7 w7).1, chk_true, resC, nthR, cellsDV, nthD, asI, asS, asL, List.nil_append]
theorem copyStore_eq (x1 x2 x3 x4 : Int) (x5 : ByteArray) (x6 x7 : List (List D)) (w6 : x6.length ≤ 1048576) (t6 : ∀ r ∈ x6, typL shEntry r) (w7 : x7.length ≤ 1048576) (t7 : ∀ r ∈ x7, typL shRec r) : t71 x1 x2 x3 x4 x5 x6 x7 = some ([.agg [.i .i64 x1, .i .i64 x2, .i .i64 x3, .i .i64 x4, .s x5, .l x6, .l x7]], []) := by
  have wc : ∀ t v si st sd l, okR zr57 zo57 (some ([.agg [.i .i64 t, .i .i64 v, .i .i64 si, .i .i64 st, .s sd, .l l]], [])) = true := fun _ _ _ _ _ _ => rfl
  simp only [t71, copyKept_eq x1 x2 x3 x4 x5 x6 t6 w6, wc, (recs_flat t7 w7).2, chk_true, resC, nthR, cellsDV, nthD, asI, asS, asL]
theorem both_Write (x1 x2 x3 x4 : Int) (x5 : ByteArray) (x6 x7 x8 : List (List D)) (x9 : Int) (w5 : x5.size ≤ 1048576) (w6 : x6.length ≤ 1048576) (t6 : ∀ r ∈ x6, typL shEntry r) (s6 : ∀ r ∈ x6, szdL shEntry r) (w7 : x7.length ≤ 1048576) (t7 : ∀ r ∈ x7, typL shRec r) (s7 : ∀ r ∈ x7, szdL shRec r) (w8 : x8.length ≤ 1048576) (t8 : ∀ r ∈ x8, typL shRec r) (s8 : ∀ r ∈ x8, szdL shRec r) :
    ∃ r1 r2 r3 r4 r5 r6 r7 r8, t40 x1 x2 x3 x4 x5 x6 x7 x8 x9 = some ([.agg [.i .i64 r1, .i .i64 r2, .i .i64 r3, .i .i64 r4, .s r5, .l r6, .l r7], .one (.i .i64 r8)], []) ∧ t42 x1 x2 x3 x4 x5 x6 x7 x8 x9 = some ([.agg [.i .i64 r1, .i .i64 r2, .i .i64 r3, .i .i64 r4, .s r5, .l r6, .l r7], .one (.i .i64 r8)], []) ∧ r6.length ≤ 1048576 ∧ (∀ r ∈ r6, typL shEntry r) ∧ r7.length ≤ 1048576 ∧ (∀ r ∈ r7, typL shRec r) ∧ True := by
  have ew : ∀ x, okR zr22 zo22 (some ([.one (.b x)], [])) = true := fun _ => rfl
  have eb : ∀ x, asB (resC (some ([.one (.b x)], [])) 0 0) = x := fun _ => rfl
  have wc : ∀ t v si st sd l m, okR zr70 zo70 (some ([.agg [.i .i64 t, .i .i64 v, .i .i64 si, .i .i64 st, .s sd, .l l, .l m]], [])) = true := fun _ _ _ _ _ _ _ => rfl
  have wc2 : ∀ t v si st sd l m, okR zr71 zo71 (some ([.agg [.i .i64 t, .i .i64 v, .i .i64 si, .i .i64 st, .s sd, .l l, .l m]], [])) = true := fun _ _ _ _ _ _ _ => rfl
  have ww : ∀ t v si st sd l m n, okR zr69 zo69 (some ([.agg [.i .i64 t, .i .i64 v, .i .i64 si, .i .i64 st, .s sd, .l l, .l m], .one (.i .i64 n)], [])) = true := fun _ _ _ _ _ _ _ _ => rfl
  have hS := storeOk_spec ⟨x1, x2, x3, x4, x5, x6⟩ x7 t6 w6 t7 w7
  have hI := held_impl ⟨x1, x2, x3, x4, x5, x6⟩ x7 t6 w6 t7 w7
  simp only at hS hI
  cases hv : storeV ⟨x1, x2, x3, x4, x5, x6⟩ x7 with
  | none =>
    rw [hv] at hS hI
    refine ⟨0, 0, 0, 0, ⟨#[]⟩, [], [], 0, ?_, ?_, by simp, by simp, by simp, by simp, trivial⟩
    · simp only [t40, hS, ew, eb, chk_true, Option.isSome_none, Bool.not_false, if_true]
    · simp only [t42, hI, held_w, held_b, chk_true, Option.isSome_none, Bool.not_false, if_true]
  | some K =>
    rw [hv] at hS hI
    obtain ⟨hk, hK, h80⟩ := storeV_KI t6 hv
    obtain ⟨K', hf, hv'⟩ := storeV_part hv x7.length (by omega)
    rw [List.take_length, hv] at hv'
    cases hv'
    have hF := fold_spec ⟨x1, x2, x3, x4, x5, x6⟩ x7 (x7.length : Int) hk t7 w7 x7.length (by omega) (by (repeat' split) <;> omega)
    rw [hf] at hF
    simp only at hF
    obtain ⟨stop, hstop⟩ : ∃ stop : Nat, (stop : Int) = if x9 ≤ 0 then 0 else if x9 ≤ (x8.length : Int) then x9 else (x8.length : Int) := ⟨(if x9 ≤ 0 then 0 else if x9 ≤ (x8.length : Int) then x9 else (x8.length : Int)).toNat, by (repeat' split) <;> omega⟩
    have hle : stop ≤ x8.length := by split at hstop <;> (try split at hstop) <;> omega
    have hc : ∀ i : Nat, i < x8.length → (decide ((i : Int) ≥ x9)) = decide (stop ≤ i) := fun i hi => by
      rw [Bool.eq_iff_iff]; simp only [decide_eq_true_eq]; split at hstop <;> (try split at hstop) <;> omega
    have e4 : (if (if (x8.length : Int) < x9 then (x8.length : Int) else x9) > 0 then (if (x8.length : Int) < x9 then (x8.length : Int) else x9) else 0) = (stop : Int) := by
      rw [hstop]; (repeat' split) <;> omega
    have e5 : decide (0 ≤ (0 : Int) ∧ (0 : Int) ≤ (stop : Int) ∧ (stop : Int) ≤ (x8.length : Int) ∧ (x8.getD 0 z38).length = z38.length) = true := by
      refine decide_eq_true ⟨by omega, by omega, by omega, ?_⟩
      cases hes : x8 with
      | nil => rfl
      | cons x xs =>
        obtain ⟨a, b, c, d, e, rfl, _⟩ := Rec_row (t8 x (by rw [hes]; simp))
        rfl
    have htl : (x8.take stop).length = stop := by simp; omega
    obtain ⟨hW1, hW2⟩ := writeN_in x8 t8 stop 0 K x7 (by omega) h80 t7
    refine ⟨x1, x2, x3, x4, x5, x6, (writeN x8 stop 0 K x7).1, ((writeN x8 stop 0 K x7).2 : Int), ?_, ?_, w6, t6, by omega, hW2, trivial⟩
    · simp only [t40, hS, ew, eb, chk_true, Option.isSome_some, Bool.not_true, Bool.false_eq_true, if_false, l3CopyStore_eq x1 x2 x3 x4 x5 x6 x7 w6 t6 w7 t7, wc]
      have key : t69 x1 x2 x3 x4 x5 x6 x7 x8 x9 = some ([.agg [.i .i64 x1, .i .i64 x2, .i .i64 x3, .i .i64 x4, .s x5, .l x6, .l (writeN x8 stop 0 K x7).1], .one (.i .i64 ((writeN x8 stop 0 K x7).2 : Int))], []) := by
        unfold t69
        simp only [hF, fold_w, fold_b, Option.isSome_some, Bool.and_self, chk_true]
        exact writeS_loop x8 x9 0 x1 x2 x3 x4 x5 0 0 0 0 ⟨#[]⟩ x6 _ _ _ (fun L n => some ([.agg [.i .i64 x1, .i .i64 x2, .i .i64 x3, .i .i64 x4, .s x5, .l x6, .l L], .one (.i .i64 n)], [])) (fun _ _ _ _ _ _ _ _ _ _ _ _ _ => rfl) (fun _ _ _ _ _ _ _ _ _ _ _ _ _ _ _ _ _ _ => rfl) (fun _ _ _ _ _ _ _ _ _ _ _ _ _ => rfl) t8 w8 stop hle hc stop 0 KK K x7 _ _ _ _ _ hK h80 (by omega) (by rw [KK_eq]; omega)
      simp only [resC, nthR, cellsDV, nthD, asI, asS, asL, key, ww, chk_true]
    · simp only [t42, hI, held_w, held_b, chk_true, Option.isSome_some, Bool.not_true, Bool.false_eq_true, if_false, copyStore_eq x1 x2 x3 x4 x5 x6 x7 w6 t6 w7 t7, wc2, e4, e5, Int.toNat_natCast, show (0 : Int).toNat = 0 from rfl, List.drop_zero]
      refine (writeI_loop x1 x2 x3 x4 x5 x6 x7 x8 x9 0 true false x1 x2 x3 x4 x5 x6 x7 0 0 0 0 ⟨#[]⟩ x1 x2 x3 x4 x5 x6 _ _ (fun L n => some ([.agg [.i .i64 x1, .i .i64 x2, .i .i64 x3, .i .i64 x4, .s x5, .l x6, .l L], .one (.i .i64 n)], [])) (fun _ _ _ _ _ _ _ _ _ _ _ => rfl) (fun _ _ _ _ _ _ _ _ _ _ _ => rfl) (x8.take stop) (fun r hr => t8 r (List.mem_of_mem_take hr)) (by omega) stop 0 KK K x7 _ _ hK h80 (by omega) (by rw [KK_eq]; omega)).trans ?_
      rw [writeN_take x8 stop stop 0 K x7 (by omega)]
end Go.Den.L9

/- The law FnExactWrite. Printed by lawgen.py. -/
namespace Go.Den.L9
open Go
theorem law9 (x1 : Int) (x2 : Int) (x3 : Int) (x4 : Int) (x5 : ByteArray) (wx5 : x5.size ≤ maxLen) (x6 : List (List D)) (wx6 : x6.length ≤ maxLen) (tx6 : ∀ r ∈ x6, typL shEntry r) (x7 : List (List D)) (wx7 : x7.length ≤ maxLen) (tx7 : ∀ r ∈ x7, typL shRec r) (x8 : List (List D)) (wx8 : x8.length ≤ maxLen) (tx8 : ∀ r ∈ x8, typL shRec r) (x9 : Int) : t9 x1 x2 x3 x4 x5 x6 x7 x8 x9 = some ([.one (.b true)], []) := by
  obtain ⟨y1, e1, a1, z1⟩ := szStore_ok x1 x2 x3 x4 x5 x6 x7 wx5 wx6 tx6 wx7 tx7 1048576 (by omega) (by omega)
  by_cases n1 : y1 < 0
  · simp only [t9, e1, n1, zr21, zo21, zr23, zo23, zr25, zo25, zr28, zo28, zr29, zo29, zr33, zo33, zr36, zo36, zr39, zo39, zr40, zo40, zr41, zo41, zr42, zo42, okR, isVs, isV, isD, isDs, isOs, resC, outC, nthR, nthO, cellsDV, nthD, asB, asI, asS, asL, Bool.and_true, Bool.true_and, Bool.true_or, BEq.rfl, chk_true, bne_self_eq_false, Bool.not_true, Bool.not_false, Bool.or_self, Bool.or_false, Bool.false_or, decide_true, decide_false, Bool.false_eq_true, if_false, if_true]
  have u1 := z1 (by omega)
  have sx5 : x5.size ≤ 1048576 := u1.2.2.2.2.1
  have sx6 := u1.2.2.2.2.2.1
  have sx7 := u1.2.2.2.2.2.2.1
  obtain ⟨y2, e2, a2, z2⟩ := szRecS_ok x8 wx8 tx8 (y1) (by omega) (by omega)
  by_cases n2 : y2 < 0
  · simp only [t9, e1, n1, e2, n2, zr21, zo21, zr23, zo23, zr25, zo25, zr28, zo28, zr29, zo29, zr33, zo33, zr36, zo36, zr39, zo39, zr40, zo40, zr41, zo41, zr42, zo42, okR, isVs, isV, isD, isDs, isOs, resC, outC, nthR, nthO, cellsDV, nthD, asB, asI, asS, asL, Bool.and_true, Bool.true_and, Bool.true_or, BEq.rfl, chk_true, bne_self_eq_false, Bool.not_true, Bool.not_false, Bool.or_self, Bool.or_false, Bool.false_or, decide_true, decide_false, Bool.false_eq_true, if_false, if_true]
  have u2 := z2 (by omega)
  have sx8 := u2
  have qx6 : x6.length ≤ 1048576 := sx6.1
  have qx7 : x7.length ≤ 1048576 := sx7.1
  have qx8 : x8.length ≤ 1048576 := sx8.1
  obtain ⟨r1, r2, r3, r4, r5, r6, r7, r8, k1, k2, qr6, tr6, qr7, tr7, _⟩ := both_Write x1 x2 x3 x4 x5 x6 x7 x8 x9 sx5 sx6.1 tx6 sx6.2 sx7.1 tx7 sx7.2 sx8.1 tx8 sx8.2
  have mx6 : ∀ r ∈ x6, r.length = 2 := fun r hr => typL_len _ r (tx6 r hr)
  have mx7 : ∀ r ∈ x7, r.length = 5 := fun r hr => typL_len _ r (tx7 r hr)
  have mx8 : ∀ r ∈ x8, r.length = 5 := fun r hr => typL_len _ r (tx8 r hr)
  have mr6 : ∀ r ∈ r6, r.length = 2 := fun r hr => typL_len _ r (tr6 r hr)
  have mr7 : ∀ r ∈ r7, r.length = 5 := fun r hr => typL_len _ r (tr7 r hr)
  have f1 := markStore_eq x1 x2 x3 x4 x5 x6 x7 mx6 qx6 mx7 qx7 (1) (by omega) (by omega)
  have f2 : decide (1 + 2 * (x6.length : Int) + 5 * (x7.length : Int) < 0) = false := decide_eq_false (by omega)
  have f3 := markRecS_eq x8 mx8 (by omega) (1 + 2 * (x6.length : Int) + 5 * (x7.length : Int)) (by omega) (by omega)
  have f4 : decide (1 + 2 * (x6.length : Int) + 5 * (x7.length : Int) + 5 * (x8.length : Int) < 0) = false := decide_eq_false (by omega)
  have f5 := markStore_eq r1 r2 r3 r4 r5 r6 r7 mr6 qr6 mr7 qr7 (1) (by omega) (by omega)
  have f6 : decide (1 + 2 * (r6.length : Int) + 5 * (r7.length : Int) < 0) = false := decide_eq_false (by omega)
  have f7 := heldStore_eq r1 r2 r3 r4 r5 r6 r7 mr6 qr6 mr7 qr7 (1) (by omega) (by omega)
  have f8 : decide (1 + 2 * (r6.length : Int) + 5 * (r7.length : Int) < 0) = false := decide_eq_false (by omega)
  simp only [t9, e1, n1, e2, n2, toStore_eq x1 x2 x3 x4 x5 x6 x7 sx6.1 tx6 sx6.2 sx7.1 tx7 sx7.2, toRecS_eq x8 sx8.1 tx8 sx8.2, k1, k2, eqStore_self r1 r2 r3 r4 r5 r6 r7 qr6 tr6 qr7 tr7, eqStore_self x1 x2 x3 x4 x5 x6 x7 qx6 tx6 qx7 tx7, eqRecS_self x8 qx8 tx8, f1, f2, f3, f4, f5, f6, f7, f8, zr21, zo21, zr23, zo23, zr25, zo25, zr28, zo28, zr29, zo29, zr33, zo33, zr36, zo36, zr39, zo39, zr40, zo40, zr41, zo41, zr42, zo42, okR, isVs, isV, isD, isDs, isOs, resC, outC, nthR, nthO, cellsDV, nthD, asB, asI, asS, asL, Bool.and_true, Bool.true_and, Bool.true_or, BEq.rfl, chk_true, bne_self_eq_false, Bool.not_true, Bool.not_false, Bool.or_self, Bool.or_false, Bool.false_or, decide_true, decide_false, Bool.false_eq_true, if_false, if_true]
end Go.Den.L9
