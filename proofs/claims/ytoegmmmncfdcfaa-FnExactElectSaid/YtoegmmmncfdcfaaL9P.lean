/- Plain laws about what the functions compute; no condition. -/
import Derived.Test.YtoegmmmncfdcfaaL9Tw
import Derived.IntWalk
set_option linter.unusedVariables false
set_option linter.unusedSimpArgs false
/- How twins are taken apart. -/
namespace Go.Den.L9
open Go Go.IntWalk
theorem chk_true (x : Rs) : chk true x = x := rfl
theorem chk_ok {b : Bool} (h : b = true) (x : Rs) : chk b x = x := by rw [h]; rfl
attribute [simp] chk_true okR isVs isV isD isDs isOs resC outC nthR nthO cellsDV nthD asB asI asS asL
theorem ite_not {α : Type} (a b : Bool) (h : a = !b) (x y : α) : (if a = true then x else y) = (if b = true then y else x) := by
  subst h; cases b <;> rfl
theorem bool_some (a b : Bool) (h : a = b) : (some ([DV.one (.b a)], ([] : List (List D))) : Rs) = some ([.one (.b b)], []) := by rw [h]
theorem nil_toList : (⟨#[]⟩ : ByteArray).toList = [] := by rw [ByteArray.toList_eq]
theorem toList_nil (s : ByteArray) : s.toList = [] ↔ (s.size : Int) = 0 := by
  have e : s.size = s.data.toList.length := by rw [Array.length_toList]; rfl
  rw [ByteArray.toList_eq, e]
  cases s.data.toList <;> simp <;> omega
theorem toList_isEmpty (s : ByteArray) : s.toList.isEmpty = decide ((s.size : Int) = 0) := by
  rw [Bool.eq_iff_iff, List.isEmpty_iff, toList_nil]; simp
attribute [simp] nil_toList toList_nil toList_isEmpty
theorem KK_eq : KK = 18446744073709551616 := Classical.choose_spec (⟨2 ^ 64, rfl⟩ : ∃ n : Nat, n = 2 ^ 64)
theorem w64_in (n : Int) (h : -9223372036854775808 ≤ n ∧ n ≤ 9223372036854775807) : w64 n = n := i64_in n h
theorem getD_in {l : List (List D)} {i : Nat} (hi : i < l.length) : l.getD i [] = l[i] := by simp [List.getD, hi]
theorem getD_row {l : List (List D)} {es : List Sh} (h : ∀ r ∈ l, typL es r) {i : Nat} (hi : i < l.length) : typL es (l.getD i []) := by
  rw [getD_in hi]; exact h _ (List.getElem_mem hi)
theorem w64_succ (i : Nat) (h : i < 4611686018427387904) : w64 ((i : Int) + 1) = ((i + 1 : Nat) : Int) := by
  rw [w64_in _ (by omega)]; rfl
theorem within_eq (a b c : Int) : t46 a b c = some ([.one (.b (decide (b ≤ a) && decide (a ≤ c)))], []) := rfl
theorem in_eq (a b c : Int) : t39 a b c = some ([.one (.b (decide (b ≤ a) && decide (a ≤ c)))], []) := rfl
end Go.Den.L9

/- Sizes; copies of rows. -/
namespace Go.Den.L9
open Go
mutual
/-- What was found small enough. -/
def szdD : Sh → D → Prop
  | .b, _ => True
  | .i _, _ => True
  | .s, d => (asS d).size ≤ 1048576
  | .l es, d => (asL d).length ≤ 1048576 ∧ ∀ r ∈ asL d, szdL es r
def szdL : List Sh → List D → Prop
  | [], _ => True
  | e :: es, ds => szdD e (nthD ds 0) ∧ szdL es ds.tail
end
theorem mem_getD {l : List (List D)} {i : Nat} (h : i < l.length) : l.getD i [] ∈ l := by rw [getD_in h]; exact List.getElem_mem h
theorem all_getD {l : List (List D)} {P : List D → Prop} (h : ∀ j, j < l.length → P (l.getD j [])) : ∀ r ∈ l, P r := by
  intro r hr
  obtain ⟨j, hj, rfl⟩ := List.mem_iff_getElem.1 hr
  rw [← getD_in hj]; exact h j hj
theorem nat_in {i n : Nat} (h : i < n) : decide ((i : Int) < (n : Int)) = true := by simp; omega
theorem nat_pos (i : Nat) : decide ((0 : Int) ≤ (i : Int)) = true := by simp
theorem modify_mid {α : Type} (f : α → α) : ∀ (a : List α) (x : α) (b : List α), (a ++ x :: b).modify a.length f = a ++ f x :: b
  | [], x, b => by simp
  | y :: a, x, b => by simp [modify_mid f a x b]
theorem stR_at (l : List (List D)) (i k : Nat) (z ys : List D) (hz : z.length ≤ ys.length) (e : i + (k + 1) = l.length) (hy : l.getD i [] = ys) : stR (l.take i ++ List.replicate (k + 1) z) i 0 ys = l.take (i + 1) ++ List.replicate k z := by
  have hi : i < l.length := by omega
  rw [getD_in hi] at hy
  have hl : (l.take i).length = i := by simp; omega
  have key := modify_mid (fun r => r.take 0 ++ ys ++ r.drop (0 + ys.length)) (l.take i) z (List.replicate k z)
  rw [hl] at key
  unfold stR
  rw [List.replicate_succ, key, List.take_succ_eq_append_getElem hi, hy]
  simp [List.drop_eq_nil_of_le hz]
end Go.Den.L9

/- Types Snap Entry EntryS Kept Rec RecS Store Dirent DirentS Inode InodeS Vol IntS Cred Call Result Note NoteS Session SessionS Tenant TenantS Slot SlotS Msg MsgS Core: sizes, copies, likeness (printed by fam.py). -/
namespace Go.Den.L9
open Go
abbrev shSnap : List Sh := [.i .i64, .i .i64, .s]
theorem Snap_row {r : List D} (h : typL shSnap r) : ∃ x1 x2 x3, r = [.i .i64 x1, .i .i64 x2, .s x3] ∧ x3.size ≤ maxLen := by
  obtain ⟨_, _, rfl, ⟨x1, rfl, _⟩, ⟨_, _, rfl, ⟨x2, rfl, _⟩, ⟨_, _, rfl, ⟨x3, rfl, wx3⟩, rfl⟩⟩⟩ := h
  exact ⟨x1, x2, x3, rfl, wx3⟩
abbrev shEntry : List Sh := [.i .i64, .s]
theorem Entry_row {r : List D} (h : typL shEntry r) : ∃ x1 x2, r = [.i .i64 x1, .s x2] ∧ x2.size ≤ maxLen := by
  obtain ⟨_, _, rfl, ⟨x1, rfl, _⟩, ⟨_, _, rfl, ⟨x2, rfl, wx2⟩, rfl⟩⟩ := h
  exact ⟨x1, x2, rfl, wx2⟩
theorem szEntry_ok (x1 : Int) (x2 : ByteArray) (wx2 : x2.size ≤ maxLen) (n : Int) (h0 : 0 ≤ n) (h1 : n ≤ 1048576) : ∃ y, t73 x1 x2 n = some ([.one (.i .i64 y)], []) ∧ y ≤ n ∧ (0 ≤ y → szdL shEntry [.i .i64 x1, .s x2]) := by
  simp only [t73]
  have e1 : w64 (n - (x2.size : Int)) = n - (x2.size : Int) := w64_in _ (by simp only [maxLen] at wx2; omega)
  simp only [e1]
  by_cases g1 : (n - (x2.size : Int)) < 0
  · exact ⟨-1, by simp only [g1, decide_true, if_true, chk_true], by omega, by omega⟩
  simp only [g1, decide_false, Bool.false_eq_true, if_false, chk_true]
  exact ⟨_, rfl, by omega, fun _ => ⟨trivial, (by omega : x2.size ≤ 1048576), trivial⟩⟩
theorem toEntry_eq (x1 : Int) (x2 : ByteArray)  : t75 x1 x2 = some ([.agg [.i .i64 x1, .s x2]], []) := rfl
theorem eqEntry_self (x1 : Int) (x2 : ByteArray)  : t78 x1 x2 x1 x2 = some ([.one (.b true)], []) := by
  simp only [t78, bne_self_eq_false, Bool.not_true, Bool.false_eq_true, if_false, okR, isVs, isV, isD, isDs, isOs, resC, outC, nthR, nthO, cellsDV, nthD, asB, asI, asS, asL, Bool.and_true, Bool.true_and, BEq.rfl, chk_true, decide_true]
theorem szEntryS_loop (n0 : Int) (b0 : Bool) (q1 : Int → Int → Bool → Bool → Rs) (q2 : Int → Int → Bool → SV → Rs) (h1 : ∀ a b c d, q1 a b c d = some ([.one (.i .i64 (-1))], [])) (h2 : ∀ a b c d, q2 a b c d = some ([.one (.i .i64 a)], []))
    (l : List (List D)) (h : ∀ r ∈ l, typL shEntry r) (hl : l.length < 4611686018427387904) : ∀ (k i m : Nat) (n : Int) (v w : SV), i + k = l.length → k < m → 0 ≤ n → n ≤ 1048576 → ∃ y, l37o1 l n0 b0 q1 q2 m n i v w = some ([.one (.i .i64 y)], []) ∧ y ≤ n ∧ (0 ≤ y → ∀ j, i ≤ j → j < l.length → szdL shEntry (l.getD j [])) := by
  intro k
  induction k with
  | zero =>
    intro i m n v w e hm g0 g1
    obtain ⟨m, rfl⟩ : ∃ m', m = m' + 1 := ⟨m - 1, by omega⟩
    have ei : decide ((i : Int) < (l.length : Int)) = false := by simp; omega
    refine ⟨n, ?_, by omega, by omega⟩
    simp only [l37o1, ei, h2, Bool.false_eq_true, if_false]
  | succ k ih =>
    intro i m n v w e hm g0 g1
    obtain ⟨m, rfl⟩ : ∃ m', m = m' + 1 := ⟨m - 1, by omega⟩
    have hr := getD_row h (i := i) (by omega)
    obtain ⟨c1, c2, er, wc2⟩ := Entry_row hr
    obtain ⟨z, hz, hzn, hzo⟩ := szEntry_ok c1 c2 wc2 n g0 g1
    have e1 : decide ((i : Int) < (l.length : Int)) = true := by simp; omega
    have e2 : decide ((0 : Int) ≤ (i : Int)) = true := by simp
    have ez : isRow z90 [.i .i64 c1, .s c2] = true := rfl
    have ew : okR zr73 zo73 (some ([.one (.i .i64 z)], [])) = true := rfl
    simp only [l37o1, e1, e2, Int.toNat_natCast, er, ez, nthD, asI, asS, asB, asL, hz, resC, nthR, cellsDV, ew, Bool.and_true, chk_true, if_true]
    by_cases g : z < 0
    · exact ⟨-1, by simp only [g, decide_true, if_true, h1], by omega, by omega⟩
    · simp only [g, decide_false, Bool.false_eq_true, if_false]
      rw [w64_succ i (by omega)]
      obtain ⟨y, ey, hy1, hy2⟩ := ih (i + 1) m z (.d (.b true)) (.d (.b false)) (by omega) (by omega) (by omega) (by omega)
      refine ⟨y, ey, by omega, fun hy j hj1 hj2 => ?_⟩
      by_cases hj : j = i
      · subst hj; rw [er]; exact hzo (by omega)
      · exact hy2 hy j (by omega) hj2
theorem szEntryS_ok (l : List (List D)) (hl : l.length ≤ maxLen) (h : ∀ r ∈ l, typL shEntry r) (n : Int) (h0 : 0 ≤ n) (h1 : n ≤ 1048576) : ∃ y, t37 l n = some ([.one (.i .i64 y)], []) ∧ y ≤ n ∧ (0 ≤ y → l.length ≤ 1048576 ∧ ∀ r ∈ l, szdL shEntry r) := by
  have e : w64 (n - (l.length : Int)) = n - (l.length : Int) := w64_in _ (by simp only [maxLen] at hl; omega)
  simp only [t37, e]
  by_cases g : n - (l.length : Int) < 0
  · exact ⟨-1, by simp only [g, decide_true, if_true], by omega, by omega⟩
  · simp only [g, decide_false, Bool.false_eq_true, if_false]
    obtain ⟨y, ey, hy1, hy2⟩ := szEntryS_loop 0 false (fun _ _ _ _ => some ([.one (.i .i64 (-1))], [])) (fun a _ _ _ => some ([.one (.i .i64 a)], [])) (fun _ _ _ _ => rfl) (fun _ _ _ _ => rfl) l h (by omega) l.length 0 KK (n - (l.length : Int)) .undef .undef (by omega) (by rw [KK_eq]; omega) (by omega) (by omega)
    refine ⟨y, ey, by omega, fun hy => ⟨by omega, all_getD (fun j hj => hy2 hy j (by omega) hj)⟩⟩
theorem toEntryS_loop (q : Int → Bool → List (List D) → Rs) (l : List (List D)) (h : ∀ r ∈ l, typL shEntry r) (hs : ∀ r ∈ l, szdL shEntry r) (hl : l.length < 4611686018427387904) : ∀ (k i m : Nat) (v : SV), i + k = l.length → k < m →
    l44o0 l q m i v (l.take i ++ List.replicate k z92) = q l.length false l := by
  intro k
  induction k with
  | zero =>
    intro i m v e hm
    obtain ⟨m, rfl⟩ : ∃ m', m = m' + 1 := ⟨m - 1, by omega⟩
    have ei : decide ((i : Int) < (l.length : Int)) = false := by simp; omega
    have e0 : i = l.length := by omega
    simp only [l44o0, ei, e0]
    simp
  | succ k ih =>
    intro i m v e hm
    obtain ⟨m, rfl⟩ : ∃ m', m = m' + 1 := ⟨m - 1, by omega⟩
    have hr := getD_row h (i := i) (by omega)
    obtain ⟨c1, c2, er, wc2⟩ := Entry_row hr
    have e1 : decide ((i : Int) < (l.length : Int)) = true := by simp; omega
    have e2 : decide ((0 : Int) ≤ (i : Int)) = true := by simp
    have e3 : decide ((i : Int) < ((l.take i ++ List.replicate (k + 1) z92).length : Int)) = true := by simp; omega
    have e4 : decide (2 ≤ 2 ∧ i < (l.take i ++ List.replicate (k + 1) z92).length) = true := by simp; omega
    have ez : isRow z90 [.i .i64 c1, .s c2] = true := rfl
    have ew : okR zr75 zo75 (some ([.agg [.i .i64 c1, .s c2]], [])) = true := rfl
    simp only [l44o0, e1, e2, Int.toNat_natCast, er, ez, nthD, asI, asS, asB, asL, toEntry_eq c1 c2, resC, nthR, cellsDV, ew, e3, e4, Bool.and_true, chk_true, if_true]
    rw [stR_at l i k _ _ (by simp [z92]) e er, w64_succ i (by omega)]
    exact ih (i + 1) m _ (by omega) (by omega)
theorem toEntryS_eq (l : List (List D)) (hl : l.length ≤ 1048576) (h : ∀ r ∈ l, typL shEntry r) (hs : ∀ r ∈ l, szdL shEntry r) : t44 l = some ([.one (.l l)], []) := by
  unfold t44
  have e1 : l.length ≤ lim := by unfold lim; omega
  have := toEntryS_loop (fun _ _ l => some ([.one (.l l)], [])) l h hs (by omega) l.length 0 KK .undef (by omega) (by rw [KK_eq]; omega)
  simpa [e1] using this
theorem eqEntryS_loop (b0 b1 : Bool) (q1 : Int → Bool → Bool → Rs) (q2 : Int → Bool → SV → Rs) (h2 : ∀ a b c, q2 a b c = some ([.one (.b true)], [])) (l : List (List D)) (h : ∀ r ∈ l, typL shEntry r) (hl : l.length < 4611686018427387904) : ∀ (k i m : Nat) (v w : SV), i + k = l.length → k < m →
    l52o1 l l b0 b1 q1 q2 m i v w = some ([.one (.b true)], []) := by
  intro k
  induction k with
  | zero =>
    intro i m v w e hm
    obtain ⟨m, rfl⟩ : ∃ m', m = m' + 1 := ⟨m - 1, by omega⟩
    have ei : decide ((i : Int) < (l.length : Int)) = false := by simp; omega
    simp only [l52o1, ei, h2]
    simp
  | succ k ih =>
    intro i m v w e hm
    obtain ⟨m, rfl⟩ : ∃ m', m = m' + 1 := ⟨m - 1, by omega⟩
    have hr := getD_row h (i := i) (by omega)
    obtain ⟨c1, c2, er, wc2⟩ := Entry_row hr
    have e1 : decide ((i : Int) < (l.length : Int)) = true := by simp; omega
    have e2 : decide ((0 : Int) ≤ (i : Int)) = true := by simp
    have ez : isRow z92 [.i .i64 c1, .s c2] = true := rfl
    have ew : okR zr78 zo78 (some ([.one (.b true)], [])) = true := rfl
    simp only [l52o1, e1, e2, Int.toNat_natCast, er, ez, nthD, asI, asS, asB, asL, eqEntry_self c1 c2, resC, nthR, cellsDV, ew, Bool.and_true, chk_true, if_true, Bool.not_true, Bool.false_eq_true, if_false]
    rw [w64_succ i (by omega)]
    exact ih (i + 1) m _ _ (by omega) (by omega)
theorem eqEntryS_self (l : List (List D)) (hl : l.length ≤ 1048576) (h : ∀ r ∈ l, typL shEntry r) : t52 l l = some ([.one (.b true)], []) := by
  have := eqEntryS_loop false false (fun _ _ _ => some ([.one (.b false)], [])) (fun _ _ _ => some ([.one (.b true)], [])) (fun _ _ _ => rfl) l h (by omega) l.length 0 KK .undef .undef (by omega) (by rw [KK_eq]; omega)
  simpa [t52] using this
abbrev shKept : List Sh := [.i .i64, .i .i64, .i .i64, .i .i64, .s, .l [.i .i64, .s]]
theorem Kept_row {r : List D} (h : typL shKept r) : ∃ x1 x2 x3 x4 x5 x6, r = [.i .i64 x1, .i .i64 x2, .i .i64 x3, .i .i64 x4, .s x5, .l x6] ∧ x5.size ≤ maxLen ∧ x6.length ≤ maxLen ∧ (∀ r ∈ x6, typL shEntry r) := by
  obtain ⟨_, _, rfl, ⟨x1, rfl, _⟩, ⟨_, _, rfl, ⟨x2, rfl, _⟩, ⟨_, _, rfl, ⟨x3, rfl, _⟩, ⟨_, _, rfl, ⟨x4, rfl, _⟩, ⟨_, _, rfl, ⟨x5, rfl, wx5⟩, ⟨_, _, rfl, ⟨x6, rfl, wx6, tx6⟩, rfl⟩⟩⟩⟩⟩⟩ := h
  exact ⟨x1, x2, x3, x4, x5, x6, rfl, wx5, wx6, tx6⟩
abbrev shRec : List Sh := [.i .i64, .i .i64, .i .i64, .i .i64, .s]
theorem Rec_row {r : List D} (h : typL shRec r) : ∃ x1 x2 x3 x4 x5, r = [.i .i64 x1, .i .i64 x2, .i .i64 x3, .i .i64 x4, .s x5] ∧ x5.size ≤ maxLen := by
  obtain ⟨_, _, rfl, ⟨x1, rfl, _⟩, ⟨_, _, rfl, ⟨x2, rfl, _⟩, ⟨_, _, rfl, ⟨x3, rfl, _⟩, ⟨_, _, rfl, ⟨x4, rfl, _⟩, ⟨_, _, rfl, ⟨x5, rfl, wx5⟩, rfl⟩⟩⟩⟩⟩ := h
  exact ⟨x1, x2, x3, x4, x5, rfl, wx5⟩
abbrev shStore : List Sh := [.i .i64, .i .i64, .i .i64, .i .i64, .s, .l [.i .i64, .s], .l [.i .i64, .i .i64, .i .i64, .i .i64, .s]]
theorem Store_row {r : List D} (h : typL shStore r) : ∃ x1 x2 x3 x4 x5 x6 x7, r = [.i .i64 x1, .i .i64 x2, .i .i64 x3, .i .i64 x4, .s x5, .l x6, .l x7] ∧ x5.size ≤ maxLen ∧ x6.length ≤ maxLen ∧ (∀ r ∈ x6, typL shEntry r) ∧ x7.length ≤ maxLen ∧ (∀ r ∈ x7, typL shRec r) := by
  obtain ⟨_, _, rfl, ⟨x1, rfl, _⟩, ⟨_, _, rfl, ⟨x2, rfl, _⟩, ⟨_, _, rfl, ⟨x3, rfl, _⟩, ⟨_, _, rfl, ⟨x4, rfl, _⟩, ⟨_, _, rfl, ⟨x5, rfl, wx5⟩, ⟨_, _, rfl, ⟨x6, rfl, wx6, tx6⟩, ⟨_, _, rfl, ⟨x7, rfl, wx7, tx7⟩, rfl⟩⟩⟩⟩⟩⟩⟩ := h
  exact ⟨x1, x2, x3, x4, x5, x6, x7, rfl, wx5, wx6, tx6, wx7, tx7⟩
abbrev shDirent : List Sh := [.s, .i .i64]
theorem Dirent_row {r : List D} (h : typL shDirent r) : ∃ x1 x2, r = [.s x1, .i .i64 x2] ∧ x1.size ≤ maxLen := by
  obtain ⟨_, _, rfl, ⟨x1, rfl, wx1⟩, ⟨_, _, rfl, ⟨x2, rfl, _⟩, rfl⟩⟩ := h
  exact ⟨x1, x2, rfl, wx1⟩
abbrev shInode : List Sh := [.i .i64, .i .i64, .i .i64, .i .i64, .i .i64, .s, .l [.s, .i .i64], .i .i64, .i .i64]
theorem Inode_row {r : List D} (h : typL shInode r) : ∃ x1 x2 x3 x4 x5 x6 x7 x8 x9, r = [.i .i64 x1, .i .i64 x2, .i .i64 x3, .i .i64 x4, .i .i64 x5, .s x6, .l x7, .i .i64 x8, .i .i64 x9] ∧ x6.size ≤ maxLen ∧ x7.length ≤ maxLen ∧ (∀ r ∈ x7, typL shDirent r) := by
  obtain ⟨_, _, rfl, ⟨x1, rfl, _⟩, ⟨_, _, rfl, ⟨x2, rfl, _⟩, ⟨_, _, rfl, ⟨x3, rfl, _⟩, ⟨_, _, rfl, ⟨x4, rfl, _⟩, ⟨_, _, rfl, ⟨x5, rfl, _⟩, ⟨_, _, rfl, ⟨x6, rfl, wx6⟩, ⟨_, _, rfl, ⟨x7, rfl, wx7, tx7⟩, ⟨_, _, rfl, ⟨x8, rfl, _⟩, ⟨_, _, rfl, ⟨x9, rfl, _⟩, rfl⟩⟩⟩⟩⟩⟩⟩⟩⟩ := h
  exact ⟨x1, x2, x3, x4, x5, x6, x7, x8, x9, rfl, wx6, wx7, tx7⟩
abbrev shVol : List Sh := [.i .i64, .l [.i .i64, .i .i64, .i .i64, .i .i64, .i .i64, .s, .l [.s, .i .i64], .i .i64, .i .i64]]
theorem Vol_row {r : List D} (h : typL shVol r) : ∃ x1 x2, r = [.i .i64 x1, .l x2] ∧ x2.length ≤ maxLen ∧ (∀ r ∈ x2, typL shInode r) := by
  obtain ⟨_, _, rfl, ⟨x1, rfl, _⟩, ⟨_, _, rfl, ⟨x2, rfl, wx2, tx2⟩, rfl⟩⟩ := h
  exact ⟨x1, x2, rfl, wx2, tx2⟩
abbrev shInt : List Sh := [.i .i64]
theorem Int_row {r : List D} (h : typL shInt r) : ∃ x1, r = [.i .i64 x1] := by
  obtain ⟨_, _, rfl, ⟨x1, rfl, _⟩, rfl⟩ := h
  exact ⟨x1, rfl⟩
theorem szIntS_ok (l : List (List D)) (hl : l.length ≤ maxLen) (h : ∀ r ∈ l, typL shInt r) (n : Int) (h0 : 0 ≤ n) (h1 : n ≤ 1048576) : ∃ y, t38 l n = some ([.one (.i .i64 y)], []) ∧ y ≤ n ∧ (0 ≤ y → l.length ≤ 1048576 ∧ ∀ r ∈ l, szdL shInt r) := by
  have e : w64 (n - (l.length : Int)) = n - (l.length : Int) := w64_in _ (by simp only [maxLen] at hl; omega)
  simp only [t38, e]
  by_cases g : n - (l.length : Int) < 0
  · exact ⟨-1, by simp only [g, decide_true, if_true], by omega, by omega⟩
  · simp only [g, decide_false, Bool.false_eq_true, if_false]
    exact ⟨_, rfl, by omega, fun hy => ⟨by omega, fun _ _ => ⟨trivial, trivial⟩⟩⟩
theorem toIntS_loop (q : Int → Bool → List (List D) → Rs) (l : List (List D)) (h : ∀ r ∈ l, typL shInt r) (hs : ∀ r ∈ l, szdL shInt r) (hl : l.length < 4611686018427387904) : ∀ (k i m : Nat) (v : SV), i + k = l.length → k < m →
    l45o0 l q m i v (l.take i ++ List.replicate k z3) = q l.length false l := by
  intro k
  induction k with
  | zero =>
    intro i m v e hm
    obtain ⟨m, rfl⟩ : ∃ m', m = m' + 1 := ⟨m - 1, by omega⟩
    have ei : decide ((i : Int) < (l.length : Int)) = false := by simp; omega
    have e0 : i = l.length := by omega
    simp only [l45o0, ei, e0]
    simp
  | succ k ih =>
    intro i m v e hm
    obtain ⟨m, rfl⟩ : ∃ m', m = m' + 1 := ⟨m - 1, by omega⟩
    have hr := getD_row h (i := i) (by omega)
    obtain ⟨c1, er⟩ := Int_row hr
    have e1 : decide ((i : Int) < (l.length : Int)) = true := by simp; omega
    have e2 : decide ((0 : Int) ≤ (i : Int)) = true := by simp
    have e3 : decide ((i : Int) < ((l.take i ++ List.replicate (k + 1) z3).length : Int)) = true := by simp; omega
    have e4 : decide (1 ≤ 1 ∧ i < (l.take i ++ List.replicate (k + 1) z3).length) = true := by simp; omega
    have ez : isRow z3 [.i .i64 c1] = true := rfl
    simp only [l45o0, e1, e2, Int.toNat_natCast, er, ez, nthD, asI, asS, asB, asL, resC, nthR, cellsDV, e3, e4, Bool.and_true, chk_true, if_true]
    rw [stR_at l i k _ _ (by simp [z3]) e er, w64_succ i (by omega)]
    exact ih (i + 1) m _ (by omega) (by omega)
theorem toIntS_eq (l : List (List D)) (hl : l.length ≤ 1048576) (h : ∀ r ∈ l, typL shInt r) (hs : ∀ r ∈ l, szdL shInt r) : t45 l = some ([.one (.l l)], []) := by
  unfold t45
  have e1 : l.length ≤ lim := by unfold lim; omega
  have := toIntS_loop (fun _ _ l => some ([.one (.l l)], [])) l h hs (by omega) l.length 0 KK .undef (by omega) (by rw [KK_eq]; omega)
  simpa [e1] using this
theorem eqIntS_loop (b0 b1 : Bool) (q1 : Int → Bool → Bool → Rs) (q2 : Int → Bool → SV → Rs) (h2 : ∀ a b c, q2 a b c = some ([.one (.b true)], [])) (l : List (List D)) (h : ∀ r ∈ l, typL shInt r) (hl : l.length < 4611686018427387904) : ∀ (k i m : Nat) (v w : SV), i + k = l.length → k < m →
    l53o1 l l b0 b1 q1 q2 m i v w = some ([.one (.b true)], []) := by
  intro k
  induction k with
  | zero =>
    intro i m v w e hm
    obtain ⟨m, rfl⟩ : ∃ m', m = m' + 1 := ⟨m - 1, by omega⟩
    have ei : decide ((i : Int) < (l.length : Int)) = false := by simp; omega
    simp only [l53o1, ei, h2]
    simp
  | succ k ih =>
    intro i m v w e hm
    obtain ⟨m, rfl⟩ : ∃ m', m = m' + 1 := ⟨m - 1, by omega⟩
    have hr := getD_row h (i := i) (by omega)
    obtain ⟨c1, er⟩ := Int_row hr
    have e1 : decide ((i : Int) < (l.length : Int)) = true := by simp; omega
    have e2 : decide ((0 : Int) ≤ (i : Int)) = true := by simp
    have ez : isRow z3 [.i .i64 c1] = true := rfl
    simp only [l53o1, e1, e2, Int.toNat_natCast, er, ez, nthD, asI, asS, asB, asL, bne_self_eq_false, resC, nthR, cellsDV, Bool.and_true, chk_true, if_true, Bool.not_true, Bool.false_eq_true, if_false]
    rw [w64_succ i (by omega)]
    exact ih (i + 1) m _ _ (by omega) (by omega)
theorem eqIntS_self (l : List (List D)) (hl : l.length ≤ 1048576) (h : ∀ r ∈ l, typL shInt r) : t53 l l = some ([.one (.b true)], []) := by
  have := eqIntS_loop false false (fun _ _ _ => some ([.one (.b false)], [])) (fun _ _ _ => some ([.one (.b true)], [])) (fun _ _ _ => rfl) l h (by omega) l.length 0 KK .undef .undef (by omega) (by rw [KK_eq]; omega)
  simpa [t53] using this
abbrev shCred : List Sh := [.i .i64, .i .i64, .l [.i .i64]]
theorem Cred_row {r : List D} (h : typL shCred r) : ∃ x1 x2 x3, r = [.i .i64 x1, .i .i64 x2, .l x3] ∧ x3.length ≤ maxLen ∧ (∀ r ∈ x3, typL shInt r) := by
  obtain ⟨_, _, rfl, ⟨x1, rfl, _⟩, ⟨_, _, rfl, ⟨x2, rfl, _⟩, ⟨_, _, rfl, ⟨x3, rfl, wx3, tx3⟩, rfl⟩⟩⟩ := h
  exact ⟨x1, x2, x3, rfl, wx3, tx3⟩
abbrev shCall : List Sh := [.i .i64, .s, .s, .i .i64, .i .i64, .s]
theorem Call_row {r : List D} (h : typL shCall r) : ∃ x1 x2 x3 x4 x5 x6, r = [.i .i64 x1, .s x2, .s x3, .i .i64 x4, .i .i64 x5, .s x6] ∧ x2.size ≤ maxLen ∧ x3.size ≤ maxLen ∧ x6.size ≤ maxLen := by
  obtain ⟨_, _, rfl, ⟨x1, rfl, _⟩, ⟨_, _, rfl, ⟨x2, rfl, wx2⟩, ⟨_, _, rfl, ⟨x3, rfl, wx3⟩, ⟨_, _, rfl, ⟨x4, rfl, _⟩, ⟨_, _, rfl, ⟨x5, rfl, _⟩, ⟨_, _, rfl, ⟨x6, rfl, wx6⟩, rfl⟩⟩⟩⟩⟩⟩ := h
  exact ⟨x1, x2, x3, x4, x5, x6, rfl, wx2, wx3, wx6⟩
abbrev shResult : List Sh := [.i .i64, .s]
theorem Result_row {r : List D} (h : typL shResult r) : ∃ x1 x2, r = [.i .i64 x1, .s x2] ∧ x2.size ≤ maxLen := by
  obtain ⟨_, _, rfl, ⟨x1, rfl, _⟩, ⟨_, _, rfl, ⟨x2, rfl, wx2⟩, rfl⟩⟩ := h
  exact ⟨x1, x2, rfl, wx2⟩
abbrev shNote : List Sh := [.i .i64, .i .i64, .i .i64, .i .i64, .i .i64]
theorem Note_row {r : List D} (h : typL shNote r) : ∃ x1 x2 x3 x4 x5, r = [.i .i64 x1, .i .i64 x2, .i .i64 x3, .i .i64 x4, .i .i64 x5] := by
  obtain ⟨_, _, rfl, ⟨x1, rfl, _⟩, ⟨_, _, rfl, ⟨x2, rfl, _⟩, ⟨_, _, rfl, ⟨x3, rfl, _⟩, ⟨_, _, rfl, ⟨x4, rfl, _⟩, ⟨_, _, rfl, ⟨x5, rfl, _⟩, rfl⟩⟩⟩⟩⟩ := h
  exact ⟨x1, x2, x3, x4, x5, rfl⟩
abbrev shSession : List Sh := [.i .i64, .i .i64, .i .i64, .i .i64, .s]
theorem Session_row {r : List D} (h : typL shSession r) : ∃ x1 x2 x3 x4 x5, r = [.i .i64 x1, .i .i64 x2, .i .i64 x3, .i .i64 x4, .s x5] ∧ x5.size ≤ maxLen := by
  obtain ⟨_, _, rfl, ⟨x1, rfl, _⟩, ⟨_, _, rfl, ⟨x2, rfl, _⟩, ⟨_, _, rfl, ⟨x3, rfl, _⟩, ⟨_, _, rfl, ⟨x4, rfl, _⟩, ⟨_, _, rfl, ⟨x5, rfl, wx5⟩, rfl⟩⟩⟩⟩⟩ := h
  exact ⟨x1, x2, x3, x4, x5, rfl, wx5⟩
abbrev shTenant : List Sh := [.i .i64, .l [.i .i64, .i .i64, .i .i64, .i .i64, .i .i64, .s, .l [.s, .i .i64], .i .i64, .i .i64], .i .i64, .l [.i .i64, .i .i64, .i .i64, .i .i64, .i .i64], .l [.i .i64, .i .i64, .i .i64, .i .i64, .s]]
theorem Tenant_row {r : List D} (h : typL shTenant r) : ∃ x1 x2 x3 x4 x5, r = [.i .i64 x1, .l x2, .i .i64 x3, .l x4, .l x5] ∧ x2.length ≤ maxLen ∧ (∀ r ∈ x2, typL shInode r) ∧ x4.length ≤ maxLen ∧ (∀ r ∈ x4, typL shNote r) ∧ x5.length ≤ maxLen ∧ (∀ r ∈ x5, typL shSession r) := by
  obtain ⟨_, _, rfl, ⟨x1, rfl, _⟩, ⟨_, _, rfl, ⟨x2, rfl, wx2, tx2⟩, ⟨_, _, rfl, ⟨x3, rfl, _⟩, ⟨_, _, rfl, ⟨x4, rfl, wx4, tx4⟩, ⟨_, _, rfl, ⟨x5, rfl, wx5, tx5⟩, rfl⟩⟩⟩⟩⟩ := h
  exact ⟨x1, x2, x3, x4, x5, rfl, wx2, tx2, wx4, tx4, wx5, tx5⟩
abbrev shSlot : List Sh := [.i .i64, .i .i64, .i .i64, .i .i64, .s, .s, .i .i64, .i .i64, .s]
theorem Slot_row {r : List D} (h : typL shSlot r) : ∃ x1 x2 x3 x4 x5 x6 x7 x8 x9, r = [.i .i64 x1, .i .i64 x2, .i .i64 x3, .i .i64 x4, .s x5, .s x6, .i .i64 x7, .i .i64 x8, .s x9] ∧ x5.size ≤ maxLen ∧ x6.size ≤ maxLen ∧ x9.size ≤ maxLen := by
  obtain ⟨_, _, rfl, ⟨x1, rfl, _⟩, ⟨_, _, rfl, ⟨x2, rfl, _⟩, ⟨_, _, rfl, ⟨x3, rfl, _⟩, ⟨_, _, rfl, ⟨x4, rfl, _⟩, ⟨_, _, rfl, ⟨x5, rfl, wx5⟩, ⟨_, _, rfl, ⟨x6, rfl, wx6⟩, ⟨_, _, rfl, ⟨x7, rfl, _⟩, ⟨_, _, rfl, ⟨x8, rfl, _⟩, ⟨_, _, rfl, ⟨x9, rfl, wx9⟩, rfl⟩⟩⟩⟩⟩⟩⟩⟩⟩ := h
  exact ⟨x1, x2, x3, x4, x5, x6, x7, x8, x9, rfl, wx5, wx6, wx9⟩
abbrev shMsg : List Sh := [.i .i64, .i .i64, .i .i64, .i .i64, .i .i64, .i .i64, .i .i64, .b, .l [.i .i64, .s], .s]
theorem Msg_row {r : List D} (h : typL shMsg r) : ∃ x1 x2 x3 x4 x5 x6 x7 x8 x9 x10, r = [.i .i64 x1, .i .i64 x2, .i .i64 x3, .i .i64 x4, .i .i64 x5, .i .i64 x6, .i .i64 x7, .b x8, .l x9, .s x10] ∧ x9.length ≤ maxLen ∧ (∀ r ∈ x9, typL shEntry r) ∧ x10.size ≤ maxLen := by
  obtain ⟨_, _, rfl, ⟨x1, rfl, _⟩, ⟨_, _, rfl, ⟨x2, rfl, _⟩, ⟨_, _, rfl, ⟨x3, rfl, _⟩, ⟨_, _, rfl, ⟨x4, rfl, _⟩, ⟨_, _, rfl, ⟨x5, rfl, _⟩, ⟨_, _, rfl, ⟨x6, rfl, _⟩, ⟨_, _, rfl, ⟨x7, rfl, _⟩, ⟨_, _, rfl, ⟨x8, rfl⟩, ⟨_, _, rfl, ⟨x9, rfl, wx9, tx9⟩, ⟨_, _, rfl, ⟨x10, rfl, wx10⟩, rfl⟩⟩⟩⟩⟩⟩⟩⟩⟩⟩ := h
  exact ⟨x1, x2, x3, x4, x5, x6, x7, x8, x9, x10, rfl, wx9, tx9, wx10⟩
theorem eqMsg_self (x1 : Int) (x2 : Int) (x3 : Int) (x4 : Int) (x5 : Int) (x6 : Int) (x7 : Int) (x8 : Bool) (x9 : List (List D)) (x10 : ByteArray) (wx9 : x9.length ≤ 1048576) (tx9 : ∀ r ∈ x9, typL shEntry r) : t67 x1 x2 x3 x4 x5 x6 x7 x8 x9 x10 x1 x2 x3 x4 x5 x6 x7 x8 x9 x10 = some ([.one (.b true)], []) := by
  simp only [t67, bne_self_eq_false, Bool.not_true, Bool.false_eq_true, if_false, eqEntryS_self x9 wx9 tx9, zr52, zo52, okR, isVs, isV, isD, isDs, isOs, resC, outC, nthR, nthO, cellsDV, nthD, asB, asI, asS, asL, Bool.and_true, Bool.true_and, BEq.rfl, chk_true, decide_true]
theorem eqMsgS_loop (b0 b1 : Bool) (q1 : Int → Bool → Bool → Rs) (q2 : Int → Bool → SV → Rs) (h2 : ∀ a b c, q2 a b c = some ([.one (.b true)], [])) (l : List (List D)) (h : ∀ r ∈ l, typL shMsg r) (hs : ∀ r ∈ l, szdL shMsg r) (hl : l.length < 4611686018427387904) : ∀ (k i m : Nat) (v w : SV), i + k = l.length → k < m →
    l30o1 l l b0 b1 q1 q2 m i v w = some ([.one (.b true)], []) := by
  intro k
  induction k with
  | zero =>
    intro i m v w e hm
    obtain ⟨m, rfl⟩ : ∃ m', m = m' + 1 := ⟨m - 1, by omega⟩
    have ei : decide ((i : Int) < (l.length : Int)) = false := by simp; omega
    simp only [l30o1, ei, h2]
    simp
  | succ k ih =>
    intro i m v w e hm
    obtain ⟨m, rfl⟩ : ∃ m', m = m' + 1 := ⟨m - 1, by omega⟩
    have hr := getD_row h (i := i) (by omega)
    obtain ⟨c1, c2, c3, c4, c5, c6, c7, c8, c9, c10, er, wc9, tc9, wc10⟩ := Msg_row hr
    have hso := hs _ (mem_getD (l := l) (i := i) (by omega))
    rw [er] at hso
    have e1 : decide ((i : Int) < (l.length : Int)) = true := by simp; omega
    have e2 : decide ((0 : Int) ≤ (i : Int)) = true := by simp
    have ez : isRow z83 [.i .i64 c1, .i .i64 c2, .i .i64 c3, .i .i64 c4, .i .i64 c5, .i .i64 c6, .i .i64 c7, .b c8, .l c9, .s c10] = true := rfl
    have ew : okR zr67 zo67 (some ([.one (.b true)], [])) = true := rfl
    simp only [l30o1, e1, e2, Int.toNat_natCast, er, ez, nthD, asI, asS, asB, asL, eqMsg_self c1 c2 c3 c4 c5 c6 c7 c8 c9 c10 hso.2.2.2.2.2.2.2.2.1.1 tc9, resC, nthR, cellsDV, ew, Bool.and_true, chk_true, if_true, Bool.not_true, Bool.false_eq_true, if_false]
    rw [w64_succ i (by omega)]
    exact ih (i + 1) m _ _ (by omega) (by omega)
theorem eqMsgS_self (l : List (List D)) (hl : l.length ≤ 1048576) (h : ∀ r ∈ l, typL shMsg r) (hs : ∀ r ∈ l, szdL shMsg r) : t30 l l = some ([.one (.b true)], []) := by
  have := eqMsgS_loop false false (fun _ _ _ => some ([.one (.b false)], [])) (fun _ _ _ => some ([.one (.b true)], [])) (fun _ _ _ => rfl) l h hs (by omega) l.length 0 KK .undef .undef (by omega) (by rw [KK_eq]; omega)
  simpa [t30] using this
abbrev shCore : List Sh := [.i .i64, .i .i64, .i .i64, .i .i64, .i .i64, .i .i64, .i .i64, .i .i64, .l [.i .i64, .s], .i .i64, .l [.i .i64], .l [.i .i64], .l [.i .i64]]
theorem Core_row {r : List D} (h : typL shCore r) : ∃ x1 x2 x3 x4 x5 x6 x7 x8 x9 x10 x11 x12 x13, r = [.i .i64 x1, .i .i64 x2, .i .i64 x3, .i .i64 x4, .i .i64 x5, .i .i64 x6, .i .i64 x7, .i .i64 x8, .l x9, .i .i64 x10, .l x11, .l x12, .l x13] ∧ x9.length ≤ maxLen ∧ (∀ r ∈ x9, typL shEntry r) ∧ x11.length ≤ maxLen ∧ (∀ r ∈ x11, typL shInt r) ∧ x12.length ≤ maxLen ∧ (∀ r ∈ x12, typL shInt r) ∧ x13.length ≤ maxLen ∧ (∀ r ∈ x13, typL shInt r) := by
  obtain ⟨_, _, rfl, ⟨x1, rfl, _⟩, ⟨_, _, rfl, ⟨x2, rfl, _⟩, ⟨_, _, rfl, ⟨x3, rfl, _⟩, ⟨_, _, rfl, ⟨x4, rfl, _⟩, ⟨_, _, rfl, ⟨x5, rfl, _⟩, ⟨_, _, rfl, ⟨x6, rfl, _⟩, ⟨_, _, rfl, ⟨x7, rfl, _⟩, ⟨_, _, rfl, ⟨x8, rfl, _⟩, ⟨_, _, rfl, ⟨x9, rfl, wx9, tx9⟩, ⟨_, _, rfl, ⟨x10, rfl, _⟩, ⟨_, _, rfl, ⟨x11, rfl, wx11, tx11⟩, ⟨_, _, rfl, ⟨x12, rfl, wx12, tx12⟩, ⟨_, _, rfl, ⟨x13, rfl, wx13, tx13⟩, rfl⟩⟩⟩⟩⟩⟩⟩⟩⟩⟩⟩⟩⟩ := h
  exact ⟨x1, x2, x3, x4, x5, x6, x7, x8, x9, x10, x11, x12, x13, rfl, wx9, tx9, wx11, tx11, wx12, tx12, wx13, tx13⟩
theorem szCore_ok (x1 : Int) (x2 : Int) (x3 : Int) (x4 : Int) (x5 : Int) (x6 : Int) (x7 : Int) (x8 : Int) (x9 : List (List D)) (x10 : Int) (x11 : List (List D)) (x12 : List (List D)) (x13 : List (List D)) (wx9 : x9.length ≤ maxLen) (tx9 : ∀ r ∈ x9, typL shEntry r) (wx11 : x11.length ≤ maxLen) (tx11 : ∀ r ∈ x11, typL shInt r) (wx12 : x12.length ≤ maxLen) (tx12 : ∀ r ∈ x12, typL shInt r) (wx13 : x13.length ≤ maxLen) (tx13 : ∀ r ∈ x13, typL shInt r) (n : Int) (h0 : 0 ≤ n) (h1 : n ≤ 1048576) : ∃ y, t10 x1 x2 x3 x4 x5 x6 x7 x8 x9 x10 x11 x12 x13 n = some ([.one (.i .i64 y)], []) ∧ y ≤ n ∧ (0 ≤ y → szdL shCore [.i .i64 x1, .i .i64 x2, .i .i64 x3, .i .i64 x4, .i .i64 x5, .i .i64 x6, .i .i64 x7, .i .i64 x8, .l x9, .i .i64 x10, .l x11, .l x12, .l x13]) := by
  simp only [t10]
  obtain ⟨y1, e1, h1a, o1⟩ := szEntryS_ok x9 wx9 tx9 n (by omega) (by omega)
  simp only [e1, zr37, zo37, okR, isVs, isV, isD, isDs, isOs, resC, outC, nthR, nthO, cellsDV, nthD, asB, asI, asS, asL, Bool.and_true, Bool.true_and, BEq.rfl, chk_true, decide_true]
  by_cases g1 : y1 < 0
  · exact ⟨-1, by simp only [g1, decide_true, if_true, chk_true], by omega, by omega⟩
  simp only [g1, decide_false, Bool.false_eq_true, if_false, chk_true]
  obtain ⟨y2, e2, h2a, o2⟩ := szIntS_ok x11 wx11 tx11 y1 (by omega) (by omega)
  simp only [e2, zr38, zo38, okR, isVs, isV, isD, isDs, isOs, resC, outC, nthR, nthO, cellsDV, nthD, asB, asI, asS, asL, Bool.and_true, Bool.true_and, BEq.rfl, chk_true, decide_true]
  by_cases g2 : y2 < 0
  · exact ⟨-1, by simp only [g2, decide_true, if_true, chk_true], by omega, by omega⟩
  simp only [g2, decide_false, Bool.false_eq_true, if_false, chk_true]
  obtain ⟨y3, e3, h3a, o3⟩ := szIntS_ok x12 wx12 tx12 y2 (by omega) (by omega)
  simp only [e3, zr38, zo38, okR, isVs, isV, isD, isDs, isOs, resC, outC, nthR, nthO, cellsDV, nthD, asB, asI, asS, asL, Bool.and_true, Bool.true_and, BEq.rfl, chk_true, decide_true]
  by_cases g3 : y3 < 0
  · exact ⟨-1, by simp only [g3, decide_true, if_true, chk_true], by omega, by omega⟩
  simp only [g3, decide_false, Bool.false_eq_true, if_false, chk_true]
  obtain ⟨y4, e4, h4a, o4⟩ := szIntS_ok x13 wx13 tx13 y3 (by omega) (by omega)
  simp only [e4, zr38, zo38, okR, isVs, isV, isD, isDs, isOs, resC, outC, nthR, nthO, cellsDV, nthD, asB, asI, asS, asL, Bool.and_true, Bool.true_and, BEq.rfl, chk_true, decide_true]
  by_cases g4 : y4 < 0
  · exact ⟨-1, by simp only [g4, decide_true, if_true, chk_true], by omega, by omega⟩
  simp only [g4, decide_false, Bool.false_eq_true, if_false, chk_true]
  exact ⟨_, rfl, by omega, fun _ => ⟨trivial, trivial, trivial, trivial, trivial, trivial, trivial, trivial, (o1 (by omega)), trivial, (o2 (by omega)), (o3 (by omega)), (o4 (by omega)), trivial⟩⟩
theorem toCore_eq (x1 : Int) (x2 : Int) (x3 : Int) (x4 : Int) (x5 : Int) (x6 : Int) (x7 : Int) (x8 : Int) (x9 : List (List D)) (x10 : Int) (x11 : List (List D)) (x12 : List (List D)) (x13 : List (List D)) (wx9 : x9.length ≤ 1048576) (tx9 : ∀ r ∈ x9, typL shEntry r) (sx9 : ∀ r ∈ x9, szdL shEntry r) (wx11 : x11.length ≤ 1048576) (tx11 : ∀ r ∈ x11, typL shInt r) (sx11 : ∀ r ∈ x11, szdL shInt r) (wx12 : x12.length ≤ 1048576) (tx12 : ∀ r ∈ x12, typL shInt r) (sx12 : ∀ r ∈ x12, szdL shInt r) (wx13 : x13.length ≤ 1048576) (tx13 : ∀ r ∈ x13, typL shInt r) (sx13 : ∀ r ∈ x13, szdL shInt r) : t12 x1 x2 x3 x4 x5 x6 x7 x8 x9 x10 x11 x12 x13 = some ([.agg [.i .i64 x1, .i .i64 x2, .i .i64 x3, .i .i64 x4, .i .i64 x5, .i .i64 x6, .i .i64 x7, .i .i64 x8, .l x9, .i .i64 x10, .l x11, .l x12, .l x13]], []) := by
  simp only [t12, toEntryS_eq x9 wx9 tx9 sx9, toIntS_eq x11 wx11 tx11 sx11, toIntS_eq x12 wx12 tx12 sx12, toIntS_eq x13 wx13 tx13 sx13, zr44, zo44, zr45, zo45, okR, isVs, isV, isD, isDs, isOs, resC, outC, nthR, nthO, cellsDV, nthD, asB, asI, asS, asL, Bool.and_true, Bool.true_and, BEq.rfl, chk_true, decide_true]
theorem eqCore_self (x1 : Int) (x2 : Int) (x3 : Int) (x4 : Int) (x5 : Int) (x6 : Int) (x7 : Int) (x8 : Int) (x9 : List (List D)) (x10 : Int) (x11 : List (List D)) (x12 : List (List D)) (x13 : List (List D)) (wx9 : x9.length ≤ 1048576) (tx9 : ∀ r ∈ x9, typL shEntry r) (wx11 : x11.length ≤ 1048576) (tx11 : ∀ r ∈ x11, typL shInt r) (wx12 : x12.length ≤ 1048576) (tx12 : ∀ r ∈ x12, typL shInt r) (wx13 : x13.length ≤ 1048576) (tx13 : ∀ r ∈ x13, typL shInt r) : t14 x1 x2 x3 x4 x5 x6 x7 x8 x9 x10 x11 x12 x13 x1 x2 x3 x4 x5 x6 x7 x8 x9 x10 x11 x12 x13 = some ([.one (.b true)], []) := by
  simp only [t14, bne_self_eq_false, Bool.not_true, Bool.false_eq_true, if_false, eqEntryS_self x9 wx9 tx9, eqIntS_self x11 wx11 tx11, eqIntS_self x12 wx12 tx12, eqIntS_self x13 wx13 tx13, zr52, zo52, zr53, zo53, okR, isVs, isV, isD, isDs, isOs, resC, outC, nthR, nthO, cellsDV, nthD, asB, asI, asS, asL, Bool.and_true, Bool.true_and, BEq.rfl, chk_true, decide_true]
end Go.Den.L9

/- Places, batches. -/
namespace Go.Den.L9
open Go
theorem row_in {sh : List Sh} {l : List (List D)} (h : ∀ r ∈ l, typL sh r) (z : List D) (hz : ∀ r, typL sh r → isRow z r = true) (i : Nat) (hi : i < l.length) : isRow z (l.getD i []) = true := hz _ (getD_row h hi)
theorem entry_row : ∀ r, typL shEntry r → isRow z92 r = true := fun r h => by
  obtain ⟨a, b, rfl, _⟩ := Entry_row h; rfl
/-- A batch: terms that do not fall, up to t; none too long. -/
def runB (l : List (List D)) (t : Int) : Nat → Nat → Int → Bool
  | 0, _, _ => true
  | k + 1, i, p => decide (p ≤ asI (nthD (l.getD i []) 0) ∧ asI (nthD (l.getD i []) 0) ≤ t ∧ ((asS (nthD (l.getD i []) 1)).size : Int) ≤ 1600) && runB l t k (i + 1) (asI (nthD (l.getD i []) 0))
/-- A message that may be. -/
def placeB (a b : Int) : Bool := decide ((a = 0 ∧ b = 0) ∨ (1 ≤ a ∧ a ≤ 100000 ∧ 1 ≤ b ∧ b ≤ 100000))
theorem place_spec (a b : Int) : t74 a b = some ([.one (.b (placeB a b))], []) := by
  simp only [t74, in_eq, zr39, zo39, okR, isVs, isV, isD, isOs, resC, nthR, cellsDV, nthD, asB, Bool.and_true, Bool.true_or, chk_true]
  split <;> (apply bool_some; unfold placeB; rw [Bool.eq_iff_iff]; simp_all; try omega)
end Go.Den.L9

/- Marks. -/
namespace Go.Den.L9
open Go
theorem markText_loop (s7 : ByteArray) (b9 : Bool) (q1 : Int → ByteArray → Bool → Rs) (h1 : ∀ n (s : ByteArray) b, s.size ≤ 1000 → ∃ x, q1 n s b = some ([.one (.s x)], [])) : ∀ (k m : Nat) (n : Int) (s : ByteArray) (v : SV), 0 ≤ n → n < 10 ^ k → n < 4611686018427387904 → k < m → s.size + k ≤ 1000 →
    ∃ x, l68o1 s7 b9 q1 m n s v = some ([.one (.s x)], []) := by
  intro k
  induction k with
  | zero =>
    intro m n s v h0 hn h2 hm hs
    obtain ⟨m, rfl⟩ : ∃ m', m = m' + 1 := ⟨m - 1, by omega⟩
    have e : decide (n > 0) = false := by simp; omega
    simp only [l68o1, e, Bool.false_eq_true, if_false]
    exact h1 _ _ _ (by omega)
  | succ k ih =>
    intro m n s v h0 hn h2 hm hs
    obtain ⟨m, rfl⟩ : ∃ m', m = m' + 1 := ⟨m - 1, by omega⟩
    by_cases e : n > 0
    · have e' : decide (n > 0) = true := decide_eq_true e
      have hb : ∀ x : Int, isBytes [[D.i .u8 x]] = true := fun _ => rfl
      have hz : ∀ x : Int, (⟨(bytesD [[D.i .u8 x]]).toArray⟩ : ByteArray).size = 1 := fun _ => rfl
      simp only [l68o1, e', if_true, hb, chk_true, hz]
      rw [chk_ok (decide_eq_true (by unfold lim; omega)), Int.tdiv_eq_ediv_of_nonneg h0, w64_in (n / 10) (by omega)]
      refine ih m (n / 10) _ _ (by omega) ?_ (by omega) (by omega) (by rw [ByteArray.size_append, hz]; omega)
      rw [Int.ediv_lt_iff_lt_mul (by omega)]
      rw [Int.pow_succ] at hn
      exact hn
    · have e' : decide (n > 0) = false := decide_eq_false e
      simp only [l68o1, e', Bool.false_eq_true, if_false]
      exact h1 _ _ _ (by omega)
noncomputable def mkT (k : Int) : ByteArray := asS (resC (t68 k) 0 0)
theorem markText_eq (k : Int) (h : k < 4611686018427387904) : t68 k = some ([.one (.s (mkT k))], []) := by
  have : ∃ x, t68 k = some ([.one (.s x)], []) := by
    unfold t68
    by_cases e : k ≤ 0
    · have e' : decide (k ≤ 0) = true := decide_eq_true e
      simp only [e', if_true]; exact ⟨_, rfl⟩
    · have e' : decide (k ≤ 0) = false := decide_eq_false e
      simp only [e', Bool.false_eq_true, if_false]
      refine markText_loop _ _ _ ?_ 20 KK k _ _ (by omega) (by omega) h (by rw [KK_eq]; omega) (by show 0 + 20 ≤ 1000; omega)
      intro n s b hs
      have e0 : (⟨#[109]⟩ : ByteArray).size = 1 := rfl
      simp only [e0]
      rw [chk_ok (decide_eq_true (by unfold lim; omega))]
      exact ⟨_, rfl⟩
  obtain ⟨x, hx⟩ := this
  have : mkT k = x := by unfold mkT; rw [hx]; rfl
  rw [this, hx]
theorem markText_w {x : ByteArray} : okR zr68 zo68 (some ([.one (.s x)], [])) = true := rfl
theorem markText_r {x : ByteArray} : asS (resC (some ([.one (.s x)], [])) 0 0) = x := rfl
theorem stR_mid (a b : List (List D)) (r ys : List D) (i off : Nat) (h : i = a.length) : stR (a ++ r :: b) i off ys = a ++ (r.take off ++ ys ++ r.drop (off + ys.length)) :: b := by
  subst h; unfold stR; exact modify_mid _ a r b
theorem getD_mid (a b : List (List D)) (r : List D) (i : Nat) (h : i = a.length) : (a ++ r :: b).getD i [] = r := by
  subst h; simp [List.getD]
theorem typL_len : ∀ (es : List Sh) (r : List D), typL es r → r.length = es.length
  | [], r, h => by rw [show r = [] from h]; rfl
  | e :: es, r, h => by
    obtain ⟨d, r', rfl, _, h⟩ := h
    simp only [List.length_cons, typL_len es r' h]
theorem fst_ok {n : Nat} {xs : List (List D)} (h : ∀ r ∈ xs, r.length = n) : fstSz n xs = true := by
  unfold fstSz
  cases xs with
  | nil => simp
  | cons r b => simpa using h r (by simp)
theorem snoc_app (a b : List (List D)) (r : List D) : a ++ r :: b = (a ++ [r]) ++ b := by simp
end Go.Den.L9

/- Marks laid and held. Printed by mark.py. -/
namespace Go.Den.L9
open Go
theorem st2_0 (a b : List (List D)) (i : Nat) (h : i = a.length) (c1 c2 d : D) : stR (a ++ [c1, c2] :: b) i 0 [d] = a ++ [d, c2] :: b := stR_mid a b _ _ i 0 h
theorem st2_1 (a b : List (List D)) (i : Nat) (h : i = a.length) (c1 c2 d : D) : stR (a ++ [c1, c2] :: b) i 1 [d] = a ++ [c1, d] :: b := stR_mid a b _ _ i 1 h
theorem len2 {r : List D} (h : r.length = 2) : ∃ c1 c2, r = [c1, c2] := by
  match r, h with
  | [c1, c2], _ => exact ⟨c1, c2, rfl⟩
noncomputable def rowMEntryS (k : Int) : List D := [.i .i64 (k), .s (mkT (k + 1))]
noncomputable def markedEntryS : Int → List (List D) → List (List D)
  | _, [] => []
  | k, _ :: b => rowMEntryS k :: markedEntryS (k + 1 + 1) b
theorem markedEntryS_len : ∀ (b : List (List D)) (k : Int), (markedEntryS k b).length = b.length
  | [], _ => rfl
  | _ :: b, k => by simp only [markedEntryS, List.length_cons, markedEntryS_len b]
theorem markEntryS_loop (n8 : Int) (q : Int → Int → Bool → List (List D) → Rs) (hq : ∀ a b c d, q a b c d = some ([.one (.i .i64 a)], [[.l d]])) : ∀ (b a : List (List D)) (m : Nat) (k : Int) (v10 : SV), (∀ r ∈ b, r.length = 2) → b.length < m → a.length + b.length ≤ 4000000 → 0 ≤ k → k + 2 * (b.length : Int) ≤ 4000000000000000000 →
    l55o0 n8 q m k (a.length : Int) v10 (a ++ b) = some ([.one (.i .i64 (k + 2 * (b.length : Int)))], [[.l (a ++ markedEntryS k b)]]) := by
  intro b
  induction b with
  | nil =>
    intro a m k v10 h hm hl h0 hk
    obtain ⟨m, rfl⟩ : ∃ m', m = m' + 1 := ⟨m - 1, by omega⟩
    have e : decide ((a.length : Int) < ((a ++ ([] : List (List D))).length : Int)) = false := by simp
    have e2 : k + 2 * ((([] : List (List D)).length : Nat) : Int) = k := by simp
    simp only [l55o0, e, Bool.false_eq_true, if_false, hq, e2, markedEntryS]
  | cons r b ih =>
    intro a m k v10 h hm hl h0 hk
    obtain ⟨m, rfl⟩ : ∃ m', m = m' + 1 := ⟨m - 1, by omega⟩
    simp only [List.length_cons] at hm hl hk
    obtain ⟨c1, c2, rfl⟩ := len2 (h r (List.mem_cons_self ..))
    have hb : ∀ r ∈ b, r.length = 2 := fun r hr => h r (List.mem_cons_of_mem _ hr)
    have e1 : ∀ r : List D, decide ((a.length : Int) < ((a ++ r :: b).length : Int)) = true := fun r => decide_eq_true (by simp; omega)
    have e0 : decide (0 ≤ (a.length : Int)) = true := decide_eq_true (by omega)
    have p1 : ∀ r : List D, decide (1 ≤ 2 ∧ a.length < (a ++ r :: b).length) = true := fun r => decide_eq_true (by simp)
    have p2 : ∀ r : List D, decide (2 ≤ 2 ∧ a.length < (a ++ r :: b).length) = true := fun r => decide_eq_true (by simp)
    have u1 : w64 (k + 1) = k + 1 := w64_in _ (by omega)
    have u2 : w64 (k + 1 + 1) = k + 1 + 1 := w64_in _ (by omega)
    have t1 := markText_eq (k + 1) (by omega)
    have hw := w64_succ a.length (by omega)
    simp only [l55o0, e1, e0, if_true, Int.toNat_natCast, p1, p2, u1, u2, t1, markText_w, markText_r, st2_0 a b _ rfl, st2_1 a b _ rfl, Bool.and_true, chk_true, hw]
    have := fun (z0 : SV) => ih (a ++ [rowMEntryS k]) m (k + 1 + 1) z0 hb (by omega) (by simp; omega) (by omega) (by omega)
    have e3 : (a ++ [rowMEntryS k]).length = a.length + 1 := by simp
    simp only [e3, List.append_assoc] at this
    have e4 : k + 2 * ((([c1, c2] :: b).length : Nat) : Int) = k + 1 + 1 + 2 * (b.length : Int) := by simp only [List.length_cons]; omega
    have e5 : a ++ markedEntryS k ([c1, c2] :: b) = (a ++ [rowMEntryS k]) ++ markedEntryS (k + 1 + 1) b := by simp [markedEntryS]
    rw [e4, e5, List.append_assoc]
    exact this _
theorem markEntryS_eq (l : List (List D)) (h : ∀ r ∈ l, r.length = 2) (hl : l.length ≤ 4000000) (k : Int) (h0 : 0 ≤ k) (hk : k + 2 * (l.length : Int) ≤ 4000000000000000000) : t55 l k = some ([.one (.i .i64 (k + 2 * (l.length : Int)))], [[.l (markedEntryS k l)]]) := by
  unfold t55
  exact markEntryS_loop _ _ (fun _ _ _ _ => rfl) l [] KK k _ h (by rw [KK_eq]; omega) (by simpa using hl) h0 hk
theorem heldEntryS_loop (n9 : Int) (q1 : Int → Int → Bool → Bool → SV → Rs) (q2 : Int → Int → Bool → Bool → Bool → Rs) (q3 : Int → Int → Bool → SV → SV → Rs) (hq : ∀ x0 x1 x2 x3 x4, q3 x0 x1 x2 x3 x4 = some ([.one (.i .i64 x0)], [])) : ∀ (b a : List (List D)) (m : Nat) (k : Int) (v11 v12 v13 : SV) (L : List (List D)) (i : Int), L = a ++ markedEntryS k b → i = (a.length : Int) → b.length < m → a.length + b.length ≤ 4000000 → 0 ≤ k → k + 2 * (b.length : Int) ≤ 4000000000000000000 →
    l57o0 L n9 q1 q2 q3 m k i v11 v12 v13 = some ([.one (.i .i64 (k + 2 * (b.length : Int)))], []) := by
  intro b
  induction b with
  | nil =>
    intro a m k v11 v12 v13 L i hL hi hm hl h0 hk
    subst hL hi
    obtain ⟨m, rfl⟩ : ∃ m', m = m' + 1 := ⟨m - 1, by omega⟩
    have e : decide ((a.length : Int) < ((a ++ ([] : List (List D))).length : Int)) = false := by simp
    have e2 : k + 2 * ((([] : List (List D)).length : Nat) : Int) = k := by simp
    rw [show markedEntryS k [] = [] from rfl]
    simp only [l57o0, e, Bool.false_eq_true, if_false, hq, e2]
  | cons r b ih =>
    intro a m k v11 v12 v13 L i hL hi hm hl h0 hk
    subst hL hi
    obtain ⟨m, rfl⟩ : ∃ m', m = m' + 1 := ⟨m - 1, by omega⟩
    simp only [List.length_cons] at hm hl hk
    have e1 : ∀ (r : List D) (b : List (List D)), decide ((a.length : Int) < ((a ++ r :: b).length : Int)) = true := fun r b => decide_eq_true (by simp; omega)
    have e0 : decide (0 ≤ (a.length : Int)) = true := decide_eq_true (by omega)
    have eg : ∀ (r : List D) (b : List (List D)), (a ++ r :: b).getD a.length [] = r := fun r b => getD_mid a b r _ rfl
    have u1 : w64 (k + 1) = k + 1 := w64_in _ (by omega)
    have u2 : w64 (k + 1 + 1) = k + 1 + 1 := w64_in _ (by omega)
    have t1 := markText_eq (k + 1) (by omega)
    have hw := w64_succ a.length (by omega)
    have this := fun (z0 : SV) (z1 : SV) (z2 : SV) => ih (a ++ [rowMEntryS k]) m (k + 1 + 1) z0 z1 z2 _ _ rfl rfl (by omega) (by simp; omega) (by omega) (by omega)
    have e3 : (a ++ [rowMEntryS k]).length = a.length + 1 := by simp
    simp only [e3, List.append_assoc] at this
    have e4 : k + 2 * (((r :: b).length : Nat) : Int) = k + 1 + 1 + 2 * (b.length : Int) := by simp only [List.length_cons]; omega
    have e5 : a ++ markedEntryS k (r :: b) = a ++ rowMEntryS k :: markedEntryS (k + 1 + 1) b := rfl
    rw [e5]
    have ez : isRow z92 (rowMEntryS k) = true := rfl
    have d0 : asI (nthD (rowMEntryS k) 0) = k := rfl
    have d1 : asS (nthD (rowMEntryS k) 1) = mkT (k + 1) := rfl
    simp only [l57o0, e1, e0, if_true, Int.toNat_natCast, eg, ez, d0, d1, u1, u2, t1, markText_w, markText_r, bne_self_eq_false, beq_self_eq_true, Bool.not_true, Bool.false_eq_true, if_false, Bool.and_true, chk_true, hw]
    rw [e4]
    exact this _ _ _
theorem heldEntryS_eq (l : List (List D)) (hl : l.length ≤ 4000000) (k : Int) (h0 : 0 ≤ k) (hk : k + 2 * (l.length : Int) ≤ 4000000000000000000) : t57 (markedEntryS k l) k = some ([.one (.i .i64 (k + 2 * (l.length : Int)))], []) := by
  unfold t57
  exact heldEntryS_loop _ _ _ _ (fun _ _ _ _ _ => rfl) l [] KK k _ _ _ _ _ rfl rfl (by rw [KK_eq]; omega) (by simpa using hl) h0 hk
theorem st1_0 (a b : List (List D)) (i : Nat) (h : i = a.length) (c1 d : D) : stR (a ++ [c1] :: b) i 0 [d] = a ++ [d] :: b := stR_mid a b _ _ i 0 h
theorem len1 {r : List D} (h : r.length = 1) : ∃ c1, r = [c1] := by
  match r, h with
  | [c1], _ => exact ⟨c1, rfl⟩
noncomputable def rowMIntS (k : Int) : List D := [.i .i64 (k)]
noncomputable def markedIntS : Int → List (List D) → List (List D)
  | _, [] => []
  | k, _ :: b => rowMIntS k :: markedIntS (k + 1) b
theorem markedIntS_len : ∀ (b : List (List D)) (k : Int), (markedIntS k b).length = b.length
  | [], _ => rfl
  | _ :: b, k => by simp only [markedIntS, List.length_cons, markedIntS_len b]
theorem markIntS_loop (n8 : Int) (q : Int → Int → Bool → List (List D) → Rs) (hq : ∀ a b c d, q a b c d = some ([.one (.i .i64 a)], [[.l d]])) : ∀ (b a : List (List D)) (m : Nat) (k : Int) (v10 : SV), (∀ r ∈ b, r.length = 1) → b.length < m → a.length + b.length ≤ 4000000 → 0 ≤ k → k + 1 * (b.length : Int) ≤ 4000000000000000000 →
    l56o0 n8 q m k (a.length : Int) v10 (a ++ b) = some ([.one (.i .i64 (k + 1 * (b.length : Int)))], [[.l (a ++ markedIntS k b)]]) := by
  intro b
  induction b with
  | nil =>
    intro a m k v10 h hm hl h0 hk
    obtain ⟨m, rfl⟩ : ∃ m', m = m' + 1 := ⟨m - 1, by omega⟩
    have e : decide ((a.length : Int) < ((a ++ ([] : List (List D))).length : Int)) = false := by simp
    have e2 : k + 1 * ((([] : List (List D)).length : Nat) : Int) = k := by simp
    simp only [l56o0, e, Bool.false_eq_true, if_false, hq, e2, markedIntS]
  | cons r b ih =>
    intro a m k v10 h hm hl h0 hk
    obtain ⟨m, rfl⟩ : ∃ m', m = m' + 1 := ⟨m - 1, by omega⟩
    simp only [List.length_cons] at hm hl hk
    obtain ⟨c1, rfl⟩ := len1 (h r (List.mem_cons_self ..))
    have hb : ∀ r ∈ b, r.length = 1 := fun r hr => h r (List.mem_cons_of_mem _ hr)
    have e1 : ∀ r : List D, decide ((a.length : Int) < ((a ++ r :: b).length : Int)) = true := fun r => decide_eq_true (by simp; omega)
    have e0 : decide (0 ≤ (a.length : Int)) = true := decide_eq_true (by omega)
    have p1 : ∀ r : List D, decide (1 ≤ 1 ∧ a.length < (a ++ r :: b).length) = true := fun r => decide_eq_true (by simp)
    have u1 : w64 (k + 1) = k + 1 := w64_in _ (by omega)
    have hw := w64_succ a.length (by omega)
    simp only [l56o0, e1, e0, if_true, Int.toNat_natCast, p1, u1, st1_0 a b _ rfl, Bool.and_true, chk_true, hw]
    have := fun (z0 : SV) => ih (a ++ [rowMIntS k]) m (k + 1) z0 hb (by omega) (by simp; omega) (by omega) (by omega)
    have e3 : (a ++ [rowMIntS k]).length = a.length + 1 := by simp
    simp only [e3, List.append_assoc] at this
    have e4 : k + 1 * ((([c1] :: b).length : Nat) : Int) = k + 1 + 1 * (b.length : Int) := by simp only [List.length_cons]; omega
    have e5 : a ++ markedIntS k ([c1] :: b) = (a ++ [rowMIntS k]) ++ markedIntS (k + 1) b := by simp [markedIntS]
    rw [e4, e5, List.append_assoc]
    exact this _
theorem markIntS_eq (l : List (List D)) (h : ∀ r ∈ l, r.length = 1) (hl : l.length ≤ 4000000) (k : Int) (h0 : 0 ≤ k) (hk : k + 1 * (l.length : Int) ≤ 4000000000000000000) : t56 l k = some ([.one (.i .i64 (k + 1 * (l.length : Int)))], [[.l (markedIntS k l)]]) := by
  unfold t56
  exact markIntS_loop _ _ (fun _ _ _ _ => rfl) l [] KK k _ h (by rw [KK_eq]; omega) (by simpa using hl) h0 hk
theorem heldIntS_loop (n9 : Int) (q1 : Int → Int → Bool → Bool → Rs) (q2 : Int → Int → Bool → SV → Rs) (hq : ∀ x0 x1 x2 x3, q2 x0 x1 x2 x3 = some ([.one (.i .i64 x0)], [])) : ∀ (b a : List (List D)) (m : Nat) (k : Int) (v11 v12 : SV) (L : List (List D)) (i : Int), L = a ++ markedIntS k b → i = (a.length : Int) → b.length < m → a.length + b.length ≤ 4000000 → 0 ≤ k → k + 1 * (b.length : Int) ≤ 4000000000000000000 →
    l60o0 L n9 q1 q2 m k i v11 v12 = some ([.one (.i .i64 (k + 1 * (b.length : Int)))], []) := by
  intro b
  induction b with
  | nil =>
    intro a m k v11 v12 L i hL hi hm hl h0 hk
    subst hL hi
    obtain ⟨m, rfl⟩ : ∃ m', m = m' + 1 := ⟨m - 1, by omega⟩
    have e : decide ((a.length : Int) < ((a ++ ([] : List (List D))).length : Int)) = false := by simp
    have e2 : k + 1 * ((([] : List (List D)).length : Nat) : Int) = k := by simp
    rw [show markedIntS k [] = [] from rfl]
    simp only [l60o0, e, Bool.false_eq_true, if_false, hq, e2]
  | cons r b ih =>
    intro a m k v11 v12 L i hL hi hm hl h0 hk
    subst hL hi
    obtain ⟨m, rfl⟩ : ∃ m', m = m' + 1 := ⟨m - 1, by omega⟩
    simp only [List.length_cons] at hm hl hk
    have e1 : ∀ (r : List D) (b : List (List D)), decide ((a.length : Int) < ((a ++ r :: b).length : Int)) = true := fun r b => decide_eq_true (by simp; omega)
    have e0 : decide (0 ≤ (a.length : Int)) = true := decide_eq_true (by omega)
    have eg : ∀ (r : List D) (b : List (List D)), (a ++ r :: b).getD a.length [] = r := fun r b => getD_mid a b r _ rfl
    have u1 : w64 (k + 1) = k + 1 := w64_in _ (by omega)
    have hw := w64_succ a.length (by omega)
    have this := fun (z0 : SV) (z1 : SV) => ih (a ++ [rowMIntS k]) m (k + 1) z0 z1 _ _ rfl rfl (by omega) (by simp; omega) (by omega) (by omega)
    have e3 : (a ++ [rowMIntS k]).length = a.length + 1 := by simp
    simp only [e3, List.append_assoc] at this
    have e4 : k + 1 * (((r :: b).length : Nat) : Int) = k + 1 + 1 * (b.length : Int) := by simp only [List.length_cons]; omega
    have e5 : a ++ markedIntS k (r :: b) = a ++ rowMIntS k :: markedIntS (k + 1) b := rfl
    rw [e5]
    have ez : isRow z3 (rowMIntS k) = true := rfl
    have d0 : asI (nthD (rowMIntS k) 0) = k := rfl
    simp only [l60o0, e1, e0, if_true, Int.toNat_natCast, eg, ez, d0, u1, bne_self_eq_false, beq_self_eq_true, Bool.not_true, Bool.false_eq_true, if_false, Bool.and_true, chk_true, hw]
    rw [e4]
    exact this _ _
theorem heldIntS_eq (l : List (List D)) (hl : l.length ≤ 4000000) (k : Int) (h0 : 0 ≤ k) (hk : k + 1 * (l.length : Int) ≤ 4000000000000000000) : t60 (markedIntS k l) k = some ([.one (.i .i64 (k + 1 * (l.length : Int)))], []) := by
  unfold t60
  exact heldIntS_loop _ _ _ (fun _ _ _ _ => rfl) l [] KK k _ _ _ _ rfl rfl (by rw [KK_eq]; omega) (by simpa using hl) h0 hk
theorem markCore_eq (x1 : Int) (x2 : Int) (x3 : Int) (x4 : Int) (x5 : Int) (x6 : Int) (x7 : Int) (x8 : Int) (x9 : List (List D)) (x10 : Int) (x11 : List (List D)) (x12 : List (List D)) (x13 : List (List D)) (mx9 : ∀ r ∈ x9, r.length = 2) (wx9 : x9.length ≤ 1048576) (mx11 : ∀ r ∈ x11, r.length = 1) (wx11 : x11.length ≤ 1048576) (mx12 : ∀ r ∈ x12, r.length = 1) (wx12 : x12.length ≤ 1048576) (mx13 : ∀ r ∈ x13, r.length = 1) (wx13 : x13.length ≤ 1048576) (k : Int) (h0 : 0 ≤ k) (hk : k ≤ 1000000000000) : t18 x1 x2 x3 x4 x5 x6 x7 x8 x9 x10 x11 x12 x13 k = some ([.one (.i .i64 (k + 2 * (x9.length : Int) + 1 * (x11.length : Int) + 1 * (x12.length : Int) + 1 * (x13.length : Int)))], [[.i .i64 x1, .i .i64 x2, .i .i64 x3, .i .i64 x4, .i .i64 x5, .i .i64 x6, .i .i64 x7, .i .i64 x8, .l (markedEntryS (k) x9), .i .i64 x10, .l (markedIntS (k + 2 * (x9.length : Int)) x11), .l (markedIntS (k + 2 * (x9.length : Int) + 1 * (x11.length : Int)) x12), .l (markedIntS (k + 2 * (x9.length : Int) + 1 * (x11.length : Int) + 1 * (x12.length : Int)) x13)]]) := by
  simp only [t18, markEntryS_eq x9 mx9 (by omega) (k) (by omega) (by omega), markIntS_eq x11 mx11 (by omega) (k + 2 * (x9.length : Int)) (by omega) (by omega), markIntS_eq x12 mx12 (by omega) (k + 2 * (x9.length : Int) + 1 * (x11.length : Int)) (by omega) (by omega), markIntS_eq x13 mx13 (by omega) (k + 2 * (x9.length : Int) + 1 * (x11.length : Int) + 1 * (x12.length : Int)) (by omega) (by omega), zr55, zo55, zr56, zo56, okR, isVs, isV, isD, isDs, isOs, resC, outC, nthR, nthO, cellsDV, nthD, asB, asI, asS, asL, Bool.and_true, Bool.true_and, BEq.rfl, chk_true, decide_true]
theorem heldCore_eq (x1 : Int) (x2 : Int) (x3 : Int) (x4 : Int) (x5 : Int) (x6 : Int) (x7 : Int) (x8 : Int) (x9 : List (List D)) (x10 : Int) (x11 : List (List D)) (x12 : List (List D)) (x13 : List (List D)) (mx9 : ∀ r ∈ x9, r.length = 2) (wx9 : x9.length ≤ 1048576) (mx11 : ∀ r ∈ x11, r.length = 1) (wx11 : x11.length ≤ 1048576) (mx12 : ∀ r ∈ x12, r.length = 1) (wx12 : x12.length ≤ 1048576) (mx13 : ∀ r ∈ x13, r.length = 1) (wx13 : x13.length ≤ 1048576) (k : Int) (h0 : 0 ≤ k) (hk : k ≤ 1000000000000) : t25 x1 x2 x3 x4 x5 x6 x7 x8 (markedEntryS (k) x9) x10 (markedIntS (k + 2 * (x9.length : Int)) x11) (markedIntS (k + 2 * (x9.length : Int) + 1 * (x11.length : Int)) x12) (markedIntS (k + 2 * (x9.length : Int) + 1 * (x11.length : Int) + 1 * (x12.length : Int)) x13) k = some ([.one (.i .i64 (k + 2 * (x9.length : Int) + 1 * (x11.length : Int) + 1 * (x12.length : Int) + 1 * (x13.length : Int)))], []) := by
  have n0 : decide (k + 2 * (x9.length : Int) < 0) = false := decide_eq_false (by omega)
  have n1 : decide (k + 2 * (x9.length : Int) + 1 * (x11.length : Int) < 0) = false := decide_eq_false (by omega)
  have n2 : decide (k + 2 * (x9.length : Int) + 1 * (x11.length : Int) + 1 * (x12.length : Int) < 0) = false := decide_eq_false (by omega)
  have n3 : decide (k + 2 * (x9.length : Int) + 1 * (x11.length : Int) + 1 * (x12.length : Int) + 1 * (x13.length : Int) < 0) = false := decide_eq_false (by omega)
  simp only [t25, heldEntryS_eq x9 (by omega) (k) (by omega) (by omega), heldIntS_eq x11 (by omega) (k + 2 * (x9.length : Int)) (by omega) (by omega), heldIntS_eq x12 (by omega) (k + 2 * (x9.length : Int) + 1 * (x11.length : Int)) (by omega) (by omega), heldIntS_eq x13 (by omega) (k + 2 * (x9.length : Int) + 1 * (x11.length : Int) + 1 * (x12.length : Int)) (by omega) (by omega), zr57, zo57, zr60, zo60, n0, n1, n2, n3, Bool.false_eq_true, if_false, okR, isVs, isV, isD, isDs, isOs, resC, outC, nthR, nthO, cellsDV, nthD, asB, asI, asS, asL, Bool.and_true, Bool.true_and, BEq.rfl, chk_true, decide_true]
noncomputable def rowMMsgS (k : Int) (r : List D) : List D := [.i .i64 (k), .i .i64 (k + 1), .i .i64 (k + 1 + 1), .i .i64 (k + 1 + 1 + 1), .i .i64 (k + 1 + 1 + 1 + 1), .i .i64 (k + 1 + 1 + 1 + 1 + 1), .i .i64 (k + 1 + 1 + 1 + 1 + 1 + 1), .b (((k + 1 + 1 + 1 + 1 + 1 + 1 + 1).tmod (3 : Int)) == (0 : Int)), .l (markedEntryS (k + 1 + 1 + 1 + 1 + 1 + 1 + 1 + 1) (asL (nthD r 8))), .s (mkT (k + 1 + 1 + 1 + 1 + 1 + 1 + 1 + 1 + 2 * (((asL (nthD r 8))).length : Int)))]
def cntRMsgS (r : List D) : Int := 9 + 2 * (((asL (nthD r 8))).length : Int)
noncomputable def markedMsgS : Int → List (List D) → List (List D)
  | _, [] => []
  | k, r :: b => rowMMsgS k r :: markedMsgS (k + cntRMsgS r) b
def cntMsgS : List (List D) → Int
  | [] => 0
  | r :: b => cntRMsgS r + cntMsgS b
theorem markedMsgS_len : ∀ (b : List (List D)) (k : Int), (markedMsgS k b).length = b.length
  | [], _ => rfl
  | _ :: b, k => by simp only [markedMsgS, List.length_cons, markedMsgS_len b]
theorem cntMsgS_nn : ∀ (b : List (List D)), 0 ≤ cntMsgS b
  | [] => by simp [cntMsgS]
  | r :: b => by
    have h := cntMsgS_nn b
    simp only [cntMsgS, cntRMsgS]
    omega
theorem cntMsgS_le : ∀ (b : List (List D)), (∀ r ∈ b, typL shMsg r) → (∀ r ∈ b, szdL shMsg r) → cntMsgS b ≤ 2097161 * (b.length : Int)
  | [], _, _ => by simp [cntMsgS]
  | r :: b, h, hs => by
    have ih := cntMsgS_le b (fun r hr => h r (List.mem_cons_of_mem _ hr)) (fun r hr => hs r (List.mem_cons_of_mem _ hr))
    have hz := hs r (List.mem_cons_self ..)
    obtain ⟨x1, x2, x3, x4, x5, x6, x7, x8, x9, x10, rfl, wx9, tx9, wx10⟩ := Msg_row (h r (List.mem_cons_self ..))
    have sx9 : x9.length ≤ 1048576 ∧ ∀ r ∈ x9, szdL shEntry r := hz.2.2.2.2.2.2.2.2.1
    have lx9 := sx9.1
    simp only [cntMsgS, cntRMsgS, nthD, asL, List.length_cons]
    omega
theorem st10_0 (a b : List (List D)) (i : Nat) (h : i = a.length) (c1 c2 c3 c4 c5 c6 c7 c8 c9 c10 d : D) : stR (a ++ [c1, c2, c3, c4, c5, c6, c7, c8, c9, c10] :: b) i 0 [d] = a ++ [d, c2, c3, c4, c5, c6, c7, c8, c9, c10] :: b := stR_mid a b _ _ i 0 h
theorem st10_1 (a b : List (List D)) (i : Nat) (h : i = a.length) (c1 c2 c3 c4 c5 c6 c7 c8 c9 c10 d : D) : stR (a ++ [c1, c2, c3, c4, c5, c6, c7, c8, c9, c10] :: b) i 1 [d] = a ++ [c1, d, c3, c4, c5, c6, c7, c8, c9, c10] :: b := stR_mid a b _ _ i 1 h
theorem st10_2 (a b : List (List D)) (i : Nat) (h : i = a.length) (c1 c2 c3 c4 c5 c6 c7 c8 c9 c10 d : D) : stR (a ++ [c1, c2, c3, c4, c5, c6, c7, c8, c9, c10] :: b) i 2 [d] = a ++ [c1, c2, d, c4, c5, c6, c7, c8, c9, c10] :: b := stR_mid a b _ _ i 2 h
theorem st10_3 (a b : List (List D)) (i : Nat) (h : i = a.length) (c1 c2 c3 c4 c5 c6 c7 c8 c9 c10 d : D) : stR (a ++ [c1, c2, c3, c4, c5, c6, c7, c8, c9, c10] :: b) i 3 [d] = a ++ [c1, c2, c3, d, c5, c6, c7, c8, c9, c10] :: b := stR_mid a b _ _ i 3 h
theorem st10_4 (a b : List (List D)) (i : Nat) (h : i = a.length) (c1 c2 c3 c4 c5 c6 c7 c8 c9 c10 d : D) : stR (a ++ [c1, c2, c3, c4, c5, c6, c7, c8, c9, c10] :: b) i 4 [d] = a ++ [c1, c2, c3, c4, d, c6, c7, c8, c9, c10] :: b := stR_mid a b _ _ i 4 h
theorem st10_5 (a b : List (List D)) (i : Nat) (h : i = a.length) (c1 c2 c3 c4 c5 c6 c7 c8 c9 c10 d : D) : stR (a ++ [c1, c2, c3, c4, c5, c6, c7, c8, c9, c10] :: b) i 5 [d] = a ++ [c1, c2, c3, c4, c5, d, c7, c8, c9, c10] :: b := stR_mid a b _ _ i 5 h
theorem st10_6 (a b : List (List D)) (i : Nat) (h : i = a.length) (c1 c2 c3 c4 c5 c6 c7 c8 c9 c10 d : D) : stR (a ++ [c1, c2, c3, c4, c5, c6, c7, c8, c9, c10] :: b) i 6 [d] = a ++ [c1, c2, c3, c4, c5, c6, d, c8, c9, c10] :: b := stR_mid a b _ _ i 6 h
theorem st10_7 (a b : List (List D)) (i : Nat) (h : i = a.length) (c1 c2 c3 c4 c5 c6 c7 c8 c9 c10 d : D) : stR (a ++ [c1, c2, c3, c4, c5, c6, c7, c8, c9, c10] :: b) i 7 [d] = a ++ [c1, c2, c3, c4, c5, c6, c7, d, c9, c10] :: b := stR_mid a b _ _ i 7 h
theorem st10_8 (a b : List (List D)) (i : Nat) (h : i = a.length) (c1 c2 c3 c4 c5 c6 c7 c8 c9 c10 d : D) : stR (a ++ [c1, c2, c3, c4, c5, c6, c7, c8, c9, c10] :: b) i 8 [d] = a ++ [c1, c2, c3, c4, c5, c6, c7, c8, d, c10] :: b := stR_mid a b _ _ i 8 h
theorem st10_9 (a b : List (List D)) (i : Nat) (h : i = a.length) (c1 c2 c3 c4 c5 c6 c7 c8 c9 c10 d : D) : stR (a ++ [c1, c2, c3, c4, c5, c6, c7, c8, c9, c10] :: b) i 9 [d] = a ++ [c1, c2, c3, c4, c5, c6, c7, c8, c9, d] :: b := stR_mid a b _ _ i 9 h
theorem markMsgS_loop (n8 : Int) (q : Int → Int → Bool → List (List D) → Rs) (hq : ∀ a b c d, q a b c d = some ([.one (.i .i64 a)], [[.l d]])) : ∀ (b a : List (List D)) (m : Nat) (k : Int) (v10 : SV), (∀ r ∈ b, typL shMsg r) → (∀ r ∈ b, szdL shMsg r) → b.length < m → a.length + b.length ≤ 4000000 → 0 ≤ k → k + cntMsgS b ≤ 4000000000000000000 →
    l31o0 n8 q m k (a.length : Int) v10 (a ++ b) = some ([.one (.i .i64 (k + cntMsgS b))], [[.l (a ++ markedMsgS k b)]]) := by
  intro b
  induction b with
  | nil =>
    intro a m k v10 h hs hm hl h0 hk
    obtain ⟨m, rfl⟩ : ∃ m', m = m' + 1 := ⟨m - 1, by omega⟩
    have e : decide ((a.length : Int) < ((a ++ ([] : List (List D))).length : Int)) = false := by simp
    have e2 : k + cntMsgS [] = k := by simp [cntMsgS]
    simp only [l31o0, e, Bool.false_eq_true, if_false, hq, e2, markedMsgS]
  | cons r b ih =>
    intro a m k v10 h hs hm hl h0 hk
    obtain ⟨m, rfl⟩ : ∃ m', m = m' + 1 := ⟨m - 1, by omega⟩
    simp only [List.length_cons] at hm hl
    have hz := hs r (List.mem_cons_self ..)
    obtain ⟨x1, x2, x3, x4, x5, x6, x7, x8, x9, x10, rfl, wx9, tx9, wx10⟩ := Msg_row (h r (List.mem_cons_self ..))
    have hb : ∀ r ∈ b, typL shMsg r := fun r hr => h r (List.mem_cons_of_mem _ hr)
    have hb2 : ∀ r ∈ b, szdL shMsg r := fun r hr => hs r (List.mem_cons_of_mem _ hr)
    have sx9 : x9.length ≤ 1048576 ∧ ∀ r ∈ x9, szdL shEntry r := hz.2.2.2.2.2.2.2.2.1
    have lx9 := sx9.1
    have nb := cntMsgS_nn b
    have e6 : k + cntRMsgS [.i .i64 x1, .i .i64 x2, .i .i64 x3, .i .i64 x4, .i .i64 x5, .i .i64 x6, .i .i64 x7, .b x8, .l x9, .s x10] = k + 1 + 1 + 1 + 1 + 1 + 1 + 1 + 1 + 2 * (x9.length : Int) + 1 := by simp only [cntRMsgS, nthD, asL]; omega
    have e7 : k + cntMsgS ([.i .i64 x1, .i .i64 x2, .i .i64 x3, .i .i64 x4, .i .i64 x5, .i .i64 x6, .i .i64 x7, .b x8, .l x9, .s x10] :: b) = k + 1 + 1 + 1 + 1 + 1 + 1 + 1 + 1 + 2 * (x9.length : Int) + 1 + cntMsgS b := by rw [cntMsgS, ← Int.add_assoc, e6]
    rw [e7] at hk
    have e1 : ∀ r : List D, decide ((a.length : Int) < ((a ++ r :: b).length : Int)) = true := fun r => decide_eq_true (by simp; omega)
    have e0 : decide (0 ≤ (a.length : Int)) = true := decide_eq_true (by omega)
    have eg : ∀ (r : List D), (a ++ r :: b).getD a.length [] = r := fun r => getD_mid a b r _ rfl
    have p0 : ∀ r : List D, decide (1 ≤ 10 ∧ a.length < (a ++ r :: b).length) = true := fun r => decide_eq_true (by simp)
    have p1 : ∀ r : List D, decide (2 ≤ 10 ∧ a.length < (a ++ r :: b).length) = true := fun r => decide_eq_true (by simp)
    have p2 : ∀ r : List D, decide (3 ≤ 10 ∧ a.length < (a ++ r :: b).length) = true := fun r => decide_eq_true (by simp)
    have p3 : ∀ r : List D, decide (4 ≤ 10 ∧ a.length < (a ++ r :: b).length) = true := fun r => decide_eq_true (by simp)
    have p4 : ∀ r : List D, decide (5 ≤ 10 ∧ a.length < (a ++ r :: b).length) = true := fun r => decide_eq_true (by simp)
    have p5 : ∀ r : List D, decide (6 ≤ 10 ∧ a.length < (a ++ r :: b).length) = true := fun r => decide_eq_true (by simp)
    have p6 : ∀ r : List D, decide (7 ≤ 10 ∧ a.length < (a ++ r :: b).length) = true := fun r => decide_eq_true (by simp)
    have p7 : ∀ r : List D, decide (8 ≤ 10 ∧ a.length < (a ++ r :: b).length) = true := fun r => decide_eq_true (by simp)
    have p9 : ∀ r : List D, decide (10 ≤ 10 ∧ a.length < (a ++ r :: b).length) = true := fun r => decide_eq_true (by simp)
    have u0 : w64 (k + 1) = k + 1 := w64_in _ (by omega)
    have u1 : w64 (k + 1 + 1) = k + 1 + 1 := w64_in _ (by omega)
    have u2 : w64 (k + 1 + 1 + 1) = k + 1 + 1 + 1 := w64_in _ (by omega)
    have u3 : w64 (k + 1 + 1 + 1 + 1) = k + 1 + 1 + 1 + 1 := w64_in _ (by omega)
    have u4 : w64 (k + 1 + 1 + 1 + 1 + 1) = k + 1 + 1 + 1 + 1 + 1 := w64_in _ (by omega)
    have u5 : w64 (k + 1 + 1 + 1 + 1 + 1 + 1) = k + 1 + 1 + 1 + 1 + 1 + 1 := w64_in _ (by omega)
    have u6 : w64 (k + 1 + 1 + 1 + 1 + 1 + 1 + 1) = k + 1 + 1 + 1 + 1 + 1 + 1 + 1 := w64_in _ (by omega)
    have u7 : w64 (k + 1 + 1 + 1 + 1 + 1 + 1 + 1 + 1) = k + 1 + 1 + 1 + 1 + 1 + 1 + 1 + 1 := w64_in _ (by omega)
    have u9 : w64 (k + 1 + 1 + 1 + 1 + 1 + 1 + 1 + 1 + 2 * (x9.length : Int) + 1) = k + 1 + 1 + 1 + 1 + 1 + 1 + 1 + 1 + 2 * (x9.length : Int) + 1 := w64_in _ (by omega)
    have t9 := markText_eq (k + 1 + 1 + 1 + 1 + 1 + 1 + 1 + 1 + 2 * (x9.length : Int)) (by omega)
    have m8 := markEntryS_eq x9 (fun r hr => typL_len _ r (tx9 r hr)) (by omega) (k + 1 + 1 + 1 + 1 + 1 + 1 + 1 + 1) (by omega) (by omega)
    have f8 : fstSz 2 x9 = true := fst_ok (fun r hr => typL_len _ r (tx9 r hr))
    have o8 : ∀ z (y : List (List D)), okR zr55 zo55 (some ([.one (.i .i64 z)], [[.l y]])) = true := fun _ _ => rfl
    have v8 : ∀ z (y : List (List D)), asL (outC (some ([.one (.i .i64 z)], [[.l y]])) 0 0) = y := fun _ _ => rfl
    have i8 : ∀ z (y : List (List D)), asI (resC (some ([.one (.i .i64 z)], [[.l y]])) 0 0) = z := fun _ _ => rfl
    have d8 : ∀ c1 c2 c3 c4 c5 c6 c7 c8 c10 : D, asL (nthD [c1, c2, c3, c4, c5, c6, c7, c8, .l x9, c10] 8) = x9 := fun _ _ _ _ _ _ _ _ _ => rfl
    have h8 : ∀ c1 c2 c3 c4 c5 c6 c7 c8 c10 : D, decide (9 ≤ ([c1, c2, c3, c4, c5, c6, c7, c8, .l x9, c10] : List D).length) = true := fun _ _ _ _ _ _ _ _ _ => rfl
    have k8 : ∀ c1 c2 c3 c4 c5 c6 c7 c8 c10 : D, isF [.l []] 8 [c1, c2, c3, c4, c5, c6, c7, c8, .l x9, c10] = true := fun _ _ _ _ _ _ _ _ _ => rfl
    have hw := w64_succ a.length (by omega)
    simp only [l31o0, e1, e0, eg, if_true, Int.toNat_natCast, p0, p1, p2, p3, p4, p5, p6, p7, p9, u0, u1, u2, u3, u4, u5, u6, u7, u9, t9, markText_w, markText_r, st10_0 a b _ rfl, st10_1 a b _ rfl, st10_2 a b _ rfl, st10_3 a b _ rfl, st10_4 a b _ rfl, st10_5 a b _ rfl, st10_6 a b _ rfl, st10_7 a b _ rfl, st10_8 a b _ rfl, st10_9 a b _ rfl, m8, f8, o8, v8, i8, d8, h8, k8, Bool.and_true, chk_true, hw]
    have := fun (z0 : SV) => ih (a ++ [rowMMsgS k [.i .i64 x1, .i .i64 x2, .i .i64 x3, .i .i64 x4, .i .i64 x5, .i .i64 x6, .i .i64 x7, .b x8, .l x9, .s x10]]) m (k + 1 + 1 + 1 + 1 + 1 + 1 + 1 + 1 + 2 * (x9.length : Int) + 1) z0 hb hb2 (by omega) (by simp; omega) (by omega) (by omega)
    have e3 : (a ++ [rowMMsgS k [.i .i64 x1, .i .i64 x2, .i .i64 x3, .i .i64 x4, .i .i64 x5, .i .i64 x6, .i .i64 x7, .b x8, .l x9, .s x10]]).length = a.length + 1 := by simp
    simp only [e3, List.append_assoc] at this
    have e5 : a ++ markedMsgS k ([.i .i64 x1, .i .i64 x2, .i .i64 x3, .i .i64 x4, .i .i64 x5, .i .i64 x6, .i .i64 x7, .b x8, .l x9, .s x10] :: b) = (a ++ [rowMMsgS k [.i .i64 x1, .i .i64 x2, .i .i64 x3, .i .i64 x4, .i .i64 x5, .i .i64 x6, .i .i64 x7, .b x8, .l x9, .s x10]]) ++ markedMsgS (k + 1 + 1 + 1 + 1 + 1 + 1 + 1 + 1 + 2 * (x9.length : Int) + 1) b := by rw [markedMsgS, e6, List.append_assoc]; rfl
    rw [e7, e5, List.append_assoc]
    exact this _
theorem markMsgS_eq (l : List (List D)) (h : ∀ r ∈ l, typL shMsg r) (hs : ∀ r ∈ l, szdL shMsg r) (hl : l.length ≤ 4000000) (k : Int) (h0 : 0 ≤ k) (hk : k + cntMsgS l ≤ 4000000000000000000) : t31 l k = some ([.one (.i .i64 (k + cntMsgS l))], [[.l (markedMsgS k l)]]) := by
  unfold t31
  exact markMsgS_loop _ _ (fun _ _ _ _ => rfl) l [] KK k _ h hs (by rw [KK_eq]; omega) (by simpa using hl) h0 hk
theorem heldMsgS_loop (n9 : Int) (q1 : Int → Int → Bool → Bool → SV → SV → SV → SV → SV → SV → SV → SV → SV → Rs) (q2 : Int → Int → Bool → Bool → Bool → SV → SV → SV → SV → SV → SV → SV → SV → Rs) (q3 : Int → Int → Bool → Bool → Bool → Bool → SV → SV → SV → SV → SV → SV → SV → Rs) (q4 : Int → Int → Bool → Bool → Bool → Bool → Bool → SV → SV → SV → SV → SV → SV → Rs) (q5 : Int → Int → Bool → Bool → Bool → Bool → Bool → Bool → SV → SV → SV → SV → SV → Rs) (q6 : Int → Int → Bool → Bool → Bool → Bool → Bool → Bool → Bool → SV → SV → SV → SV → Rs) (q7 : Int → Int → Bool → Bool → Bool → Bool → Bool → Bool → Bool → Bool → SV → SV → SV → Rs) (q8 : Int → Int → Bool → Bool → Bool → Bool → Bool → Bool → Bool → Bool → Bool → SV → SV → Rs) (q9 : Int → Int → Bool → Bool → Bool → Bool → Bool → Bool → Bool → Bool → Bool → Bool → SV → Rs) (q10 : Int → Int → Bool → Bool → Bool → Bool → Bool → Bool → Bool → Bool → Bool → Bool → Bool → Rs) (q11 : Int → Int → Bool → SV → SV → SV → SV → SV → SV → SV → SV → SV → SV → Rs) (hq : ∀ z0 z1 z2 z3 z4 z5 z6 z7 z8 z9 z10 z11 z12, q11 z0 z1 z2 z3 z4 z5 z6 z7 z8 z9 z10 z11 z12 = some ([.one (.i .i64 z0)], [])) : ∀ (b a : List (List D)) (m : Nat) (k : Int) (v11 v12 v13 v14 v15 v16 v17 v18 v19 v20 v21 : SV) (L : List (List D)) (i : Int), (∀ r ∈ b, typL shMsg r) → (∀ r ∈ b, szdL shMsg r) → L = a ++ markedMsgS k b → i = (a.length : Int) → b.length < m → a.length + b.length ≤ 4000000 → 0 ≤ k → k + cntMsgS b ≤ 4000000000000000000 →
    l32o0 L n9 q1 q2 q3 q4 q5 q6 q7 q8 q9 q10 q11 m k i v11 v12 v13 v14 v15 v16 v17 v18 v19 v20 v21 = some ([.one (.i .i64 (k + cntMsgS b))], []) := by
  intro b
  induction b with
  | nil =>
    intro a m k v11 v12 v13 v14 v15 v16 v17 v18 v19 v20 v21 L i h hs hL hi hm hl h0 hk
    subst hL hi
    obtain ⟨m, rfl⟩ : ∃ m', m = m' + 1 := ⟨m - 1, by omega⟩
    have e : decide ((a.length : Int) < ((a ++ ([] : List (List D))).length : Int)) = false := by simp
    have e2 : k + cntMsgS [] = k := by simp [cntMsgS]
    rw [show markedMsgS k [] = [] from rfl]
    simp only [l32o0, e, Bool.false_eq_true, if_false, hq, e2]
  | cons r b ih =>
    intro a m k v11 v12 v13 v14 v15 v16 v17 v18 v19 v20 v21 L i h hs hL hi hm hl h0 hk
    subst hL hi
    obtain ⟨m, rfl⟩ : ∃ m', m = m' + 1 := ⟨m - 1, by omega⟩
    simp only [List.length_cons] at hm hl
    have hz := hs r (List.mem_cons_self ..)
    obtain ⟨x1, x2, x3, x4, x5, x6, x7, x8, x9, x10, rfl, wx9, tx9, wx10⟩ := Msg_row (h r (List.mem_cons_self ..))
    have hb : ∀ r ∈ b, typL shMsg r := fun r hr => h r (List.mem_cons_of_mem _ hr)
    have hb2 : ∀ r ∈ b, szdL shMsg r := fun r hr => hs r (List.mem_cons_of_mem _ hr)
    have sx9 : x9.length ≤ 1048576 ∧ ∀ r ∈ x9, szdL shEntry r := hz.2.2.2.2.2.2.2.2.1
    have lx9 := sx9.1
    have nb := cntMsgS_nn b
    have e6 : k + cntRMsgS [.i .i64 x1, .i .i64 x2, .i .i64 x3, .i .i64 x4, .i .i64 x5, .i .i64 x6, .i .i64 x7, .b x8, .l x9, .s x10] = k + 1 + 1 + 1 + 1 + 1 + 1 + 1 + 1 + 2 * (x9.length : Int) + 1 := by simp only [cntRMsgS, nthD, asL]; omega
    have e7 : k + cntMsgS ([.i .i64 x1, .i .i64 x2, .i .i64 x3, .i .i64 x4, .i .i64 x5, .i .i64 x6, .i .i64 x7, .b x8, .l x9, .s x10] :: b) = k + 1 + 1 + 1 + 1 + 1 + 1 + 1 + 1 + 2 * (x9.length : Int) + 1 + cntMsgS b := by rw [cntMsgS, ← Int.add_assoc, e6]
    rw [e7] at hk
    have e1 : ∀ (r : List D) (b : List (List D)), decide ((a.length : Int) < ((a ++ r :: b).length : Int)) = true := fun r b => decide_eq_true (by simp; omega)
    have e0 : decide (0 ≤ (a.length : Int)) = true := decide_eq_true (by omega)
    have eg : ∀ (r : List D) (b : List (List D)), (a ++ r :: b).getD a.length [] = r := fun r b => getD_mid a b r _ rfl
    have u0 : w64 (k + 1) = k + 1 := w64_in _ (by omega)
    have u1 : w64 (k + 1 + 1) = k + 1 + 1 := w64_in _ (by omega)
    have u2 : w64 (k + 1 + 1 + 1) = k + 1 + 1 + 1 := w64_in _ (by omega)
    have u3 : w64 (k + 1 + 1 + 1 + 1) = k + 1 + 1 + 1 + 1 := w64_in _ (by omega)
    have u4 : w64 (k + 1 + 1 + 1 + 1 + 1) = k + 1 + 1 + 1 + 1 + 1 := w64_in _ (by omega)
    have u5 : w64 (k + 1 + 1 + 1 + 1 + 1 + 1) = k + 1 + 1 + 1 + 1 + 1 + 1 := w64_in _ (by omega)
    have u6 : w64 (k + 1 + 1 + 1 + 1 + 1 + 1 + 1) = k + 1 + 1 + 1 + 1 + 1 + 1 + 1 := w64_in _ (by omega)
    have u7 : w64 (k + 1 + 1 + 1 + 1 + 1 + 1 + 1 + 1) = k + 1 + 1 + 1 + 1 + 1 + 1 + 1 + 1 := w64_in _ (by omega)
    have u9 : w64 (k + 1 + 1 + 1 + 1 + 1 + 1 + 1 + 1 + 2 * (x9.length : Int) + 1) = k + 1 + 1 + 1 + 1 + 1 + 1 + 1 + 1 + 2 * (x9.length : Int) + 1 := w64_in _ (by omega)
    have t9 := markText_eq (k + 1 + 1 + 1 + 1 + 1 + 1 + 1 + 1 + 2 * (x9.length : Int)) (by omega)
    have m8 := heldEntryS_eq x9 (by omega) (k + 1 + 1 + 1 + 1 + 1 + 1 + 1 + 1) (by omega) (by omega)
    have o8 : ∀ z, okR zr57 zo57 (some ([.one (.i .i64 z)], [])) = true := fun _ => rfl
    have i8 : ∀ z, asI (resC (some ([.one (.i .i64 z)], [])) 0 0) = z := fun _ => rfl
    have n8 : decide (k + 1 + 1 + 1 + 1 + 1 + 1 + 1 + 1 + 2 * (x9.length : Int) < 0) = false := decide_eq_false (by omega)
    have hw := w64_succ a.length (by omega)
    have this := fun (z0 : SV) (z1 : SV) (z2 : SV) (z3 : SV) (z4 : SV) (z5 : SV) (z6 : SV) (z7 : SV) (z8 : SV) (z9 : SV) (z10 : SV) => ih (a ++ [rowMMsgS k [.i .i64 x1, .i .i64 x2, .i .i64 x3, .i .i64 x4, .i .i64 x5, .i .i64 x6, .i .i64 x7, .b x8, .l x9, .s x10]]) m (k + 1 + 1 + 1 + 1 + 1 + 1 + 1 + 1 + 2 * (x9.length : Int) + 1) z0 z1 z2 z3 z4 z5 z6 z7 z8 z9 z10 _ _ hb hb2 rfl rfl (by omega) (by simp; omega) (by omega) (by omega)
    have e3 : (a ++ [rowMMsgS k [.i .i64 x1, .i .i64 x2, .i .i64 x3, .i .i64 x4, .i .i64 x5, .i .i64 x6, .i .i64 x7, .b x8, .l x9, .s x10]]).length = a.length + 1 := by simp
    simp only [e3, List.append_assoc] at this
    have e5 : a ++ markedMsgS k ([.i .i64 x1, .i .i64 x2, .i .i64 x3, .i .i64 x4, .i .i64 x5, .i .i64 x6, .i .i64 x7, .b x8, .l x9, .s x10] :: b) = a ++ rowMMsgS k [.i .i64 x1, .i .i64 x2, .i .i64 x3, .i .i64 x4, .i .i64 x5, .i .i64 x6, .i .i64 x7, .b x8, .l x9, .s x10] :: markedMsgS (k + 1 + 1 + 1 + 1 + 1 + 1 + 1 + 1 + 2 * (x9.length : Int) + 1) b := by rw [markedMsgS, e6]
    rw [e5]
    have ez : isRow z83 (rowMMsgS k [.i .i64 x1, .i .i64 x2, .i .i64 x3, .i .i64 x4, .i .i64 x5, .i .i64 x6, .i .i64 x7, .b x8, .l x9, .s x10]) = true := rfl
    have d0 : asI (nthD (rowMMsgS k [.i .i64 x1, .i .i64 x2, .i .i64 x3, .i .i64 x4, .i .i64 x5, .i .i64 x6, .i .i64 x7, .b x8, .l x9, .s x10]) 0) = (k) := rfl
    have d1 : asI (nthD (rowMMsgS k [.i .i64 x1, .i .i64 x2, .i .i64 x3, .i .i64 x4, .i .i64 x5, .i .i64 x6, .i .i64 x7, .b x8, .l x9, .s x10]) 1) = (k + 1) := rfl
    have d2 : asI (nthD (rowMMsgS k [.i .i64 x1, .i .i64 x2, .i .i64 x3, .i .i64 x4, .i .i64 x5, .i .i64 x6, .i .i64 x7, .b x8, .l x9, .s x10]) 2) = (k + 1 + 1) := rfl
    have d3 : asI (nthD (rowMMsgS k [.i .i64 x1, .i .i64 x2, .i .i64 x3, .i .i64 x4, .i .i64 x5, .i .i64 x6, .i .i64 x7, .b x8, .l x9, .s x10]) 3) = (k + 1 + 1 + 1) := rfl
    have d4 : asI (nthD (rowMMsgS k [.i .i64 x1, .i .i64 x2, .i .i64 x3, .i .i64 x4, .i .i64 x5, .i .i64 x6, .i .i64 x7, .b x8, .l x9, .s x10]) 4) = (k + 1 + 1 + 1 + 1) := rfl
    have d5 : asI (nthD (rowMMsgS k [.i .i64 x1, .i .i64 x2, .i .i64 x3, .i .i64 x4, .i .i64 x5, .i .i64 x6, .i .i64 x7, .b x8, .l x9, .s x10]) 5) = (k + 1 + 1 + 1 + 1 + 1) := rfl
    have d6 : asI (nthD (rowMMsgS k [.i .i64 x1, .i .i64 x2, .i .i64 x3, .i .i64 x4, .i .i64 x5, .i .i64 x6, .i .i64 x7, .b x8, .l x9, .s x10]) 6) = (k + 1 + 1 + 1 + 1 + 1 + 1) := rfl
    have d7 : asB (nthD (rowMMsgS k [.i .i64 x1, .i .i64 x2, .i .i64 x3, .i .i64 x4, .i .i64 x5, .i .i64 x6, .i .i64 x7, .b x8, .l x9, .s x10]) 7) = (((k + 1 + 1 + 1 + 1 + 1 + 1 + 1).tmod (3 : Int)) == (0 : Int)) := rfl
    have d8 : asL (nthD (rowMMsgS k [.i .i64 x1, .i .i64 x2, .i .i64 x3, .i .i64 x4, .i .i64 x5, .i .i64 x6, .i .i64 x7, .b x8, .l x9, .s x10]) 8) = (markedEntryS (k + 1 + 1 + 1 + 1 + 1 + 1 + 1 + 1) x9) := rfl
    have d9 : asS (nthD (rowMMsgS k [.i .i64 x1, .i .i64 x2, .i .i64 x3, .i .i64 x4, .i .i64 x5, .i .i64 x6, .i .i64 x7, .b x8, .l x9, .s x10]) 9) = (mkT (k + 1 + 1 + 1 + 1 + 1 + 1 + 1 + 1 + 2 * (x9.length : Int))) := rfl
    simp only [l32o0, e1, e0, if_true, Int.toNat_natCast, eg, ez, d0, d1, d2, d3, d4, d5, d6, d7, d8, d9, u0, u1, u2, u3, u4, u5, u6, u7, u9, t9, markText_w, markText_r, m8, o8, i8, n8, bne_self_eq_false, beq_self_eq_true, Bool.not_true, Bool.false_eq_true, if_false, Bool.and_true, chk_true, hw]
    rw [e7]
    exact this _ _ _ _ _ _ _ _ _ _ _
theorem heldMsgS_eq (l : List (List D)) (h : ∀ r ∈ l, typL shMsg r) (hs : ∀ r ∈ l, szdL shMsg r) (hl : l.length ≤ 4000000) (k : Int) (h0 : 0 ≤ k) (hk : k + cntMsgS l ≤ 4000000000000000000) : t32 (markedMsgS k l) k = some ([.one (.i .i64 (k + cntMsgS l))], []) := by
  unfold t32
  exact heldMsgS_loop _ _ _ _ _ _ _ _ _ _ _ _ (fun _ _ _ _ _ _ _ _ _ _ _ _ _ => rfl) l [] KK k _ _ _ _ _ _ _ _ _ _ _ _ _ h hs rfl rfl (by rw [KK_eq]; omega) (by simpa using hl) h0 hk
end Go.Den.L9

/- Kept ones, cores. -/
namespace Go.Den.L9
open Go
def mx (p : Int) : Int := if p < 1 then 1 else p
def allB (f : Nat → Bool) : Nat → Nat → Bool
  | 0, _ => true
  | k + 1, i => f i && allB f k (i + 1)
theorem int_row : ∀ r, typL shInt r → isRow z3 r = true := fun r h => by
  obtain ⟨a, rfl⟩ := Int_row h; rfl
theorem flat_of {n : Nat} {l : List (List D)} (h : ∀ r ∈ l, (decide (r.length = n) && allSc r) = true) : flatR n l = true := by
  induction l with
  | nil => rfl
  | cons r l ih => simp only [flatR, h r (by simp), ih (fun r hr => h r (by simp [hr])), Bool.and_true]
theorem entry_flat {l : List (List D)} (h : ∀ r ∈ l, typL shEntry r) : flatR 2 l = true := flat_of fun r hr => by
  obtain ⟨a, b, rfl, _⟩ := Entry_row (h r hr); rfl
theorem kept_loopS (n23 n24 n25 n26 : Int) (s27 : ByteArray) (l28 : List (List D)) (b29 b32 : Bool) (t n36 n37 n38 : Int) (s39 : ByteArray) (q1 : Int → Int → Bool → Bool → Int → ByteArray → Rs) (q2 : Int → Int → Bool → SV → Rs) (h1 : ∀ a b c d e f, q1 a b c d e f = some ([.one (.b false)], [])) (h2 : ∀ a b c d, q2 a b c d = some ([.one (.b true)], [])) (l : List (List D)) (h : ∀ r ∈ l, typL shEntry r) (hl : l.length < 4611686018427387904) : ∀ (k i m : Nat) (p : Int) (v w : SV), i + k = l.length → k < m →
    l40o1 n23 n24 n25 n26 s27 l28 b29 b32 t n36 n37 n38 s39 l q1 q2 m p i v w = some ([.one (.b (runB l t k i (mx p)))], []) := by
  intro k
  induction k with
  | zero =>
    intro i m p v w e hm
    obtain ⟨m, rfl⟩ : ∃ m', m = m' + 1 := ⟨m - 1, by omega⟩
    have ei : decide ((i : Int) < (l.length : Int)) = false := by simp; omega
    simp only [l40o1, ei, h2, runB]
    simp
  | succ k ih =>
    intro i m p v w e hm
    obtain ⟨m, rfl⟩ : ∃ m', m = m' + 1 := ⟨m - 1, by omega⟩
    have e1 := nat_in (i := i) (n := l.length) (by omega)
    have ez := row_in h _ entry_row i (by omega)
    simp only [l40o1, e1, nat_pos, Int.toNat_natCast, ez, Bool.and_true, chk_true, if_true, runB]
    rw [w64_succ i (by omega)]
    have hm1 : mx p = if p < 1 then 1 else p := rfl
    by_cases g : mx p ≤ asI (nthD (l.getD i []) 0) ∧ asI (nthD (l.getD i []) 0) ≤ t ∧ ((asS (nthD (l.getD i []) 1)).size : Int) ≤ 1600
    · have g1 : (((decide (asI (nthD (l.getD i []) 0) < 1) || decide (asI (nthD (l.getD i []) 0) < p)) || decide (asI (nthD (l.getD i []) 0) > t)) || decide (((asS (nthD (l.getD i []) 1)).size : Int) > 1600)) = false := by
        simp only [Bool.or_eq_false_iff, decide_eq_false_iff_not]; rw [hm1] at g; split at g <;> omega
      simp only [g1, decide_eq_true g, Bool.true_and, Bool.false_eq_true, if_false]
      have hmx : mx (asI (nthD (l.getD i []) 0)) = asI (nthD (l.getD i []) 0) := by unfold mx; rw [hm1] at g; split at g <;> (rw [if_neg (by omega)])
      have := ih (i + 1) m (asI (nthD (l.getD i []) 0)) (.d (.b true)) (.d (.b false)) (by omega) (by omega)
      rw [hmx] at this
      exact this
    · have g1 : (((decide (asI (nthD (l.getD i []) 0) < 1) || decide (asI (nthD (l.getD i []) 0) < p)) || decide (asI (nthD (l.getD i []) 0) > t)) || decide (((asS (nthD (l.getD i []) 1)).size : Int) > 1600)) = true := by
        simp only [Bool.or_eq_true, decide_eq_true_eq]; rw [hm1] at g; split at g <;> omega
      simp only [g1, if_true, h1, decide_eq_false g, Bool.false_and]
theorem kept_loopI (n26 n27 n28 n29 : Int) (s30 : ByteArray) (l31 : List (List D)) (b32 b34 b35 : Bool) (t n42 n43 n44 : Int) (s45 : ByteArray) (l46 : List (List D)) (q1 : Int → Int → Bool → Bool → Int → ByteArray → Rs) (q2 : Int → Int → Bool → SV → Rs) (g : Bool) (h1 : ∀ a b c d e f, q1 a b c d e f = some ([.one (.b false)], [])) (h2 : ∀ a b c d, q2 a b c d = some ([.one (.b g)], [])) (l : List (List D)) (h : ∀ r ∈ l, typL shEntry r) (hl : l.length < 4611686018427387904) : ∀ (k i m : Nat) (p : Int) (v w : SV), i + k = l.length → k < m →
    l47o2 n26 n27 n28 n29 s30 l31 b32 b34 b35 l (l.length : Int) t n42 n43 n44 s45 l46 q1 q2 m p i v w = some ([.one (.b (runB l t k i p && g))], []) := by
  intro k
  induction k with
  | zero =>
    intro i m p v w e hm
    obtain ⟨m, rfl⟩ : ∃ m', m = m' + 1 := ⟨m - 1, by omega⟩
    have ei : decide ((i : Int) < (l.length : Int)) = false := by simp; omega
    simp only [l47o2, ei, h2, runB]
    simp
  | succ k ih =>
    intro i m p v w e hm
    obtain ⟨m, rfl⟩ : ∃ m', m = m' + 1 := ⟨m - 1, by omega⟩
    have e1 := nat_in (i := i) (n := l.length) (by omega)
    have ez := row_in h _ entry_row i (by omega)
    have ew : ∀ x, okR zr46 zo46 (some ([.one (.b x)], [])) = true := fun _ => rfl
    have eb : ∀ x, asB (resC (some ([.one (.b x)], [])) 0 0) = x := fun _ => rfl
    simp only [l47o2, e1, nat_pos, Int.toNat_natCast, ez, within_eq, ew, eb, Bool.and_true, Bool.true_or, chk_true, if_true, runB]
    rw [w64_succ i (by omega)]
    by_cases g' : p ≤ asI (nthD (l.getD i []) 0) ∧ asI (nthD (l.getD i []) 0) ≤ t ∧ ((asS (nthD (l.getD i []) 1)).size : Int) ≤ 1600
    · have g1 : (decide (((asS (nthD (l.getD i []) 1)).size : Int) > 1600) || !(decide (p ≤ asI (nthD (l.getD i []) 0)) && decide (asI (nthD (l.getD i []) 0) ≤ t))) = false := by
        simp only [Bool.or_eq_false_iff, Bool.not_eq_false', Bool.and_eq_true, decide_eq_false_iff_not, decide_eq_true_eq]; omega
      simp only [g1, decide_eq_true g', Bool.true_and, Bool.false_eq_true, if_false]
      exact ih (i + 1) m _ _ _ (by omega) (by omega)
    · have g1 : (decide (((asS (nthD (l.getD i []) 1)).size : Int) > 1600) || !(decide (p ≤ asI (nthD (l.getD i []) 0)) && decide (asI (nthD (l.getD i []) 0) ≤ t))) = true := by
        simp only [Bool.or_eq_true, Bool.not_eq_true', Bool.and_eq_false_iff, decide_eq_false_iff_not, decide_eq_true_eq]; omega
      simp only [g1, if_true, h1, decide_eq_false g', Bool.false_and]
def keptA (t v si st : Int) (ss : ByteArray) (l : List (List D)) : Bool :=
  decide (0 ≤ t ∧ t ≤ 100000 ∧ -1 ≤ v ∧ v ≤ 4 ∧ (si = 0 → (ss.size : Int) = 0) ∧ (ss.size : Int) ≤ 20000 ∧ st ≤ t ∧ (l.length : Int) ≤ 60 ∧ w64 (si + (l.length : Int)) ≤ 100000) && placeB si st
def keptB (t v si st : Int) (ss : ByteArray) (l : List (List D)) : Bool := keptA t v si st ss l && runB l t l.length 0 (mx st)
theorem keptOk_spec (t v si st : Int) (ss : ByteArray) (l : List (List D)) (hl : l.length ≤ 1048576) (h : ∀ r ∈ l, typL shEntry r) : t40 t v si st ss l = some ([.one (.b (keptB t v si st ss l))], []) := by
  have ew : ∀ x, okR zr39 zo39 (some ([.one (.b x)], [])) = true := fun _ => rfl
  have ew2 : ∀ x, okR zr74 zo74 (some ([.one (.b x)], [])) = true := fun _ => rfl
  have eb : ∀ x, asB (resC (some ([.one (.b x)], [])) 0 0) = x := fun _ => rfl
  have key := fun b29 b32 => kept_loopS t v si st ss l b29 b32 t v si st ss (fun _ _ _ _ _ _ => some ([.one (.b false)], [])) (fun _ _ _ _ => some ([.one (.b true)], [])) (fun _ _ _ _ _ _ => rfl) (fun _ _ _ _ => rfl) l h (by omega) l.length 0 KK st .undef .undef (by omega) (by rw [KK_eq]; omega)
  simp only [t40, in_eq, place_spec, ew, ew2, eb, Bool.true_or, chk_true]
  rw [ite_not _ (keptA t v si st ss l)]
  · unfold keptB
    cases keptA t v si st ss l
    · rfl
    · refine Eq.trans (key _ _) ?_; simp
  · unfold keptA
    generalize placeB si st = pl
    rw [Bool.eq_iff_iff]
    cases pl <;> simp [-ByteArray.size_eq_zero_iff] <;> try omega
theorem keptOk_impl (t v si st : Int) (ss : ByteArray) (l : List (List D)) (hl : l.length ≤ 1048576) (h : ∀ r ∈ l, typL shEntry r) : t47 t v si st ss l = some ([.one (.b (keptB t v si st ss l))], []) := by
  have ew : ∀ x, okR zr46 zo46 (some ([.one (.b x)], [])) = true := fun _ => rfl
  have eb : ∀ x, asB (resC (some ([.one (.b x)], [])) 0 0) = x := fun _ => rfl
  have key := fun b32 b34 b35 => kept_loopI t v si st ss l b32 b34 b35 t v si st ss l (fun _ _ _ _ _ _ => some ([.one (.b false)], [])) (fun _ _ _ _ => some ([.one (.b (decide (w64 (si + (l.length : Int)) ≤ 100000)))], [])) _ (fun _ _ _ _ _ _ => rfl) (fun _ _ _ _ => rfl) l h (by omega) l.length 0 KK (mx st) .undef .undef (by omega) (by rw [KK_eq]; omega)
  have e : (if st > 1 then st else 1) = mx st := by unfold mx; split <;> split <;> omega
  simp only [t47, within_eq, ew, eb, Bool.true_or, chk_true, e]
  unfold keptB keptA placeB
  split
  · rename_i g
    apply bool_some
    symm
    rw [Bool.eq_false_iff]
    simp at g ⊢
    omega
  · rename_i g
    split
    · rename_i g2
      apply bool_some
      symm
      rw [Bool.eq_false_iff]
      simp [-ByteArray.size_eq_zero_iff] at g g2 ⊢
      omega
    · rename_i g2
      refine Eq.trans (key _ _ _) ?_
      apply bool_some
      rw [Bool.eq_iff_iff]
      generalize runB l t l.length 0 (mx st) = r
      cases r
      · simp
      · simp [-ByteArray.size_eq_zero_iff] at g g2 ⊢
        omega
end Go.Den.L9

/- Cores that are right. -/
namespace Go.Den.L9
open Go
abbrev xI (l : List (List D)) (i : Nat) : Int := asI (nthD (l.getD i []) 0)
def seekF (l : List (List D)) (N : Int) (i : Nat) : Bool := decide (0 ≤ xI l i ∧ xI l i ≤ w64 (N - 1)) && (decide (i = 0) || decide (xI l (i - 1) < xI l i))
def leadF (nx mt : List (List D)) (La : Int) (i : Nat) : Bool := decide (0 ≤ xI mt i ∧ xI mt i < xI nx i ∧ xI nx i ≤ w64 (La + 1))
def noF (l : List (List D)) (x : Int) (i : Nat) : Bool := !(xI l i == x)
theorem last_spec (n1 n2 n3 n4 n5 n6 n7 n8 : Int) (l9 : List (List D)) (n10 : Int) (l11 l12 l13 : List (List D)) : t42 n1 n2 n3 n4 n5 n6 n7 n8 l9 n10 l11 l12 l13 = some ([.one (.i .i64 (w64 (n7 + (l9.length : Int))))], []) := rfl
theorem last_impl (n1 n2 n3 n4 n5 n6 n7 n8 : Int) (l9 : List (List D)) (n10 : Int) (l11 l12 l13 : List (List D)) : t49 n1 n2 n3 n4 n5 n6 n7 n8 l9 n10 l11 l12 l13 = some ([.one (.i .i64 (w64 (n7 + (l9.length : Int))))], []) := rfl
theorem prev_eq (i : Nat) (h : 0 < i) (hi : i < 4611686018427387904) : w64 ((i : Int) - 1) = ((i - 1 : Nat) : Int) := by
  rw [w64_in _ (by omega)]; omega
theorem seek_loopS (n47 n48 n49 n50 n51 n52 n53 n54 : Int) (l55 : List (List D)) (n56 : Int) (l57 l58 l59 : List (List D)) (b60 b62 : Bool) (n63 : Int) (b64 b65 : Bool) (n68 N n70 n71 n72 n73 n74 n75 : Int) (l76 : List (List D)) (n77 : Int) (l79 l80 l81 : List (List D)) (q1 : Int → Bool → Bool → Rs) (q2 : Int → Bool → SV → Rs) (g : Bool) (h1 : ∀ a b c, q1 a b c = some ([.one (.b false)], [])) (h2 : ∀ a b c, q2 a b c = some ([.one (.b g)], [])) (l : List (List D)) (h : ∀ r ∈ l, typL shInt r) (hl : l.length < 4611686018427387904) : ∀ (k i m : Nat) (v w : SV), i + k = l.length → k < m →
    l11o3 n47 n48 n49 n50 n51 n52 n53 n54 l55 n56 l57 l58 l59 b60 b62 n63 b64 b65 n68 N n70 n71 n72 n73 n74 n75 l76 n77 l l79 l80 l81 q1 q2 m i v w = some ([.one (.b (allB (seekF l N) k i && g))], []) := by
  intro k
  induction k with
  | zero =>
    intro i m v w e hm
    obtain ⟨m, rfl⟩ : ∃ m', m = m' + 1 := ⟨m - 1, by omega⟩
    have ei : decide ((i : Int) < (l.length : Int)) = false := by simp; omega
    simp only [l11o3, ei, h2, allB, Bool.true_and]
    simp
  | succ k ih =>
    intro i m v w e hm
    obtain ⟨m, rfl⟩ : ∃ m', m = m' + 1 := ⟨m - 1, by omega⟩
    have e1 := nat_in (i := i) (n := l.length) (by omega)
    have ez := row_in h _ int_row i (by omega)
    have ew : ∀ x, okR zr39 zo39 (some ([.one (.b x)], [])) = true := fun _ => rfl
    have eb : ∀ x, asB (resC (some ([.one (.b x)], [])) 0 0) = x := fun _ => rfl
    have hw := w64_succ i (by omega)
    by_cases hi : i = 0
    · subst hi
      have a1 : decide (((0 : Nat) : Int) > 0) = false := rfl
      simp only [l11o3, e1, nat_pos, Int.toNat_natCast, ez, in_eq, ew, eb, a1, Bool.and_false, Bool.false_and, Bool.not_false, Bool.or_true, Bool.or_false, Bool.and_true, chk_true, if_true, hw]
      have hs : seekF l N 0 = (decide (0 ≤ xI l 0) && decide (xI l 0 ≤ w64 (N - 1))) := by unfold seekF; simp
      rw [ite_not _ (seekF l N 0) (by rw [hs])]
      simp only [allB]
      cases hb : seekF l N 0
      · simp [h1]
      · simp only [if_true, Bool.true_and]
        exact ih 1 m _ _ (by omega) (by omega)
    · have a1 : decide ((i : Int) > 0) = true := by simp; omega
      have a2 := prev_eq i (by omega) (by omega)
      have e1' := nat_in (i := i - 1) (n := l.length) (by omega)
      have ez' := row_in h _ int_row (i - 1) (by omega)
      simp only [l11o3, e1, nat_pos, Int.toNat_natCast, ez, in_eq, ew, eb, a1, a2, e1', ez', Bool.true_or, Bool.and_true, Bool.true_and, chk_true, if_true, hw]
      rw [ite_not _ (seekF l N i) (by
        unfold seekF xI
        rw [Bool.eq_iff_iff]; simp [hi] <;> try omega)]
      simp only [allB]
      cases hb : seekF l N i
      · simp [h1]
      · simp only [if_true, Bool.true_and]
        exact ih (i + 1) m _ _ (by omega) (by omega)
theorem seek_loopI (n31 N n33 n34 n35 n36 n37 n38 : Int) (l39 : List (List D)) (n40 : Int) (l42 l43 : List (List D)) (b44 : Bool) (q1 : Int → Int → Bool → Bool → Rs) (q2 : SV → SV → Int → Bool → SV → Rs) (g : Bool) (h1 : ∀ a b c d, q1 a b c d = some ([.one (.b false)], [])) (h2 : ∀ a b c d e, q2 a b c d e = some ([.one (.b g)], [])) (l : List (List D)) (h : ∀ r ∈ l, typL shInt r) (hl : l.length < 4611686018427387904) : ∀ (k i m : Nat) (u1 u2 v w : SV), i + k = l.length → k < m →
    l50o0 n31 N n33 n34 n35 n36 n37 n38 l39 n40 l l42 l43 b44 l (l.length : Int) q1 q2 m u1 u2 i v w = some ([.one (.b (allB (seekF l N) k i && g))], []) := by
  intro k
  induction k with
  | zero =>
    intro i m u1 u2 v w e hm
    obtain ⟨m, rfl⟩ : ∃ m', m = m' + 1 := ⟨m - 1, by omega⟩
    have ei : decide ((i : Int) < (l.length : Int)) = false := by simp; omega
    simp only [l50o0, ei, h2, allB, Bool.true_and]
    simp
  | succ k ih =>
    intro i m u1 u2 v w e hm
    obtain ⟨m, rfl⟩ : ∃ m', m = m' + 1 := ⟨m - 1, by omega⟩
    have e1 := nat_in (i := i) (n := l.length) (by omega)
    have ez := row_in h _ int_row i (by omega)
    have ew : ∀ x, okR zr46 zo46 (some ([.one (.b x)], [])) = true := fun _ => rfl
    have eb : ∀ x, asB (resC (some ([.one (.b x)], [])) 0 0) = x := fun _ => rfl
    have hw := w64_succ i (by omega)
    by_cases hi : i = 0
    · subst hi
      have a1 : decide (((0 : Nat) : Int) > 0) = false := rfl
      simp only [l50o0, e1, nat_pos, Int.toNat_natCast, ez, within_eq, ew, eb, a1, Bool.and_false, Bool.false_and, Bool.not_false, Bool.or_true, Bool.or_false, Bool.and_true, chk_true, if_true, hw]
      have hs : seekF l N 0 = (decide (0 ≤ xI l 0) && decide (xI l 0 ≤ w64 (N - 1))) := by unfold seekF; simp
      rw [ite_not _ (seekF l N 0) (by rw [hs])]
      simp only [allB]
      cases hb : seekF l N 0
      · simp [h1]
      · simp only [if_true, Bool.true_and]
        exact ih 1 m _ _ _ _ (by omega) (by omega)
    · have a1 : decide ((i : Int) > 0) = true := by simp; omega
      have a2 := prev_eq i (by omega) (by omega)
      have e1' := nat_in (i := i - 1) (n := l.length) (by omega)
      have ez' := row_in h _ int_row (i - 1) (by omega)
      simp only [l50o0, e1, nat_pos, Int.toNat_natCast, ez, within_eq, ew, eb, a1, a2, e1', ez', Bool.true_or, Bool.and_true, Bool.true_and, chk_true, if_true, hw]
      rw [ite_not _ (seekF l N i) (by
        unfold seekF xI
        rw [Bool.eq_iff_iff]; simp [hi] <;> try omega)]
      simp only [allB]
      cases hb : seekF l N i
      · simp [h1]
      · simp only [if_true, Bool.true_and]
        exact ih (i + 1) m _ _ _ _ (by omega) (by omega)
theorem lead_loopS (n164 n165 n166 n167 n168 n169 n170 n171 : Int) (l172 : List (List D)) (n173 : Int) (l174 l175 l176 : List (List D)) (b177 b179 : Bool) (n180 : Int) (b181 b182 b183 b184 : Bool) (n187 n189 n190 n191 n192 n193 n194 : Int) (l195 : List (List D)) (n196 : Int) (l197 l200 : List (List D)) (q1 : Int → Bool → Bool → Rs) (q2 : Int → Bool → SV → Rs) (g : Bool) (h1 : ∀ a b c, q1 a b c = some ([.one (.b false)], [])) (h2 : ∀ a b c, q2 a b c = some ([.one (.b g)], [])) (nx l : List (List D)) (hx : ∀ r ∈ nx, typL shInt r) (h : ∀ r ∈ l, typL shInt r) (hn : nx.length = l.length) (hl : l.length < 4611686018427387904) : ∀ (k i m : Nat) (v w : SV), i + k = l.length → k < m →
    l11o8 n164 n165 n166 n167 n168 n169 n170 n171 l172 n173 l174 l175 l176 b177 b179 n180 b181 b182 b183 b184 n187 (l.length : Int) n189 n190 n191 n192 n193 n194 l195 n196 l197 nx l l200 q1 q2 m i v w = some ([.one (.b (allB (leadF nx l (w64 (n193 + (l195.length : Int)))) k i && g))], []) := by
  intro k
  induction k with
  | zero =>
    intro i m v w e hm
    obtain ⟨m, rfl⟩ : ∃ m', m = m' + 1 := ⟨m - 1, by omega⟩
    have ei : decide ((i : Int) < (l.length : Int)) = false := by simp; omega
    simp only [l11o8, ei, h2, allB, Bool.true_and]
    simp
  | succ k ih =>
    intro i m v w e hm
    obtain ⟨m, rfl⟩ : ∃ m', m = m' + 1 := ⟨m - 1, by omega⟩
    have e1 := nat_in (i := i) (n := l.length) (by omega)
    have ez := row_in h _ int_row i (by omega)
    have e1' := nat_in (i := i) (n := nx.length) (by omega)
    have ez' := row_in hx _ int_row i (by omega)
    have ew : ∀ x, okR zr42 zo42 (some ([.one (.i .i64 x)], [])) = true := fun _ => rfl
    have eb : ∀ x, asI (resC (some ([.one (.i .i64 x)], [])) 0 0) = x := fun _ => rfl
    have hw := w64_succ i (by omega)
    simp only [l11o8, e1, e1', nat_pos, Int.toNat_natCast, ez, ez', last_spec, ew, eb, Bool.true_or, Bool.and_true, chk_true, if_true, hw]
    rw [ite_not _ (leadF nx l (w64 (n193 + (l195.length : Int))) i) (by
      unfold leadF xI
      rw [Bool.eq_iff_iff]; simp; omega)]
    simp only [allB]
    cases hb : leadF nx l (w64 (n193 + (l195.length : Int))) i
    · simp [h1]
    · simp only [if_true, Bool.true_and]
      exact ih (i + 1) m _ _ (by omega) (by omega)
theorem lead_loopI (n32 n33 n34 n35 n36 n37 n38 n39 : Int) (l40 : List (List D)) (n41 : Int) (l42 l44 : List (List D)) (b45 b48 : Bool) (q1 : Int → Int → Bool → Bool → Rs) (q2 : SV → SV → Int → Bool → SV → Rs) (g : Bool) (h1 : ∀ a b c d, q1 a b c d = some ([.one (.b false)], [])) (h2 : ∀ a b c d e, q2 a b c d e = some ([.one (.b g)], [])) (nx l : List (List D)) (hx : ∀ r ∈ nx, typL shInt r) (h : ∀ r ∈ l, typL shInt r) (hn : nx.length = l.length) (hl : l.length < 4611686018427387904) : ∀ (k i m : Nat) (u1 u2 v w : SV), i + k = l.length → k < m →
    l51o1 n32 n33 n34 n35 n36 n37 n38 n39 l40 n41 l42 nx l44 b45 b48 l (l.length : Int) q1 q2 m u1 u2 i v w = some ([.one (.b (allB (leadF nx l (w64 (n38 + (l40.length : Int)))) k i && g))], []) := by
  intro k
  induction k with
  | zero =>
    intro i m u1 u2 v w e hm
    obtain ⟨m, rfl⟩ : ∃ m', m = m' + 1 := ⟨m - 1, by omega⟩
    have ei : decide ((i : Int) < (l.length : Int)) = false := by simp; omega
    simp only [l51o1, ei, h2, allB, Bool.true_and]
    simp
  | succ k ih =>
    intro i m u1 u2 v w e hm
    obtain ⟨m, rfl⟩ : ∃ m', m = m' + 1 := ⟨m - 1, by omega⟩
    have e1 := nat_in (i := i) (n := l.length) (by omega)
    have ez := row_in h _ int_row i (by omega)
    have e1' := nat_in (i := i) (n := nx.length) (by omega)
    have ez' := row_in hx _ int_row i (by omega)
    have ew : ∀ x, okR zr49 zo49 (some ([.one (.i .i64 x)], [])) = true := fun _ => rfl
    have eb : ∀ x, asI (resC (some ([.one (.i .i64 x)], [])) 0 0) = x := fun _ => rfl
    have hw := w64_succ i (by omega)
    simp only [l51o1, e1, e1', nat_pos, Int.toNat_natCast, ez, ez', last_impl, ew, eb, Bool.true_or, Bool.and_true, chk_true, if_true, hw]
    rw [ite_not _ (leadF nx l (w64 (n38 + (l40.length : Int))) i) (by
      unfold leadF xI
      rw [Bool.eq_iff_iff]; simp; omega)]
    simp only [allB]
    cases hb : leadF nx l (w64 (n38 + (l40.length : Int))) i
    · simp [h1]
    · simp only [if_true, Bool.true_and]
      exact ih (i + 1) m _ _ _ _ (by omega) (by omega)
theorem in_loop (x : Int) (b : Bool) (q1 : Int → Bool → Bool → Rs) (q2 : Int → Bool → SV → Rs) (h1 : ∀ a b c, q1 a b c = some ([.one (.b true)], [])) (h2 : ∀ a b c, q2 a b c = some ([.one (.b false)], [])) (l : List (List D)) (h : ∀ r ∈ l, typL shInt r) (hl : l.length < 4611686018427387904) : ∀ (k i m : Nat) (v w : SV), i + k = l.length → k < m →
    l43o0 l x b q1 q2 m i v w = some ([.one (.b (!(allB (noF l x) k i)))], []) := by
  intro k
  induction k with
  | zero =>
    intro i m v w e hm
    obtain ⟨m, rfl⟩ : ∃ m', m = m' + 1 := ⟨m - 1, by omega⟩
    have ei : decide ((i : Int) < (l.length : Int)) = false := by simp; omega
    simp only [l43o0, ei, h2, allB]
    simp
  | succ k ih =>
    intro i m v w e hm
    obtain ⟨m, rfl⟩ : ∃ m', m = m' + 1 := ⟨m - 1, by omega⟩
    have e1 := nat_in (i := i) (n := l.length) (by omega)
    have ez := row_in h _ int_row i (by omega)
    have hw := w64_succ i (by omega)
    simp only [l43o0, e1, nat_pos, Int.toNat_natCast, ez, Bool.and_true, chk_true, if_true, hw, allB]
    cases hb : noF l x i
    · have : (asI (nthD (l.getD i []) 0) == x) = true := by unfold noF at hb; simpa only [Bool.not_eq_false'] using hb
      simp only [this, if_true, h1, Bool.false_and, Bool.not_false]
    · have : (asI (nthD (l.getD i []) 0) == x) = false := by unfold noF at hb; simpa only [Bool.not_eq_true'] using hb
      simp only [this, Bool.false_eq_true, if_false, Bool.true_and]
      exact ih (i + 1) m _ _ (by omega) (by omega)
theorem in_spec (l : List (List D)) (hl : l.length ≤ 1048576) (h : ∀ r ∈ l, typL shInt r) (x : Int) : t43 l x = some ([.one (.b (!(allB (noF l x) l.length 0)))], []) :=
  in_loop x false (fun _ _ _ => some ([.one (.b true)], [])) (fun _ _ _ => some ([.one (.b false)], [])) (fun _ _ _ => rfl) (fun _ _ _ => rfl) l h (by omega) l.length 0 KK .undef .undef (by omega) (by rw [KK_eq]; omega)
theorem ix_loop (x n10 : Int) (q1 : Int → Bool → Bool → Rs) (q2 : SV → Int → Bool → SV → Rs) (h1 : ∀ a b c, q1 a b c = some ([.one (.i .i64 a)], [])) (h2 : ∀ a b c d, q2 a b c d = some ([.one (.i .i64 (-1))], [])) (l : List (List D)) (h : ∀ r ∈ l, typL shInt r) (hl : l.length < 4611686018427387904) : ∀ (k i m : Nat) (u v w : SV), i + k = l.length → k < m →
    ∃ y : Int, l88o0 l x n10 (l.length : Int) q1 q2 m u i v w = some ([.one (.i .i64 y)], []) ∧ decide (y ≥ 0) = !(allB (noF l x) k i) := by
  intro k
  induction k with
  | zero =>
    intro i m u v w e hm
    obtain ⟨m, rfl⟩ : ∃ m', m = m' + 1 := ⟨m - 1, by omega⟩
    have ei : decide ((i : Int) < (l.length : Int)) = false := by simp; omega
    exact ⟨-1, by simp only [l88o0, ei, h2, Bool.false_eq_true, if_false], rfl⟩
  | succ k ih =>
    intro i m u v w e hm
    obtain ⟨m, rfl⟩ : ∃ m', m = m' + 1 := ⟨m - 1, by omega⟩
    have e1 := nat_in (i := i) (n := l.length) (by omega)
    have ez := row_in h _ int_row i (by omega)
    have hw := w64_succ i (by omega)
    simp only [l88o0, e1, nat_pos, Int.toNat_natCast, ez, Bool.and_true, chk_true, if_true, hw, allB]
    cases hb : noF l x i
    · have : (x == asI (nthD (l.getD i []) 0)) = true := by
        unfold noF at hb
        have h' : asI (nthD (l.getD i []) 0) = x := by simpa only [Bool.not_eq_false', beq_iff_eq] using hb
        rw [h']; exact beq_self_eq_true x
      exact ⟨i, by simp only [this, if_true, h1], by simp only [Bool.false_and, Bool.not_false]; exact decide_eq_true (by omega)⟩
    · have : (x == asI (nthD (l.getD i []) 0)) = false := by
        unfold noF at hb
        have h' : ¬ asI (nthD (l.getD i []) 0) = x := by simpa only [Bool.not_eq_true', beq_eq_false_iff_ne, ne_eq] using hb
        rw [beq_eq_false_iff_ne]; exact fun e => h' e.symm
      simp only [this, Bool.false_eq_true, if_false, Bool.true_and]
      exact ih (i + 1) m _ _ _ (by omega) (by omega)
theorem in_impl (l : List (List D)) (hl : l.length ≤ 1048576) (h : ∀ r ∈ l, typL shInt r) (x : Int) : t76 l x = some ([.one (.b (!(allB (noF l x) l.length 0)))], []) := by
  obtain ⟨y, hy, hd⟩ := ix_loop x 0 (fun a _ _ => some ([.one (.i .i64 a)], [])) (fun _ _ _ _ => some ([.one (.i .i64 (-1))], [])) (fun _ _ _ => rfl) (fun _ _ _ _ => rfl) l h (by omega) l.length 0 KK .undef .undef .undef (by omega) (by rw [KK_eq]; omega)
  have hy' : t88 l x = some ([.one (.i .i64 y)], []) := hy
  have ew : okR zr88 zo88 (some ([.one (.i .i64 y)], [])) = true := rfl
  have eb : asI (resC (some ([.one (.i .i64 y)], [])) 0 0) = y := rfl
  simp only [t76, hy', ew, eb, chk_true, hd]
def roleB (n1 n2 n3 n4 n5 n6 n7 : Int) (l9 l11 l12 l13 : List (List D)) : Bool :=
  if n5 = 1 then decide (-1 ≤ n6 ∧ n6 ≤ n2 - 1 ∧ n6 ≠ n1 ∧ l11.length = 0 ∧ l12.length = 0 ∧ l13.length = 0)
  else if n5 = 2 then allB (seekF l11 n2) l11.length 0 && (decide (n3 ≥ 1 ∧ n4 = n1 ∧ n6 = -1 ∧ 2 * (l11.length : Int) ≤ n2 ∧ l12.length = 0 ∧ l13.length = 0) && !(allB (noF l11 n1) l11.length 0))
  else if n5 = 3 then decide (n3 ≥ 1 ∧ n4 = n1 ∧ n6 = n1 ∧ l11.length = 0 ∧ (l12.length : Int) = n2 ∧ (l13.length : Int) = n2) && (decide (xI l13 n1.toNat = w64 (n7 + (l9.length : Int))) && allB (leadF l12 l13 (w64 (n7 + (l9.length : Int)))) l13.length 0)
  else false
def coreB (n1 n2 n3 n4 n5 n6 n7 n8 : Int) (l9 : List (List D)) (n10 : Int) (l11 l12 l13 : List (List D)) : Bool :=
  decide (1 ≤ n2 ∧ n2 ≤ 5 ∧ 0 ≤ n1 ∧ n1 ≤ n2 - 1 ∧ ¬ (n7 = 0 ∧ n8 ≠ 0)) && (keptB n3 n4 n7 n8 ⟨#[]⟩ l9 && (decide (n4 < n2 ∧ n7 ≤ n10 ∧ n10 ≤ w64 (n7 + (l9.length : Int))) && roleB n1 n2 n3 n4 n5 n6 n7 l9 l11 l12 l13))
theorem coreKept_spec (n1 n2 n3 n4 n5 n6 n7 n8 : Int) (l9 : List (List D)) (n10 : Int) (l11 l12 l13 : List (List D)) (h7 : ¬ (n7 = 0 ∧ n8 ≠ 0)) (hl : l9.length ≤ 1048576) (h : ∀ r ∈ l9, typL shEntry r) : t41 n1 n2 n3 n4 n5 n6 n7 n8 l9 n10 l11 l12 l13 ⟨#[]⟩ = some ([.agg [.i .i64 n3, .i .i64 n4, .i .i64 n7, .i .i64 n8, .s ⟨#[]⟩, .l l9]], []) := by
  unfold t41
  rw [chk_ok (by rw [entry_flat h]; simp only [Bool.true_and]; exact decide_eq_true (by simp only [List.length_nil]; unfold lim; omega))]
  by_cases g : n7 = 0
  · have : n8 = 0 := by omega
    subst g; subst this; rfl
  · have : (n7 != 0) = true := by simpa using g
    simp only [this, if_true, List.nil_append]
theorem coreKept_impl (n1 n2 n3 n4 n5 n6 n7 n8 : Int) (l9 : List (List D)) (n10 : Int) (l11 l12 l13 : List (List D)) (h7 : ¬ (n7 = 0 ∧ n8 ≠ 0)) (hl : l9.length ≤ 1048576) (h : ∀ r ∈ l9, typL shEntry r) : t48 n1 n2 n3 n4 n5 n6 n7 n8 l9 n10 l11 l12 l13 ⟨#[]⟩ = some ([.agg [.i .i64 n3, .i .i64 n4, .i .i64 n7, .i .i64 n8, .s ⟨#[]⟩, .l l9]], []) := by
  unfold t48
  rw [chk_ok (by rw [entry_flat h]; simp only [Bool.true_and]; exact decide_eq_true (by unfold lim; omega))]
  by_cases g : n7 = 0
  · have : n8 = 0 := by omega
    subst g; subst this; rfl
  · have : (n7 != 0) = true := by simpa using g
    simp only [this, if_true]
theorem core_spec (n1 n2 n3 n4 n5 n6 n7 n8 : Int) (l9 : List (List D)) (n10 : Int) (l11 l12 l13 : List (List D)) (hl : l9.length ≤ 1048576) (h : ∀ r ∈ l9, typL shEntry r) (hl1 : l11.length ≤ 1048576) (h1 : ∀ r ∈ l11, typL shInt r) (hl2 : l12.length ≤ 1048576) (h2 : ∀ r ∈ l12, typL shInt r) (hl3 : l13.length ≤ 1048576) (h3 : ∀ r ∈ l13, typL shInt r) :
    t11 n1 n2 n3 n4 n5 n6 n7 n8 l9 n10 l11 l12 l13 = some ([.one (.b (coreB n1 n2 n3 n4 n5 n6 n7 n8 l9 n10 l11 l12 l13))], []) := by
  have ew : ∀ x, okR zr39 zo39 (some ([.one (.b x)], [])) = true := fun _ => rfl
  have ew1 : ∀ x, okR zr42 zo42 (some ([.one (.i .i64 x)], [])) = true := fun _ => rfl
  have ew2 : ∀ x, okR zr40 zo40 (some ([.one (.b x)], [])) = true := fun _ => rfl
  have ew3 : ∀ x, okR zr43 zo43 (some ([.one (.b x)], [])) = true := fun _ => rfl
  have ew4 : okR zr41 zo41 (some ([.agg [.i .i64 n3, .i .i64 n4, .i .i64 n7, .i .i64 n8, .s ⟨#[]⟩, .l l9]], [])) = true := rfl
  have eb : ∀ x, asB (resC (some ([.one (.b x)], [])) 0 0) = x := fun _ => rfl
  have ei : ∀ x, asI (resC (some ([.one (.i .i64 x)], [])) 0 0) = x := fun _ => rfl
  have r0 : asI (resC (some ([.agg [.i .i64 n3, .i .i64 n4, .i .i64 n7, .i .i64 n8, .s ⟨#[]⟩, .l l9]], [])) 0 0) = n3 := rfl
  have r1 : asI (resC (some ([.agg [.i .i64 n3, .i .i64 n4, .i .i64 n7, .i .i64 n8, .s ⟨#[]⟩, .l l9]], [])) 0 1) = n4 := rfl
  have r2 : asI (resC (some ([.agg [.i .i64 n3, .i .i64 n4, .i .i64 n7, .i .i64 n8, .s ⟨#[]⟩, .l l9]], [])) 0 2) = n7 := rfl
  have r3 : asI (resC (some ([.agg [.i .i64 n3, .i .i64 n4, .i .i64 n7, .i .i64 n8, .s ⟨#[]⟩, .l l9]], [])) 0 3) = n8 := rfl
  have r4 : asS (resC (some ([.agg [.i .i64 n3, .i .i64 n4, .i .i64 n7, .i .i64 n8, .s ⟨#[]⟩, .l l9]], [])) 0 4) = ⟨#[]⟩ := rfl
  have r5 : asL (resC (some ([.agg [.i .i64 n3, .i .i64 n4, .i .i64 n7, .i .i64 n8, .s ⟨#[]⟩, .l l9]], [])) 0 5) = l9 := rfl
  have ey : ((!(decide (1 ≤ n2) && decide (n2 ≤ 5)) || !(decide (0 ≤ n1) && decide (n1 ≤ w64 (n2 - 1)))) || ((n7 == 0) && (n8 != 0))) = !decide (1 ≤ n2 ∧ n2 ≤ 5 ∧ 0 ≤ n1 ∧ n1 ≤ n2 - 1 ∧ ¬ (n7 = 0 ∧ n8 ≠ 0)) := by
    by_cases hn : 1 ≤ n2 ∧ n2 ≤ 5
    · rw [w64_in (n2 - 1) (by omega), Bool.eq_iff_iff]; simp; omega
    · rw [Bool.eq_iff_iff]; simp; omega
  unfold coreB
  by_cases hP : 1 ≤ n2 ∧ n2 ≤ 5 ∧ 0 ≤ n1 ∧ n1 ≤ n2 - 1 ∧ ¬ (n7 = 0 ∧ n8 ≠ 0)
  · rw [decide_eq_true hP] at ey ⊢
    have hk := coreKept_spec n1 n2 n3 n4 n5 n6 n7 n8 l9 n10 l11 l12 l13 hP.2.2.2.2 hl h
    simp only [t11, in_eq, ew, ew1, ew2, ew3, eb, ei, ey, Bool.true_or, chk_true, hk, ew4, r0, r1, r2, r3, r4, r5, keptOk_spec _ _ _ _ _ l9 hl h, last_spec, in_spec l11 hl1 h1, Bool.not_true, Bool.not_false, if_true, Bool.false_or, Bool.true_and]
    generalize keptB n3 n4 n7 n8 ⟨#[]⟩ l9 = K
    cases K
    · simp only [Bool.not_false, Bool.true_or, if_true, Bool.false_and]
    simp only [Bool.not_true, Bool.false_or, Bool.true_and]
    have eq : (decide (n4 ≥ n2) || !(decide (n7 ≤ n10) && decide (n10 ≤ w64 (n7 + (l9.length : Int))))) = !decide (n4 < n2 ∧ n7 ≤ n10 ∧ n10 ≤ w64 (n7 + (l9.length : Int))) := by
      rw [Bool.eq_iff_iff]; simp <;> try omega
    by_cases hQ : n4 < n2 ∧ n7 ≤ n10 ∧ n10 ≤ w64 (n7 + (l9.length : Int))
    rotate_left
    · rw [decide_eq_false hQ] at eq ⊢
      simp only [eq, Bool.not_false, if_true, Bool.false_and]
    rw [decide_eq_true hQ] at eq ⊢
    simp only [eq, Bool.not_true, Bool.false_eq_true, if_false, Bool.true_and]
    unfold roleB
    by_cases k1 : n5 = 1
    · subst k1
      simp only [show ((1 : Int) == 1) = true from rfl, if_true]
      apply bool_some
      rw [w64_in (n2 - 1) (by omega), Bool.eq_iff_iff]
      simp [-List.length_eq_zero_iff]; omega
    have j1 : (n5 == 1) = false := by simpa using k1
    by_cases k2 : n5 = 2
    · subst k2
      simp only [j1, k1, show ((2 : Int) == 2) = true from rfl, Bool.false_eq_true, if_false, if_true]
      refine Eq.trans (seek_loopS _ _ _ _ _ _ _ _ _ _ _ _ _ _ _ _ _ _ _ n2 _ _ _ _ _ _ _ _ _ _ _ (fun n123 b124 b125 => some ([.one (.b false)], [])) (fun n126 b127 v128 => some ([.one (.b (decide (n3 ≥ 1) && n4 == n1 && n6 == -1 && !allB (noF l11 n1) l11.length 0 && decide (w64 (2 * (l11.length : Int)) ≤ n2) && (l12.length : Int) == 0 && (l13.length : Int) == 0))], [])) _ (fun _ _ _ => rfl) (fun _ _ _ => rfl) l11 h1 (by omega) l11.length 0 KK .undef .undef (by omega) (by rw [KK_eq]; omega)) ?_
      apply bool_some
      generalize allB (seekF l11 n2) l11.length 0 = r1
      generalize allB (noF l11 n1) l11.length 0 = r2
      rw [w64_in (2 * (l11.length : Int)) (by omega)]
      cases r1 <;> cases r2 <;> (rw [Bool.eq_iff_iff]; simp [-List.length_eq_zero_iff] <;> try omega)
    have j2 : (n5 == 2) = false := by simpa using k2
    by_cases k3 : n5 = 3
    rotate_left
    · have j3 : (n5 == 3) = false := by simpa using k3
      simp only [j1, k1, j2, k2, j3, k3, Bool.false_eq_true, if_false]
    subst k3
    simp only [j1, k1, j2, k2, show ((3 : Int) == 3) = true from rfl, Bool.false_eq_true, if_false, if_true]
    have ez : ((((((decide (n3 < 1) || (n4 != n1)) || (n6 != n1)) || decide ((l11.length : Int) > 0)) || ((l12.length : Int) != n2)) || ((l13.length : Int) != n2))) = !decide (n3 ≥ 1 ∧ n4 = n1 ∧ n6 = n1 ∧ l11.length = 0 ∧ (l12.length : Int) = n2 ∧ (l13.length : Int) = n2) := by
      rw [Bool.eq_iff_iff]; simp [-List.length_eq_zero_iff]; omega
    by_cases hR : n3 ≥ 1 ∧ n4 = n1 ∧ n6 = n1 ∧ l11.length = 0 ∧ (l12.length : Int) = n2 ∧ (l13.length : Int) = n2
    rotate_left
    · rw [decide_eq_false hR] at ez ⊢
      simp only [ez, Bool.not_false, Bool.not_true, Bool.or_true, Bool.true_or, chk_true, if_true, Bool.false_and]
    rw [decide_eq_true hR] at ez ⊢
    have hn1 : n1.toNat < l13.length := by omega
    have c1 : (decide (0 ≤ n1) && decide (n1 < (l13.length : Int))) = true := by simp; omega
    have c2 := row_in h3 _ int_row n1.toNat hn1
    simp only [ez, c1, c2, Bool.not_true, Bool.not_false, Bool.false_or, Bool.true_or, Bool.and_true, Bool.true_and, chk_true]
    by_cases hm : xI l13 n1.toNat = w64 (n7 + (l9.length : Int))
    · have c3 : (asI (nthD (l13.getD n1.toNat []) 0) != w64 (n7 + (l9.length : Int))) = false := by simp only [bne_eq_false_iff_eq]; exact hm
      simp only [c3, Bool.false_eq_true, if_false, decide_eq_true hm, Bool.true_and]
      have key := lead_loopS n1 n2 n3 n4 3 n6 n7 n8 l9 n10 l11 l12 l13 false false 3 (3 == 1) (3 == 2) true false n1 n3 n4 3 n6 n7 n8 l9 n10 l11 l9 (fun n123 b124 b125 => some ([.one (.b false)], [])) (fun n247 b248 v249 => some ([.one (.b true)], [])) true (fun _ _ _ => rfl) (fun _ _ _ => rfl) l12 l13 h2 h3 (by omega) (by omega) l13.length 0 KK .undef .undef (by omega) (by rw [KK_eq]; omega)
      rw [hR.2.2.2.2.2] at key
      refine Eq.trans key ?_
      simp only [Bool.and_true]
    · have c3 : (asI (nthD (l13.getD n1.toNat []) 0) != w64 (n7 + (l9.length : Int))) = true := by simp only [bne_iff_ne]; exact hm
      simp only [c3, if_true, decide_eq_false hm, Bool.false_and]
  · rw [decide_eq_false hP] at ey ⊢
    simp only [t11, in_eq, ew, ew1, eb, ei, ey, Bool.true_or, chk_true, last_spec, Bool.not_true, Bool.not_false, Bool.false_eq_true, if_false, Bool.false_and]
theorem kept_pos {t v si st : Int} {ss : ByteArray} {l : List (List D)} (h : keptB t v si st ss l = true) : 0 ≤ si := by
  unfold keptB keptA placeB at h
  simp only [Bool.and_eq_true, decide_eq_true_eq] at h
  omega
theorem coreB_eq (n1 n2 n3 n4 n5 n6 n7 n8 : Int) (l9 : List (List D)) (n10 : Int) (l11 l12 l13 : List (List D)) : coreB n1 n2 n3 n4 n5 n6 n7 n8 l9 n10 l11 l12 l13 =
    (decide (1 ≤ n2 ∧ n2 ≤ 5 ∧ 0 ≤ n1 ∧ n1 ≤ n2 - 1 ∧ n4 < n2 ∧ 0 ≤ n7 ∧ ¬ (n7 = 0 ∧ n8 ≠ 0)) && (keptB n3 n4 n7 n8 ⟨#[]⟩ l9 && (decide (n7 ≤ n10 ∧ n10 ≤ w64 (n7 + (l9.length : Int))) && roleB n1 n2 n3 n4 n5 n6 n7 l9 l11 l12 l13))) := by
  unfold coreB
  cases hk : keptB n3 n4 n7 n8 ⟨#[]⟩ l9
  · simp
  · have := kept_pos hk
    generalize roleB n1 n2 n3 n4 n5 n6 n7 l9 l11 l12 l13 = r
    rw [Bool.eq_iff_iff]
    cases r
    · simp
    · simp; omega
theorem most_eq (n1 n2 n3 n4 n5 n6 n7 n8 : Int) (l9 : List (List D)) (n10 : Int) (l11 l12 l13 : List (List D)) (n : Int) : t77 n1 n2 n3 n4 n5 n6 n7 n8 l9 n10 l11 l12 l13 n = some ([.one (.b (decide (w64 (2 * n) > n2)))], []) := rfl
theorem seekOk_eq (n1 n2 n3 n4 n5 n6 n7 n8 : Int) (l9 : List (List D)) (n10 : Int) (l11 l12 l13 : List (List D)) (hl1 : l11.length ≤ 1048576) (h1 : ∀ r ∈ l11, typL shInt r) (hl2 : l12.length ≤ 1048576) (hl3 : l13.length ≤ 1048576) :
    t50 n1 n2 n3 n4 n5 n6 n7 n8 l9 n10 l11 l12 l13 = some ([.one (.b (allB (seekF l11 n2) l11.length 0 && (decide (n3 ≥ 1 ∧ n4 = n1 ∧ n6 = -1 ∧ 2 * (l11.length : Int) ≤ n2 ∧ l12.length = 0 ∧ l13.length = 0) && !(allB (noF l11 n1) l11.length 0))))], []) := by
  have ew3 : ∀ x, okR zr76 zo76 (some ([.one (.b x)], [])) = true := fun _ => rfl
  have ew4 : ∀ x, okR zr77 zo77 (some ([.one (.b x)], [])) = true := fun _ => rfl
  have eb : ∀ x, asB (resC (some ([.one (.b x)], [])) 0 0) = x := fun _ => rfl
  unfold t50
  simp only [in_impl l11 hl1 h1, most_eq, ew3, ew4, eb, Bool.true_or, chk_true]
  refine Eq.trans (seek_loopI n1 n2 n3 n4 n5 n6 n7 n8 l9 n10 l12 l13 false (fun n82 n83 b84 b85 => some ([.one (.b false)], [])) (fun v86 v87 n88 b89 v90 => some ([.one (.b ((((((decide (n3 ≥ 1)) && (n4 == n1)) && (n6 == -1)) && (!allB (noF l11 n1) l11.length 0)) && (!decide (w64 (2 * (l11.length : Int)) > n2))) && (w64 ((l12.length : Int) + (l13.length : Int)) == 0)))], [])) _ (fun _ _ _ _ => rfl) (fun _ _ _ _ _ => rfl) l11 h1 (by omega) l11.length 0 KK .undef .undef .undef .undef (by omega) (by rw [KK_eq]; omega)) ?_
  apply bool_some
  generalize allB (seekF l11 n2) l11.length 0 = r1
  generalize allB (noF l11 n1) l11.length 0 = r2
  rw [w64_in (2 * (l11.length : Int)) (by omega), w64_in ((l12.length : Int) + (l13.length : Int)) (by omega)]
  cases r1 <;> cases r2 <;> (rw [Bool.eq_iff_iff]; simp [-List.length_eq_zero_iff] <;> try omega)
theorem leadOk_eq (n1 n2 n3 n4 n5 n6 n7 n8 : Int) (l9 : List (List D)) (n10 : Int) (l11 l12 l13 : List (List D)) (h01 : 0 ≤ n1 ∧ n1 ≤ n2 - 1) (hl2 : l12.length ≤ 1048576) (h2 : ∀ r ∈ l12, typL shInt r) (hl3 : l13.length ≤ 1048576) (h3 : ∀ r ∈ l13, typL shInt r) :
    t51 n1 n2 n3 n4 n5 n6 n7 n8 l9 n10 l11 l12 l13 = some ([.one (.b (decide (n3 ≥ 1 ∧ n4 = n1 ∧ n6 = n1 ∧ l11.length = 0 ∧ (l12.length : Int) = n2 ∧ (l13.length : Int) = n2) && (decide (xI l13 n1.toNat = w64 (n7 + (l9.length : Int))) && allB (leadF l12 l13 (w64 (n7 + (l9.length : Int)))) l13.length 0)))], []) := by
  have ew1 : ∀ x, okR zr49 zo49 (some ([.one (.i .i64 x)], [])) = true := fun _ => rfl
  have ei : ∀ x, asI (resC (some ([.one (.i .i64 x)], [])) 0 0) = x := fun _ => rfl
  have ez : ((((((decide (n3 < 1) || (n4 != n1)) || (n6 != n1)) || decide ((l11.length : Int) > 0)) || ((l12.length : Int) != n2)) || ((l13.length : Int) != n2))) = !decide (n3 ≥ 1 ∧ n4 = n1 ∧ n6 = n1 ∧ l11.length = 0 ∧ (l12.length : Int) = n2 ∧ (l13.length : Int) = n2) := by
    rw [Bool.eq_iff_iff]; simp [-List.length_eq_zero_iff]; omega
  unfold t51
  by_cases hR : n3 ≥ 1 ∧ n4 = n1 ∧ n6 = n1 ∧ l11.length = 0 ∧ (l12.length : Int) = n2 ∧ (l13.length : Int) = n2
  · rw [decide_eq_true hR] at ez ⊢
    have hn1 : n1.toNat < l13.length := by omega
    have c1 : (decide (0 ≤ n1) && decide (n1 < (l13.length : Int))) = true := by simp; omega
    have c2 := row_in h3 _ int_row n1.toNat hn1
    simp only [ez, c1, c2, last_impl, ew1, ei, Bool.not_true, Bool.false_eq_true, if_false, Bool.and_true, Bool.true_and, chk_true]
    refine Eq.trans (lead_loopI n1 n2 n3 n4 n5 n6 n7 n8 l9 n10 l11 l13 false false (fun n85 n86 b87 b88 => some ([.one (.b false)], [])) (fun v89 v90 n91 b92 v93 => some ([.one (.b (asI (nthD (l13.getD n1.toNat []) 0) == w64 (n7 + (l9.length : Int))))], [])) _ (fun _ _ _ _ => rfl) (fun _ _ _ _ _ => rfl) l12 l13 h2 h3 (by omega) (by omega) l13.length 0 KK .undef .undef .undef .undef (by omega) (by rw [KK_eq]; omega)) ?_
    apply bool_some
    rw [Bool.and_comm]
    congr 1
  · rw [decide_eq_false hR] at ez ⊢
    simp only [ez, Bool.not_false, if_true, Bool.false_and]
theorem core_impl (n1 n2 n3 n4 n5 n6 n7 n8 : Int) (l9 : List (List D)) (n10 : Int) (l11 l12 l13 : List (List D)) (hl : l9.length ≤ 1048576) (h : ∀ r ∈ l9, typL shEntry r) (hl1 : l11.length ≤ 1048576) (h1 : ∀ r ∈ l11, typL shInt r) (hl2 : l12.length ≤ 1048576) (h2 : ∀ r ∈ l12, typL shInt r) (hl3 : l13.length ≤ 1048576) (h3 : ∀ r ∈ l13, typL shInt r) :
    t13 n1 n2 n3 n4 n5 n6 n7 n8 l9 n10 l11 l12 l13 = some ([.one (.b (coreB n1 n2 n3 n4 n5 n6 n7 n8 l9 n10 l11 l12 l13))], []) := by
  have ew : ∀ x, okR zr46 zo46 (some ([.one (.b x)], [])) = true := fun _ => rfl
  have ew1 : ∀ x, okR zr49 zo49 (some ([.one (.i .i64 x)], [])) = true := fun _ => rfl
  have ew2 : ∀ x, okR zr47 zo47 (some ([.one (.b x)], [])) = true := fun _ => rfl
  have ew3 : ∀ x, okR zr76 zo76 (some ([.one (.b x)], [])) = true := fun _ => rfl
  have ew5 : ∀ x, okR zr50 zo50 (some ([.one (.b x)], [])) = true := fun _ => rfl
  have ew6 : ∀ x, okR zr51 zo51 (some ([.one (.b x)], [])) = true := fun _ => rfl
  have ew4 : okR zr48 zo48 (some ([.agg [.i .i64 n3, .i .i64 n4, .i .i64 n7, .i .i64 n8, .s ⟨#[]⟩, .l l9]], [])) = true := rfl
  have eb : ∀ x, asB (resC (some ([.one (.b x)], [])) 0 0) = x := fun _ => rfl
  have ei : ∀ x, asI (resC (some ([.one (.i .i64 x)], [])) 0 0) = x := fun _ => rfl
  have r0 : asI (resC (some ([.agg [.i .i64 n3, .i .i64 n4, .i .i64 n7, .i .i64 n8, .s ⟨#[]⟩, .l l9]], [])) 0 0) = n3 := rfl
  have r1 : asI (resC (some ([.agg [.i .i64 n3, .i .i64 n4, .i .i64 n7, .i .i64 n8, .s ⟨#[]⟩, .l l9]], [])) 0 1) = n4 := rfl
  have r2 : asI (resC (some ([.agg [.i .i64 n3, .i .i64 n4, .i .i64 n7, .i .i64 n8, .s ⟨#[]⟩, .l l9]], [])) 0 2) = n7 := rfl
  have r3 : asI (resC (some ([.agg [.i .i64 n3, .i .i64 n4, .i .i64 n7, .i .i64 n8, .s ⟨#[]⟩, .l l9]], [])) 0 3) = n8 := rfl
  have r4 : asS (resC (some ([.agg [.i .i64 n3, .i .i64 n4, .i .i64 n7, .i .i64 n8, .s ⟨#[]⟩, .l l9]], [])) 0 4) = ⟨#[]⟩ := rfl
  have r5 : asL (resC (some ([.agg [.i .i64 n3, .i .i64 n4, .i .i64 n7, .i .i64 n8, .s ⟨#[]⟩, .l l9]], [])) 0 5) = l9 := rfl
  have ey : ((((!(decide (1 ≤ n2) && decide (n2 ≤ 5)) || !(decide (0 ≤ n1) && decide (n1 ≤ w64 (n2 - 1)))) || decide (n4 ≥ n2)) || decide (n7 < 0)) || ((n7 == 0) && (n8 != 0))) = !decide (1 ≤ n2 ∧ n2 ≤ 5 ∧ 0 ≤ n1 ∧ n1 ≤ n2 - 1 ∧ n4 < n2 ∧ 0 ≤ n7 ∧ ¬ (n7 = 0 ∧ n8 ≠ 0)) := by
    by_cases hn : 1 ≤ n2 ∧ n2 ≤ 5
    · rw [w64_in (n2 - 1) (by omega), Bool.eq_iff_iff]; simp; omega
    · rw [Bool.eq_iff_iff]; simp; omega
  rw [coreB_eq]
  by_cases hP : 1 ≤ n2 ∧ n2 ≤ 5 ∧ 0 ≤ n1 ∧ n1 ≤ n2 - 1 ∧ n4 < n2 ∧ 0 ≤ n7 ∧ ¬ (n7 = 0 ∧ n8 ≠ 0)
  · rw [decide_eq_true hP] at ey ⊢
    have hk := coreKept_impl n1 n2 n3 n4 n5 n6 n7 n8 l9 n10 l11 l12 l13 hP.2.2.2.2.2.2 hl h
    simp only [t13, within_eq, ew, ew1, ew2, ew3, eb, ei, ey, Bool.true_or, chk_true, hk, ew4, r0, r1, r2, r3, r4, r5, keptOk_impl _ _ _ _ _ l9 hl h, last_impl, seekOk_eq n1 n2 n3 n4 n5 n6 n7 n8 l9 n10 l11 l12 l13 hl1 h1 hl2 hl3, leadOk_eq n1 n2 n3 n4 n5 n6 n7 n8 l9 n10 l11 l12 l13 ⟨hP.2.2.1, hP.2.2.2.1⟩ hl2 h2 hl3 h3, ew5, ew6, Bool.not_true, Bool.not_false, if_true, Bool.false_or, Bool.true_and]
    generalize keptB n3 n4 n7 n8 ⟨#[]⟩ l9 = K
    cases K
    · simp only [Bool.not_false, Bool.true_or, if_true, Bool.false_and]
    simp only [Bool.not_true, Bool.false_or, Bool.true_and]
    have eq : (!(decide (n7 ≤ n10) && decide (n10 ≤ w64 (n7 + (l9.length : Int))))) = !decide (n7 ≤ n10 ∧ n10 ≤ w64 (n7 + (l9.length : Int))) := by
      rw [Bool.eq_iff_iff]; simp
    by_cases hQ : n7 ≤ n10 ∧ n10 ≤ w64 (n7 + (l9.length : Int))
    rotate_left
    · rw [decide_eq_false hQ] at eq ⊢
      simp only [eq, Bool.not_false, if_true, Bool.false_and]
    rw [decide_eq_true hQ] at eq ⊢
    simp only [eq, Bool.not_true, Bool.false_eq_true, if_false, Bool.true_and]
    unfold roleB
    by_cases k1 : n5 = 1
    · subst k1
      simp only [show ((1 : Int) == 1) = true from rfl, if_true]
      apply bool_some
      rw [w64_in (n2 - 1) (by omega), w64_in ((l11.length : Int) + (l12.length : Int)) (by omega), w64_in _ (by omega), Bool.eq_iff_iff]
      simp [-List.length_eq_zero_iff]; omega
    have j1 : (n5 == 1) = false := by simpa using k1
    by_cases k2 : n5 = 2
    · subst k2
      simp only [j1, k1, show ((2 : Int) == 2) = true from rfl, Bool.false_eq_true, if_false, if_true]
    have j2 : (n5 == 2) = false := by simpa using k2
    by_cases k3 : n5 = 3
    · subst k3
      simp only [j1, k1, j2, k2, show ((3 : Int) == 3) = true from rfl, Bool.false_eq_true, if_false, if_true]
    · have j3 : (n5 == 3) = false := by simpa using k3
      simp only [j1, k1, j2, k2, j3, k3, Bool.false_eq_true, if_false]
  · rw [decide_eq_false hP] at ey ⊢
    simp only [t13, within_eq, ew, ew1, eb, ei, ey, Bool.true_or, chk_true, last_impl, Bool.not_true, Bool.not_false, Bool.false_eq_true, if_false, Bool.false_and]
end Go.Den.L9

/- Cores made, cut. -/
namespace Go.Den.L9
open Go
theorem int_flat {l : List (List D)} (h : ∀ r ∈ l, typL shInt r) : flatR 1 l = true := flat_of fun r hr => by
  obtain ⟨a, rfl⟩ := Int_row (h r hr); rfl
theorem coreB_place {n1 n2 n3 n4 n5 n6 n7 n8 : Int} {l9 : List (List D)} {n10 : Int} {l11 l12 l13 : List (List D)} (h : coreB n1 n2 n3 n4 n5 n6 n7 n8 l9 n10 l11 l12 l13 = true) : 0 ≤ n7 ∧ n7 ≤ n10 ∧ n10 ≤ n7 + (l9.length : Int) ∧ n7 ≤ 100000 ∧ (l9.length : Int) ≤ 60 := by
  rw [coreB_eq] at h
  simp only [Bool.and_eq_true, decide_eq_true_eq] at h
  obtain ⟨h1, h2, h3, _⟩ := h
  have h4 : keptA n3 n4 n7 n8 ⟨#[]⟩ l9 = true := by
    unfold keptB at h2
    rw [Bool.and_eq_true] at h2
    exact h2.1
  unfold keptA at h4
  rw [Bool.and_eq_true] at h4
  have h5 := of_decide_eq_true h4.1
  have h6 : n7 ≤ 100000 := by omega
  rw [w64_in (n7 + (l9.length : Int)) (by omega)] at h3
  omega
end Go.Den.L9

/- What a leader sends; how it counts. -/
namespace Go.Den.L9
open Go
def trm (n7 n8 : Int) (l9 : List (List D)) (i : Int) : Int := if i = n7 then n8 else asI (nthD (l9.getD (i - n7 - 1).toNat []) 0)
theorem term_spec (n1 n2 n3 n4 n5 n6 n7 n8 : Int) (l9 : List (List D)) (n10 : Int) (l11 l12 l13 : List (List D)) (h : ∀ r ∈ l9, typL shEntry r) (hl : l9.length ≤ 100) (h7 : 0 ≤ n7 ∧ n7 ≤ 200000) (i : Int) (hi : n7 ≤ i ∧ i ≤ n7 + (l9.length : Int)) :
    t62 n1 n2 n3 n4 n5 n6 n7 n8 l9 n10 l11 l12 l13 i = some ([.one (.i .i64 (trm n7 n8 l9 i))], []) := by
  unfold t62 trm
  by_cases g : i = n7
  · subst g; simp
  · have q : (i == n7) = false := by simpa using g
    have hlt : (i - n7 - 1).toNat < l9.length := by omega
    have e1 : (decide (0 ≤ i - n7 - 1) && decide (i - n7 - 1 < (l9.length : Int))) = true := by simp; omega
    simp only [q, Bool.false_eq_true, if_false, if_neg g]
    rw [w64_in (i - n7) (by omega), w64_in (i - n7 - 1) (by omega), e1, row_in h _ entry_row _ hlt]
    rfl
theorem term_impl (n1 n2 n3 n4 n5 n6 n7 n8 : Int) (l9 : List (List D)) (n10 : Int) (l11 l12 l13 : List (List D)) (h : ∀ r ∈ l9, typL shEntry r) (hl : l9.length ≤ 100) (h7 : 0 ≤ n7 ∧ n7 ≤ 200000) (i : Int) (hi : n7 ≤ i ∧ i ≤ n7 + (l9.length : Int)) :
    t64 n1 n2 n3 n4 n5 n6 n7 n8 l9 n10 l11 l12 l13 i = some ([.one (.i .i64 (trm n7 n8 l9 i))], []) := by
  unfold t64 trm
  by_cases g : i = n7
  · subst g; simp
  · have q : (i == n7) = false := by simpa using g
    have hlt : (i - n7 - 1).toNat < l9.length := by omega
    have e1 : (decide (0 ≤ i - n7 - 1) && decide (i - n7 - 1 < (l9.length : Int))) = true := by simp; omega
    simp only [q, Bool.false_eq_true, if_false, if_neg g]
    rw [w64_in (i - n7) (by omega), w64_in (i - n7 - 1) (by omega), e1, row_in h _ entry_row _ hlt]
    rfl
theorem entry_eta {r : List D} (h : typL shEntry r) : [D.i .i64 (asI (nthD r 0)), .s (asS (nthD r 1))] = r := by
  obtain ⟨a, b, rfl, _⟩ := Entry_row h; rfl
theorem to_loop {n64 n65 n66 n67 n68 n69 n70 n71 : Int} {l72 : List (List D)} {n73 : Int} {l74 l75 l76 : List (List D)} {n77 : Int} {b80 : Bool} {n82 n83 n84 n85 n86 n87 n89 n91 : Int} {l92 l93 l94 : List (List D)} {n95 n96 n97 n98 n99 n100 n101 : Int} {b102 : Bool} {s103 : ByteArray} {n104 n105 n106 n107 n108 n109 n110 : Int} {b111 : Bool} {s112 : ByteArray} (nx n7 : Int) (l9 : List (List D)) (q : Int → Bool → List (List D) → Rs) (R : List (List D) → Rs) (hq : ∀ a b l, q a b l = R l) (h : ∀ r ∈ l9, typL shEntry r) (hl : l9.length ≤ 100) (h7 : 0 ≤ n7 ∧ n7 ≤ 200000) (hx : n7 < nx ∧ nx ≤ n7 + (l9.length : Int) + 1) : ∀ (k j m : Nat) (v : SV), k + j = 4 → k < m → j ≤ (l9.drop (nx - 1 - n7).toNat).length →
    l80o1 n64 n65 n66 n67 n68 n69 n70 n71 l72 n73 l74 l75 l76 n77 nx b80 n82 n83 n84 n85 n86 n87 n7 n89 l9 n91 l92 l93 l94 n95 n96 n97 n98 n99 n100 n101 b102 s103 n104 n105 n106 n107 n108 n109 n110 b111 s112 q m (nx + (j : Int)) v ((l9.drop (nx - 1 - n7).toNat).take j) = R ((l9.drop (nx - 1 - n7).toNat).take 4) := by
  intro k
  have eL : (l9.drop (nx - 1 - n7).toNat).length = l9.length - (nx - 1 - n7).toNat := List.length_drop
  induction k with
  | zero =>
    intro j m v e hm hj
    obtain ⟨m, rfl⟩ : ∃ m', m = m' + 1 := ⟨m - 1, by omega⟩
    have ew1 : ∀ x, okR zr42 zo42 (some ([.one (.i .i64 x)], [])) = true := fun _ => rfl
    have ei : ∀ x, asI (resC (some ([.one (.i .i64 x)], [])) 0 0) = x := fun _ => rfl
    have e4 : j = 4 := by omega
    subst e4
    have c : (decide (nx + ((4 : Nat) : Int) ≤ w64 (n7 + (l9.length : Int))) && decide (nx + ((4 : Nat) : Int) < w64 (nx + 4))) = false := by
      rw [w64_in (nx + 4) (by omega)]; simp
    simp only [l80o1, last_spec, ew1, ei, c, chk_true, Bool.false_eq_true, if_false, hq]
  | succ k ih =>
    intro j m v e hm hj
    obtain ⟨m, rfl⟩ : ∃ m', m = m' + 1 := ⟨m - 1, by omega⟩
    have ew1 : ∀ x, okR zr42 zo42 (some ([.one (.i .i64 x)], [])) = true := fun _ => rfl
    have ei : ∀ x, asI (resC (some ([.one (.i .i64 x)], [])) 0 0) = x := fun _ => rfl
    by_cases g : j < (l9.drop (nx - 1 - n7).toNat).length
    · have c : (decide (nx + (j : Int) ≤ w64 (n7 + (l9.length : Int))) && decide (nx + (j : Int) < w64 (nx + 4))) = true := by
        rw [w64_in (nx + 4) (by omega), w64_in (n7 + _) (by omega)]; simp; omega
      have hlt : (nx + (j : Int) - n7 - 1).toNat < l9.length := by omega
      have e1 : (decide (0 ≤ nx + (j : Int) - n7 - 1) && decide (nx + (j : Int) - n7 - 1 < (l9.length : Int))) = true := by simp; omega
      have er := getD_row h hlt
      have et : (l9.drop (nx - 1 - n7).toNat).take j ++ [l9.getD (nx + (j : Int) - n7 - 1).toNat []] = (l9.drop (nx - 1 - n7).toNat).take (j + 1) := by
        have e3 : (nx + (j : Int) - n7 - 1).toNat = (nx - 1 - n7).toNat + j := by omega
        rw [e3] at hlt ⊢
        rw [List.take_succ_eq_append_getElem g, getD_in hlt]
        simp
      have ef : flatR 2 [l9.getD (nx + (j : Int) - n7 - 1).toNat []] = true := entry_flat (fun r hr => by rw [List.mem_singleton] at hr; rw [hr]; exact er)
      have el : decide (((l9.drop (nx - 1 - n7).toNat).take j).length + [l9.getD (nx + (j : Int) - n7 - 1).toNat []].length ≤ lim) = true := decide_eq_true (by
        have : ((l9.drop (nx - 1 - n7).toNat).take j).length ≤ j := by simp; omega
        simp only [List.length_singleton]; unfold lim; omega)
      simp only [l80o1, last_spec, ew1, ei, c, chk_true, if_true]
      rw [w64_in (nx + (j : Int) - n7) (by omega), w64_in (nx + (j : Int) - n7 - 1) (by omega), e1, row_in h _ entry_row _ hlt, entry_eta er, ef, el, et]
      rw [w64_in (nx + (j : Int) + 1) (by omega)]
      have := ih (j + 1) m (.d (.b true)) (by omega) (by omega) (by omega)
      rw [show nx + (j : Int) + 1 = nx + ((j + 1 : Nat) : Int) by omega]
      simpa only [Bool.and_self, Bool.and_true, chk_true] using this
    · have c : (decide (nx + (j : Int) ≤ w64 (n7 + (l9.length : Int))) && decide (nx + (j : Int) < w64 (nx + 4))) = false := by
        rw [w64_in (nx + 4) (by omega), w64_in (n7 + _) (by omega)]; simp; omega
      have e5 : (l9.drop (nx - 1 - n7).toNat).take j = (l9.drop (nx - 1 - n7).toNat).take 4 := by
        rw [List.take_of_length_le (by omega), List.take_of_length_le (by omega)]
      simp only [l80o1, last_spec, ew1, ei, c, chk_true, Bool.false_eq_true, if_false, hq, e5]
def msgD (n1 n3 n7 n8 : Int) (l9 : List (List D)) (n10 : Int) (l12 : List (List D)) (p : Nat) : List D :=
  if xI l12 p ≤ n7 then [.i .i64 5, .i .i64 n1, .i .i64 p, .i .i64 n3, .i .i64 n7, .i .i64 n8, .i .i64 0, .b false, .l [], .s ⟨#[]⟩]
  else [.i .i64 3, .i .i64 n1, .i .i64 p, .i .i64 n3, .i .i64 (xI l12 p - 1), .i .i64 (trm n7 n8 l9 (xI l12 p - 1)), .i .i64 n10, .b false, .l ((l9.drop (xI l12 p - 1 - n7).toNat).take 4), .s ⟨#[]⟩]
/-- The numbers fit. -/
structure Fit (n7 : Int) (l9 l12 : List (List D)) : Prop where
  h : ∀ r ∈ l9, typL shEntry r
  hl : l9.length ≤ 100
  h7 : 0 ≤ n7 ∧ n7 ≤ 200000
  h12 : ∀ r ∈ l12, typL shInt r
  nx : ∀ p, p < l12.length → xI l12 p ≤ n7 + (l9.length : Int) + 1
  l12 : l12.length ≤ 5
theorem lo_int {l : List (List D)} (h : ∀ r ∈ l, typL shInt r) (p : Nat) (hp : p < l.length) : -9223372036854775808 ≤ xI l p ∧ xI l p ≤ 9223372036854775807 := by
  obtain ⟨_, _, e, ⟨x, rfl, hw⟩, rfl⟩ := getD_row h hp
  unfold xI
  rw [e]
  show -9223372036854775808 ≤ x ∧ x ≤ 9223372036854775807
  have hw : (decide (IntKind.i64.min ≤ x) && decide (x ≤ IntKind.i64.max)) = true := hw
  rw [show IntKind.i64.min = -9223372036854775808 from rfl, show IntKind.i64.max = 9223372036854775807 from rfl] at hw
  simpa using hw
theorem send_spec (n1 n2 n3 n4 n5 n6 n7 n8 : Int) (l9 : List (List D)) (n10 : Int) (l11 l12 l13 : List (List D)) (F : Fit n7 l9 l12) (p : Nat) (hp : p < l12.length) :
    t80 n1 n2 n3 n4 n5 n6 n7 n8 l9 n10 l11 l12 l13 (p : Int) = some ([.agg (msgD n1 n3 n7 n8 l9 n10 l12 p)], []) := by
  obtain ⟨h, hl, h7, h12, hnx, hl2⟩ := F
  have ew1 : ∀ x, okR zr62 zo62 (some ([.one (.i .i64 x)], [])) = true := fun _ => rfl
  have ei : ∀ x, asI (resC (some ([.one (.i .i64 x)], [])) 0 0) = x := fun _ => rfl
  have e1 := nat_in (i := p) (n := l12.length) hp
  have hx := hnx p hp
  have hlo := lo_int h12 p hp
  unfold t80 msgD
  simp only [e1, nat_pos, Int.toNat_natCast, row_in h12 _ int_row p hp, Bool.and_true, chk_true]
  by_cases g : xI l12 p ≤ n7
  · rw [if_pos g, if_pos (decide_eq_true g)]
  · rw [if_neg g, if_neg (by rw [decide_eq_false g]; simp)]
    have e2 : w64 (asI (nthD (l12.getD p []) 0) - 1) = xI l12 p - 1 := w64_in _ (by show _ ≤ xI l12 p - 1 ∧ xI l12 p - 1 ≤ _; omega)
    simp only [e2, term_spec n1 n2 n3 n4 n5 n6 n7 n8 l9 n10 l11 l12 l13 h hl h7 (xI l12 p - 1) ⟨by omega, by omega⟩, ew1, ei, chk_true]
    have := to_loop (n64 := n1) (n65 := n2) (n66 := n3) (n67 := n4) (n68 := n5) (n69 := n6) (n70 := n7) (n71 := n8) (l72 := l9) (n73 := n10) (l74 := l11) (l75 := l12) (l76 := l13) (n77 := (p : Int)) (b80 := decide (asI (nthD (l12.getD p []) 0) ≤ n7)) (n82 := n1) (n83 := n2) (n84 := n3) (n85 := n4) (n86 := n5) (n87 := n6) (n89 := n8) (n91 := n10) (l92 := l11) (l93 := l12) (l94 := l13) (n95 := 0) (n96 := 0) (n97 := 0) (n98 := 0) (n99 := 0) (n100 := 0) (n101 := 0) (b102 := false) (s103 := ⟨#[]⟩) (n104 := 3) (n105 := n1) (n106 := (p : Int)) (n107 := n3) (n108 := xI l12 p - 1) (n109 := trm n7 n8 l9 (xI l12 p - 1)) (n110 := n10) (b111 := false) (s112 := ⟨#[]⟩)
      (xI l12 p) n7 l9 (fun n167 b168 l169 => some ([.agg [.i .i64 (3 : Int), .i .i64 n1, .i .i64 (p : Int), .i .i64 n3, .i .i64 (xI l12 p - 1), .i .i64 (trm n7 n8 l9 (xI l12 p - 1)), .i .i64 n10, .b false, .l l169, .s (⟨#[]⟩ : ByteArray)]], [])) _ (fun _ _ _ => rfl) h hl h7 ⟨by omega, by omega⟩ 4 0 KK .undef rfl (by rw [KK_eq]; omega) (Nat.zero_le _)
    simpa only [Int.natCast_zero, Int.add_zero, List.take_zero] using this
theorem send_impl (n1 n2 n3 n4 n5 n6 n7 n8 : Int) (l9 : List (List D)) (n10 : Int) (l11 l12 l13 : List (List D)) (F : Fit n7 l9 l12) (p : Nat) (hp : p < l12.length) :
    t82 n1 n2 n3 n4 n5 n6 n7 n8 l9 n10 l11 l12 l13 (p : Int) = some ([.agg (msgD n1 n3 n7 n8 l9 n10 l12 p)], []) := by
  obtain ⟨h, hl, h7, h12, hnx, hl2⟩ := F
  have ew1 : ∀ x, okR zr64 zo64 (some ([.one (.i .i64 x)], [])) = true := fun _ => rfl
  have ei : ∀ x, asI (resC (some ([.one (.i .i64 x)], [])) 0 0) = x := fun _ => rfl
  have e1 := nat_in (i := p) (n := l12.length) hp
  have hx := hnx p hp
  have hlo := lo_int h12 p hp
  unfold t82 msgD
  simp only [e1, nat_pos, Int.toNat_natCast, row_in h12 _ int_row p hp, Bool.and_true, chk_true]
  by_cases g : xI l12 p ≤ n7
  · rw [if_pos g, if_pos (decide_eq_true g)]
  · rw [if_neg g, if_neg (by rw [decide_eq_false g]; simp)]
    have e2 : w64 (asI (nthD (l12.getD p []) 0) - 1) = xI l12 p - 1 := w64_in _ (by show _ ≤ xI l12 p - 1 ∧ xI l12 p - 1 ≤ _; omega)
    have e3 : w64 (xI l12 p - 1 - n7) = xI l12 p - 1 - n7 := w64_in _ (by omega)
    have z1 : ∀ l : List (List D), (∀ r ∈ l, typL shEntry r) → (l.getD 0 z92).length = (z92 : List D).length := fun l hh => by
      cases l with
      | nil => rfl
      | cons r b => obtain ⟨a, c, rfl, _⟩ := Entry_row (hh r (by simp)); rfl
    have hd : ∀ r ∈ l9.drop (xI l12 p - 1 - n7).toNat, typL shEntry r := fun r hr => h r (List.mem_of_mem_drop hr)
    have eL : (l9.drop (xI l12 p - 1 - n7).toNat).length = l9.length - (xI l12 p - 1 - n7).toNat := List.length_drop
    have f1 : decide (0 ≤ xI l12 p - 1 - n7 ∧ xI l12 p - 1 - n7 ≤ (l9.length : Int) ∧ (l9.getD 0 z92).length = (z92 : List D).length) = true := decide_eq_true ⟨by omega, by omega, z1 _ h⟩
    simp only [e2, e3, term_impl n1 n2 n3 n4 n5 n6 n7 n8 l9 n10 l11 l12 l13 h hl h7 (xI l12 p - 1) ⟨by omega, by omega⟩, ew1, ei, chk_true, f1]
    generalize l9.drop (xI l12 p - 1 - n7).toNat = L at hd eL
    have hy : (if decide (((L.length : Nat) : Int) < 4) = true then ((L.length : Nat) : Int) else 4) = ((min L.length 4 : Nat) : Int) := by
      by_cases g4 : ((L.length : Nat) : Int) < 4
      · rw [if_pos (by simpa using g4)]; omega
      · rw [if_neg (by simpa using g4)]; omega
    have hy' : (if ((L.length : Nat) : Int) < 4 then ((L.length : Nat) : Int) else 4) = ((min L.length 4 : Nat) : Int) := by
      by_cases g4 : ((L.length : Nat) : Int) < 4
      · rw [if_pos g4]; omega
      · rw [if_neg g4]; omega
    simp only [hy, hy', Int.toNat_natCast]
    have f2 : decide (0 ≤ (0 : Int) ∧ (0 : Int) ≤ ((min L.length 4 : Nat) : Int) ∧ ((min L.length 4 : Nat) : Int) ≤ (L.length : Int) ∧ (L.getD 0 z92).length = (z92 : List D).length) = true := decide_eq_true ⟨by omega, by omega, by omega, z1 _ hd⟩
    have e6 : (L.take (min L.length 4)).drop (0 : Int).toNat = L.take 4 := by
      show (L.take (min L.length 4)).drop 0 = _
      rw [List.drop_zero]
      by_cases g4 : L.length ≤ 4
      · rw [Nat.min_eq_left g4, List.take_of_length_le (Nat.le_refl _), List.take_of_length_le g4]
      · rw [Nat.min_eq_right (by omega)]
    have f3 : (flatR 2 (L.take 4) && decide ((L.take 4).length ≤ lim)) = true := by
      rw [entry_flat (fun r hr => hd r (List.mem_of_mem_take hr))]
      simp only [Bool.true_and]
      exact decide_eq_true (by have : (L.take 4).length ≤ 4 := by simp; omega
                               unfold lim; omega)
    rw [f2]
    simp only [chk_true, e6]
    rw [f3]
    rfl
/-- All but one. -/
def gat (f : Nat → List D) (id : Int) : Nat → Nat → List (List D)
  | 0, _ => []
  | k + 1, i => if (i : Int) = id then gat f id k (i + 1) else f i :: gat f id k (i + 1)
theorem gat_len (f : Nat → List D) (id : Int) : ∀ k i, (gat f id k i).length ≤ k
  | 0, i => Nat.le_refl _
  | k + 1, i => by
    simp only [gat]
    have := gat_len f id k (i + 1)
    split
    · omega
    · simp only [List.length_cons]; omega
theorem gat_mem (f : Nat → List D) (id : Int) : ∀ k i r, r ∈ gat f id k i → ∃ p, i ≤ p ∧ p < i + k ∧ r = f p
  | 0, i, r, h => by cases h
  | k + 1, i, r, h => by
    simp only [gat] at h
    split at h
    · obtain ⟨p, h1, h2, h3⟩ := gat_mem f id k (i + 1) r h; exact ⟨p, by omega, by omega, h3⟩
    · rcases List.mem_cons.1 h with rfl | h
      · exact ⟨i, Nat.le_refl _, by omega, rfl⟩
      · obtain ⟨p, h1, h2, h3⟩ := gat_mem f id k (i + 1) r h; exact ⟨p, by omega, by omega, h3⟩
theorem gat_map (f : Nat → List D) (g : Nat → List D) (F : List D → List D) (hF : ∀ p, F (f p) = g p) (id : Int) : ∀ k i, (gat f id k i).map F = gat g id k i
  | 0, i => rfl
  | k + 1, i => by
    simp only [gat]
    split
    · exact gat_map f g F hF id k (i + 1)
    · simp only [List.map_cons, hF, gat_map f g F hF id k (i + 1)]
theorem all_spec_loop {n43 n44 n45 n46 n47 n48 n49 n50 : Int} {l51 : List (List D)} {n52 : Int} {l53 l54 l55 : List (List D)} {n62 n63 n64 : Int} {l69 l71 : List (List D)} (n1 n2 n3 n7 n8 : Int) (l9 : List (List D)) (n10 : Int) (l12 : List (List D)) (q : Int → Bool → SV → List (List D) → Rs) (R : List (List D) → Rs) (hq : ∀ a b c d, q a b c d = R d) (F : Fit n7 l9 l12) (N : Nat) (hN : n2 = (N : Int)) (hlen : l12.length = N) : ∀ (k i m : Nat) (v w : SV) (acc : List (List D)), i + k = N → k < m → acc.length ≤ i →
    l65o0 n43 n44 n45 n46 n47 n48 n49 n50 l51 n52 l53 l54 l55 n1 n2 n3 n62 n63 n64 n7 n8 l9 n10 l69 l12 l71 q m (i : Int) v w acc = R (acc ++ gat (msgD n1 n3 n7 n8 l9 n10 l12) n1 k i) := by
  have h5 := F.l12
  intro k
  induction k with
  | zero =>
    intro i m v w acc e hm ha
    obtain ⟨m, rfl⟩ : ∃ m', m = m' + 1 := ⟨m - 1, by omega⟩
    have c : decide ((i : Int) < n2) = false := by rw [hN]; simp; omega
    simp only [l65o0, c, Bool.false_eq_true, if_false, hq, gat, List.append_nil]
  | succ k ih =>
    intro i m v w acc e hm ha
    obtain ⟨m, rfl⟩ : ∃ m', m = m' + 1 := ⟨m - 1, by omega⟩
    have c : decide ((i : Int) < n2) = true := by rw [hN]; simp; omega
    have hw := w64_succ i (by omega)
    by_cases g : (i : Int) = n1
    · have q1 : ((i : Int) != n1) = false := by simpa using g
      simp only [l65o0, c, q1, if_true, Bool.false_eq_true, if_false, hw, gat, if_pos g]
      exact ih (i + 1) m _ _ acc (by omega) (by omega) (by omega)
    · have q1 : ((i : Int) != n1) = true := by simpa using g
      have es := fun a4 a5 a6 a11 a13 => send_spec n1 n2 n3 a4 a5 a6 n7 n8 l9 n10 a11 l12 a13 F i (by omega)
      have eok : okR zr80 zo80 (some ([.agg (msgD n1 n3 n7 n8 l9 n10 l12 i)], [])) = true := by unfold msgD; split <;> rfl
      have eta : ([[.i .i64 (asI (resC (some ([.agg (msgD n1 n3 n7 n8 l9 n10 l12 i)], [])) 0 0)), .i .i64 (asI (resC (some ([.agg (msgD n1 n3 n7 n8 l9 n10 l12 i)], [])) 0 1)), .i .i64 (asI (resC (some ([.agg (msgD n1 n3 n7 n8 l9 n10 l12 i)], [])) 0 2)), .i .i64 (asI (resC (some ([.agg (msgD n1 n3 n7 n8 l9 n10 l12 i)], [])) 0 3)), .i .i64 (asI (resC (some ([.agg (msgD n1 n3 n7 n8 l9 n10 l12 i)], [])) 0 4)), .i .i64 (asI (resC (some ([.agg (msgD n1 n3 n7 n8 l9 n10 l12 i)], [])) 0 5)), .i .i64 (asI (resC (some ([.agg (msgD n1 n3 n7 n8 l9 n10 l12 i)], [])) 0 6)), .b (asB (resC (some ([.agg (msgD n1 n3 n7 n8 l9 n10 l12 i)], [])) 0 7)), .l (asL (resC (some ([.agg (msgD n1 n3 n7 n8 l9 n10 l12 i)], [])) 0 8)), .s (asS (resC (some ([.agg (msgD n1 n3 n7 n8 l9 n10 l12 i)], [])) 0 9))]] : List (List D)) = [msgD n1 n3 n7 n8 l9 n10 l12 i] := by unfold msgD; split <;> rfl
      have el : decide (acc.length + [msgD n1 n3 n7 n8 l9 n10 l12 i].length ≤ lim) = true := decide_eq_true (by simp only [List.length_singleton]; unfold lim; omega)
      simp only [l65o0, c, q1, if_true, es, eok, eta, el, Bool.true_and, chk_true, hw, gat, if_neg g]
      have := ih (i + 1) m (.d (.b true)) (.d (.b true)) (acc ++ [msgD n1 n3 n7 n8 l9 n10 l12 i]) (by omega) (by omega) (by simp; omega)
      rw [List.append_assoc] at this
      exact this
theorem all_spec (n1 n2 n3 n4 n5 n6 n7 n8 : Int) (l9 : List (List D)) (n10 : Int) (l11 l12 l13 : List (List D)) (F : Fit n7 l9 l12) (N : Nat) (hN : n2 = (N : Int)) (hlen : l12.length = N) :
    t65 n1 n2 n3 n4 n5 n6 n7 n8 l9 n10 l11 l12 l13 = some ([.one (.l (gat (msgD n1 n3 n7 n8 l9 n10 l12) n1 N 0))], []) := by
  unfold t65
  have h5 := F.l12
  exact all_spec_loop n1 n2 n3 n7 n8 l9 n10 l12 _ (fun l => some ([.one (.l l)], [])) (fun _ _ _ _ => rfl) F N hN hlen N 0 KK .undef .undef [] (by omega) (by rw [KK_eq]; omega) (Nat.le_refl _)
theorem oth_loop {n32 n33 n34 n35 n36 n37 n38 : Int} {l39 : List (List D)} {n40 : Int} {l41 l42 l43 : List (List D)} (n1 n2 : Int) (q : SV → Int → Bool → SV → List (List D) → Rs) (R : List (List D) → Rs) (hq : ∀ a b c d e, q a b c d e = R e) (N : Nat) (hN : n2 = (N : Int)) (h5 : N ≤ 5) : ∀ (k i m : Nat) (u v w : SV) (acc : List (List D)), i + k = N → k < m → acc.length ≤ i →
    l81o0 n1 n32 n33 n34 n35 n36 n37 n38 l39 n40 l41 l42 l43 n2 q m u (i : Int) v w acc = R (acc ++ gat (fun p => [.i .i64 (p : Int)]) n1 k i) := by
  intro k
  induction k with
  | zero =>
    intro i m u v w acc e hm ha
    obtain ⟨m, rfl⟩ : ∃ m', m = m' + 1 := ⟨m - 1, by omega⟩
    have c : decide ((i : Int) < n2) = false := by rw [hN]; simp; omega
    simp only [l81o0, c, Bool.false_eq_true, if_false, hq, gat, List.append_nil]
  | succ k ih =>
    intro i m u v w acc e hm ha
    obtain ⟨m, rfl⟩ : ∃ m', m = m' + 1 := ⟨m - 1, by omega⟩
    have c : decide ((i : Int) < n2) = true := by rw [hN]; simp; omega
    have hw := w64_succ i (by omega)
    by_cases g : (i : Int) = n1
    · have q1 : ((i : Int) != n1) = false := by simpa using g
      simp only [l81o0, c, q1, if_true, Bool.false_eq_true, if_false, hw, gat, if_pos g]
      exact ih (i + 1) m _ _ _ acc (by omega) (by omega) (by omega)
    · have q1 : ((i : Int) != n1) = true := by simpa using g
      have ef : flatR 1 [[D.i .i64 (i : Int)]] = true := rfl
      have el : decide (acc.length + [[D.i .i64 (i : Int)]].length ≤ lim) = true := decide_eq_true (by simp only [List.length_singleton]; unfold lim; omega)
      simp only [l81o0, c, q1, if_true, ef, el, Bool.true_and, chk_true, hw, gat, if_neg g]
      have := ih (i + 1) m (.d (.i .i64 (i : Int))) (.d (.b true)) (.d (.b true)) (acc ++ [[.i .i64 (i : Int)]]) (by omega) (by omega) (by simp; omega)
      rw [List.append_assoc] at this
      exact this
theorem others_eq (n1 n2 n3 n4 n5 n6 n7 n8 : Int) (l9 : List (List D)) (n10 : Int) (l11 l12 l13 : List (List D)) (N : Nat) (hN : n2 = (N : Int)) (h5 : N ≤ 5) :
    t81 n1 n2 n3 n4 n5 n6 n7 n8 l9 n10 l11 l12 l13 = some ([.one (.l (gat (fun p => [.i .i64 (p : Int)]) n1 N 0))], []) := by
  unfold t81
  exact oth_loop n1 n2 _ (fun l => some ([.one (.l l)], [])) (fun _ _ _ _ _ => rfl) N hN h5 N 0 KK .undef .undef .undef [] (by omega) (by rw [KK_eq]; omega) (Nat.le_refl _)
def isP (N : Nat) (r : List D) : Prop := ∃ p : Nat, p < N ∧ r = [.i .i64 (p : Int)]
theorem all_impl_loop {n32 n34 n35 n36 : Int} {l41 l43 : List (List D)} (n1 n3 n7 n8 : Int) (l9 : List (List D)) (n10 : Int) (l12 : List (List D)) (O : List (List D)) (q : SV → Int → Bool → List (List D) → Rs) (R : List (List D) → Rs) (hq : ∀ a b c d, q a b c d = R d) (F : Fit n7 l9 l12) (hO : O.length ≤ 5) : ∀ (b a : List (List D)) (m : Nat) (v w : SV) (acc : List (List D)), O = a ++ b → (∀ r ∈ b, isP l12.length r) → b.length < m → acc.length ≤ a.length →
    l66o0 n1 n32 n3 n34 n35 n36 n7 n8 l9 n10 l41 l12 l43 (O.length : Int) O q m v (a.length : Int) w acc = R (acc ++ b.map fun r => msgD n1 n3 n7 n8 l9 n10 l12 (asI (nthD r 0)).toNat) := by
  intro b
  induction b with
  | nil =>
    intro a m v w acc e hb hm ha
    subst e
    obtain ⟨m, rfl⟩ : ∃ m', m = m' + 1 := ⟨m - 1, by omega⟩
    have c : decide ((a.length : Int) < (a.length : Int)) = false := by simp
    simp only [l66o0, List.append_nil, c, Bool.false_eq_true, if_false, hq, List.map_nil, List.append_nil]
  | cons r b ih =>
    intro a m v w acc e hb hm ha
    subst e
    obtain ⟨m, rfl⟩ : ∃ m', m = m' + 1 := ⟨m - 1, by omega⟩
    obtain ⟨p, hp, rfl⟩ := hb r (by simp)
    simp only [List.length_cons] at hm
    rw [List.length_append, List.length_cons] at hO
    have c : decide ((a.length : Int) < ((a ++ [D.i .i64 (p : Int)] :: b).length : Int)) = true := by simp; omega
    have c0 : decide (0 ≤ (a.length : Int)) = true := by simp
    have eg : (a ++ [D.i .i64 (p : Int)] :: b).getD a.length [] = [.i .i64 (p : Int)] := getD_mid a b _ _ rfl
    have ez : (decide (1 ≤ ([D.i .i64 (p : Int)] : List D).length) && isF z3 0 [D.i .i64 (p : Int)]) = true := rfl
    have ea : asI (nthD [D.i .i64 (p : Int)] 0) = (p : Int) := rfl
    have hw := w64_succ a.length (by omega)
    have es := fun a2 a4 a5 a6 a11 a13 => send_impl n1 a2 n3 a4 a5 a6 n7 n8 l9 n10 a11 l12 a13 F p hp
    have eok : okR zr82 zo82 (some ([.agg (msgD n1 n3 n7 n8 l9 n10 l12 p)], [])) = true := by unfold msgD; split <;> rfl
    have eta : ([[.i .i64 (asI (resC (some ([.agg (msgD n1 n3 n7 n8 l9 n10 l12 p)], [])) 0 0)), .i .i64 (asI (resC (some ([.agg (msgD n1 n3 n7 n8 l9 n10 l12 p)], [])) 0 1)), .i .i64 (asI (resC (some ([.agg (msgD n1 n3 n7 n8 l9 n10 l12 p)], [])) 0 2)), .i .i64 (asI (resC (some ([.agg (msgD n1 n3 n7 n8 l9 n10 l12 p)], [])) 0 3)), .i .i64 (asI (resC (some ([.agg (msgD n1 n3 n7 n8 l9 n10 l12 p)], [])) 0 4)), .i .i64 (asI (resC (some ([.agg (msgD n1 n3 n7 n8 l9 n10 l12 p)], [])) 0 5)), .i .i64 (asI (resC (some ([.agg (msgD n1 n3 n7 n8 l9 n10 l12 p)], [])) 0 6)), .b (asB (resC (some ([.agg (msgD n1 n3 n7 n8 l9 n10 l12 p)], [])) 0 7)), .l (asL (resC (some ([.agg (msgD n1 n3 n7 n8 l9 n10 l12 p)], [])) 0 8)), .s (asS (resC (some ([.agg (msgD n1 n3 n7 n8 l9 n10 l12 p)], [])) 0 9))]] : List (List D)) = [msgD n1 n3 n7 n8 l9 n10 l12 p] := by unfold msgD; split <;> rfl
    have el : decide (acc.length + [msgD n1 n3 n7 n8 l9 n10 l12 p].length ≤ lim) = true := decide_eq_true (by simp only [List.length_singleton]; unfold lim; omega)
    simp only [l66o0, c, c0, Int.toNat_natCast, eg, ez, ea, if_true, es, eok, eta, el, Bool.true_and, chk_true, hw]
    have hO2 : (a ++ [D.i .i64 (p : Int)] :: b) = (a ++ [[D.i .i64 (p : Int)]]) ++ b := by simp
    have := ih (a ++ [[D.i .i64 (p : Int)]]) m (.d (.i .i64 (p : Int))) (.d (.b true)) (acc ++ [msgD n1 n3 n7 n8 l9 n10 l12 p]) hO2 (fun r hr => hb r (by simp [hr])) (by omega) (by simp; omega)
    have e3 : (a ++ [[D.i .i64 (p : Int)]]).length = a.length + 1 := by simp
    rw [e3, List.append_assoc] at this
    exact this
theorem all_impl (n1 n2 n3 n4 n5 n6 n7 n8 : Int) (l9 : List (List D)) (n10 : Int) (l11 l12 l13 : List (List D)) (F : Fit n7 l9 l12) (N : Nat) (hN : n2 = (N : Int)) (hlen : l12.length = N) :
    t66 n1 n2 n3 n4 n5 n6 n7 n8 l9 n10 l11 l12 l13 = some ([.one (.l (gat (msgD n1 n3 n7 n8 l9 n10 l12) n1 N 0))], []) := by
  unfold t66
  have h5 := F.l12
  have ew : ∀ x, okR zr81 zo81 (some ([.one (.l x)], [])) = true := fun _ => rfl
  have el : ∀ x, asL (resC (some ([.one (.l x)], [])) 0 0) = x := fun _ => rfl
  simp only [others_eq n1 n2 n3 n4 n5 n6 n7 n8 l9 n10 l11 l12 l13 N hN (by omega), ew, el, chk_true]
  have hg := gat_len (fun p => [D.i .i64 (p : Int)]) n1 N 0
  have := all_impl_loop (n32 := n2) (n34 := n4) (n35 := n5) (n36 := n6) (l41 := l11) (l43 := l13) n1 n3 n7 n8 l9 n10 l12 (gat (fun p => [D.i .i64 (p : Int)]) n1 N 0) (fun v73 n74 b75 l76 => some ([.one (.l l76)], [])) (fun l => some ([.one (.l l)], [])) (fun _ _ _ _ => rfl) F (by omega) (gat (fun p => [D.i .i64 (p : Int)]) n1 N 0) [] KK .undef .undef [] rfl (fun r hr => by
    obtain ⟨p, _, h2, rfl⟩ := gat_mem _ _ _ _ _ hr
    exact ⟨p, by omega, rfl⟩) (by rw [KK_eq]; omega) (Nat.le_refl _)
  rw [gat_map _ (msgD n1 n3 n7 n8 l9 n10 l12) _ (fun p => by simp [nthD, asI])] at this
  exact this
theorem coreB_more {n1 n2 n3 n4 n5 n6 n7 n8 : Int} {l9 : List (List D)} {n10 : Int} {l11 l12 l13 : List (List D)} (h : coreB n1 n2 n3 n4 n5 n6 n7 n8 l9 n10 l11 l12 l13 = true) : 1 ≤ n2 ∧ n2 ≤ 5 ∧ 0 ≤ n1 ∧ n1 ≤ n2 - 1 ∧ 0 ≤ n3 ∧ n3 ≤ 100000 ∧ n8 ≤ n3 ∧ placeB n7 n8 = true ∧ n7 + (l9.length : Int) ≤ 100000 ∧ 0 ≤ n7 ∧ n7 ≤ n10 ∧ n10 ≤ n7 + (l9.length : Int) ∧ (l9.length : Int) ≤ 60 ∧ roleB n1 n2 n3 n4 n5 n6 n7 l9 l11 l12 l13 = true := by
  obtain ⟨p1, p2, p3, p4, p5⟩ := coreB_place h
  rw [coreB_eq] at h
  simp only [Bool.and_eq_true, decide_eq_true_eq] at h
  obtain ⟨h1, h2, h3, h4⟩ := h
  unfold keptB at h2
  rw [Bool.and_eq_true] at h2
  have h5 := h2.1
  unfold keptA at h5
  rw [Bool.and_eq_true] at h5
  have h6 := of_decide_eq_true h5.1
  rw [w64_in (n7 + (l9.length : Int)) (by omega)] at h6
  exact ⟨by omega, by omega, by omega, by omega, by omega, by omega, by omega, h5.2, by omega, by omega, by omega, by omega, by omega, h4⟩
theorem allB_get {f : Nat → Bool} : ∀ (k i : Nat), allB f k i = true → ∀ p, i ≤ p → p < i + k → f p = true
  | 0, i, _, p, h1, h2 => by omega
  | k + 1, i, h, p, h1, h2 => by
    simp only [allB, Bool.and_eq_true] at h
    by_cases e : p = i
    · subst e; exact h.1
    · exact allB_get k (i + 1) h.2 p (by omega) (by omega)
/-- Of a leader. -/
theorem lead_more {n1 n2 n3 n4 n6 n7 n8 : Int} {l9 : List (List D)} {n10 : Int} {l11 l12 l13 : List (List D)} (h : coreB n1 n2 n3 n4 3 n6 n7 n8 l9 n10 l11 l12 l13 = true) : (l12.length : Int) = n2 ∧ (l13.length : Int) = n2 ∧ ∀ p, p < l12.length → xI l12 p ≤ n7 + (l9.length : Int) + 1 ∧ 0 ≤ xI l13 p ∧ xI l13 p < xI l12 p := by
  obtain ⟨a1, a2, a3, a4, a5, a6, a7, a8, a9, a10, a11, a12, a13, a14⟩ := coreB_more h
  unfold roleB at a14
  rw [if_neg (by decide), if_neg (by decide), if_pos rfl] at a14
  simp only [Bool.and_eq_true, decide_eq_true_eq] at a14
  obtain ⟨b1, b2, b3⟩ := a14
  refine ⟨b1.2.2.2.2.1, b1.2.2.2.2.2, fun p hp => ?_⟩
  have := allB_get _ _ b3 p (Nat.zero_le _) (by omega)
  unfold leadF at this
  rw [w64_in (n7 + (l9.length : Int)) (by omega), w64_in _ (by omega)] at this
  have := of_decide_eq_true this
  omega
theorem int_typ {x : Int} (h : -9223372036854775808 ≤ x ∧ x ≤ 9223372036854775807) : typD (.i .i64) (.i .i64 x) := by
  refine ⟨x, rfl, ?_⟩
  show (decide (IntKind.i64.min ≤ x) && decide (x ≤ IntKind.i64.max)) = true
  rw [show IntKind.i64.min = -9223372036854775808 from rfl, show IntKind.i64.max = 9223372036854775807 from rfl]
  simpa using h
theorem entry_lo {l : List (List D)} (h : ∀ r ∈ l, typL shEntry r) (p : Nat) (hp : p < l.length) : -9223372036854775808 ≤ asI (nthD (l.getD p []) 0) ∧ asI (nthD (l.getD p []) 0) ≤ 9223372036854775807 := by
  obtain ⟨_, _, e, ⟨x, rfl, hw⟩, _⟩ := getD_row h hp
  rw [e]
  show -9223372036854775808 ≤ x ∧ x ≤ 9223372036854775807
  have hw : (decide (IntKind.i64.min ≤ x) && decide (x ≤ IntKind.i64.max)) = true := hw
  rw [show IntKind.i64.min = -9223372036854775808 from rfl, show IntKind.i64.max = 9223372036854775807 from rfl] at hw
  simpa using hw
theorem trm_lo {n7 n8 : Int} {l9 : List (List D)} (h : ∀ r ∈ l9, typL shEntry r) (h8 : -9223372036854775808 ≤ n8 ∧ n8 ≤ 9223372036854775807) {i : Int} (hi : n7 ≤ i ∧ i ≤ n7 + (l9.length : Int)) : -9223372036854775808 ≤ trm n7 n8 l9 i ∧ trm n7 n8 l9 i ≤ 9223372036854775807 := by
  unfold trm
  split
  · exact h8
  · exact entry_lo h _ (by omega)
theorem place_lo {a b : Int} (h : placeB a b = true) (hb : b ≤ 100000) : -9223372036854775808 ≤ b ∧ b ≤ 9223372036854775807 := by
  unfold placeB at h
  simp at h
  omega
theorem msg_typ {n1 n3 n7 n8 : Int} {l9 : List (List D)} {n10 : Int} {l12 : List (List D)} (F : Fit n7 l9 l12) (hs : ∀ r ∈ l9, szdL shEntry r) (h1 : 0 ≤ n1 ∧ n1 ≤ 5) (h3 : 0 ≤ n3 ∧ n3 ≤ 200000) (h8 : -9223372036854775808 ≤ n8 ∧ n8 ≤ 9223372036854775807) (h10 : 0 ≤ n10 ∧ n10 ≤ 200000) (p : Nat) (hp : p < l12.length) : typL shMsg (msgD n1 n3 n7 n8 l9 n10 l12 p) ∧ szdL shMsg (msgD n1 n3 n7 n8 l9 n10 l12 p) := by
  obtain ⟨h, hl, h7, h12, hnx, hl2⟩ := F
  have hx := hnx p hp
  have hlo := lo_int h12 p hp
  unfold msgD
  by_cases g : xI l12 p ≤ n7
  · rw [if_pos g]
    exact ⟨⟨_, _, rfl, int_typ (by omega), ⟨_, _, rfl, int_typ (by omega), ⟨_, _, rfl, int_typ (by omega), ⟨_, _, rfl, int_typ (by omega), ⟨_, _, rfl, int_typ (by omega), ⟨_, _, rfl, int_typ h8, ⟨_, _, rfl, int_typ (by omega), ⟨_, _, rfl, ⟨_, rfl⟩, ⟨_, _, rfl, ⟨_, rfl, Nat.zero_le _, fun r h => by cases h⟩, ⟨_, _, rfl, ⟨_, rfl, Nat.zero_le _⟩, rfl⟩⟩⟩⟩⟩⟩⟩⟩⟩⟩,
      trivial, trivial, trivial, trivial, trivial, trivial, trivial, trivial, ⟨Nat.zero_le _, fun r h => by cases h⟩, Nat.zero_le _, trivial⟩
  · rw [if_neg g]
    have ht := trm_lo (n7 := n7) h h8 (i := xI l12 p - 1) (by omega)
    have hd : ∀ r ∈ (l9.drop (xI l12 p - 1 - n7).toNat).take 4, typL shEntry r := fun r hr => h r (List.mem_of_mem_drop (List.mem_of_mem_take hr))
    have hdl : ((l9.drop (xI l12 p - 1 - n7).toNat).take 4).length ≤ 4 := by simp; omega
    have hz : ∀ r ∈ (l9.drop (xI l12 p - 1 - n7).toNat).take 4, szdL shEntry r := fun r hr => hs r (List.mem_of_mem_drop (List.mem_of_mem_take hr))
    have hm : 4 ≤ maxLen := by unfold maxLen; omega
    exact ⟨⟨_, _, rfl, int_typ (by omega), ⟨_, _, rfl, int_typ (by omega), ⟨_, _, rfl, int_typ (by omega), ⟨_, _, rfl, int_typ (by omega), ⟨_, _, rfl, int_typ (by omega), ⟨_, _, rfl, int_typ ht, ⟨_, _, rfl, int_typ (by omega), ⟨_, _, rfl, ⟨_, rfl⟩, ⟨_, _, rfl, ⟨_, rfl, by omega, hd⟩, ⟨_, _, rfl, ⟨_, rfl, Nat.zero_le _⟩, rfl⟩⟩⟩⟩⟩⟩⟩⟩⟩⟩,
      trivial, trivial, trivial, trivial, trivial, trivial, trivial, trivial, ⟨Nat.le_trans hdl (by omega), hz⟩, Nat.zero_le _, trivial⟩
theorem msgs_typ {n1 n3 n7 n8 : Int} {l9 : List (List D)} {n10 : Int} {l12 : List (List D)} (F : Fit n7 l9 l12) (hs : ∀ r ∈ l9, szdL shEntry r) (h1 : 0 ≤ n1 ∧ n1 ≤ 5) (h3 : 0 ≤ n3 ∧ n3 ≤ 200000) (h8 : -9223372036854775808 ≤ n8 ∧ n8 ≤ 9223372036854775807) (h10 : 0 ≤ n10 ∧ n10 ≤ 200000) (N : Nat) (hN : l12.length = N) :
    (gat (msgD n1 n3 n7 n8 l9 n10 l12) n1 N 0).length ≤ 1048576 ∧ (∀ r ∈ gat (msgD n1 n3 n7 n8 l9 n10 l12) n1 N 0, typL shMsg r) ∧ ∀ r ∈ gat (msgD n1 n3 n7 n8 l9 n10 l12) n1 N 0, szdL shMsg r := by
  have hg := gat_len (msgD n1 n3 n7 n8 l9 n10 l12) n1 N 0
  have h5 := F.l12
  refine ⟨by omega, fun r hr => ?_, fun r hr => ?_⟩
  · obtain ⟨p, _, h2, rfl⟩ := gat_mem _ _ _ _ _ hr
    exact (msg_typ F hs h1 h3 h8 h10 p (by omega)).1
  · obtain ⟨p, _, h2, rfl⟩ := gat_mem _ _ _ _ _ hr
    exact (msg_typ F hs h1 h3 h8 h10 p (by omega)).2
theorem copy_spec (x1 x2 x3 x4 x5 x6 x7 x8 : Int) (x9 : List (List D)) (x10 : Int) (x11 x12 x13 : List (List D)) (hl : x9.length ≤ 1048576) (h : ∀ r ∈ x9, typL shEntry r) (hl1 : x11.length ≤ 1048576) (h1 : ∀ r ∈ x11, typL shInt r) (hl2 : x12.length ≤ 1048576) (h2 : ∀ r ∈ x12, typL shInt r) (hl3 : x13.length ≤ 1048576) (h3 : ∀ r ∈ x13, typL shInt r) :
    t61 x1 x2 x3 x4 x5 x6 x7 x8 x9 x10 x11 x12 x13 = some ([.agg [.i .i64 x1, .i .i64 x2, .i .i64 x3, .i .i64 x4, .i .i64 x5, .i .i64 x6, .i .i64 x7, .i .i64 x8, .l x9, .i .i64 x10, .l x11, .l x12, .l x13]], []) := by
  have li0 : ∀ {n : Nat}, n ≤ 1048576 → decide (([] : List (List D)).length + n ≤ lim) = true := fun h => decide_eq_true (by simp only [List.length_nil]; unfold lim; omega)
  unfold t61
  rw [entry_flat h, int_flat h1, int_flat h2, int_flat h3, li0 hl, li0 hl1, li0 hl2, li0 hl3]
  rfl
theorem copy_impl (x1 x2 x3 x4 x5 x6 x7 x8 : Int) (x9 : List (List D)) (x10 : Int) (x11 x12 x13 : List (List D)) (hl : x9.length ≤ 1048576) (h : ∀ r ∈ x9, typL shEntry r) (hl1 : x11.length ≤ 1048576) (h1 : ∀ r ∈ x11, typL shInt r) (hl2 : x12.length ≤ 1048576) (h2 : ∀ r ∈ x12, typL shInt r) (hl3 : x13.length ≤ 1048576) (h3 : ∀ r ∈ x13, typL shInt r) :
    t63 x1 x2 x3 x4 x5 x6 x7 x8 x9 x10 x11 x12 x13 = some ([.agg [.i .i64 x1, .i .i64 x2, .i .i64 x3, .i .i64 x4, .i .i64 x5, .i .i64 x6, .i .i64 x7, .i .i64 x8, .l x9, .i .i64 x10, .l x11, .l x12, .l x13]], []) := by
  have li : ∀ {n : Nat}, n ≤ 1048576 → decide (n ≤ lim) = true := fun h => decide_eq_true (by unfold lim; omega)
  have ci : ∀ l : List (List D), l.length ≤ 1048576 → (∀ r ∈ l, typL shInt r) → t79 l = some ([.one (.l l)], []) := fun l a b => by
    unfold t79; rw [int_flat b, li a]; rfl
  unfold t63
  rw [entry_flat h, li hl, ci x11 hl1 h1, ci x12 hl2 h2, ci x13 hl3 h3]
  rfl
end Go.Den.L9

/- A leader counts; takes an entry; leads. -/
namespace Go.Den.L9
open Go
/-- How many are at i at least. -/
def many (M : List (List D)) (i : Int) : Nat → Nat → Int
  | 0, _ => 0
  | k + 1, p => (if xI M p ≥ i then 1 else 0) + many M i k (p + 1)
theorem many_le (M : List (List D)) (i : Int) : ∀ k p, 0 ≤ many M i k p ∧ many M i k p ≤ (k : Int)
  | 0, _ => by simp [many]
  | k + 1, p => by
    have := many_le M i k (p + 1)
    simp only [many]
    split <;> omega
theorem cnt_loopS {n242 n243 n244 n245 n246 n247 n248 n249 n250 : Int} {b254 : Bool} {n258 n260 n261 n262 n263 n264 n265 n266 n267 n268 n269 n270 n271 n272 n273 n274 n275 : Int} {l276 l277 l278 : List (List D)} (i n2 : Int) (M : List (List D)) (h : ∀ r ∈ M, typL shInt r) (hM : (M.length : Int) = n2) (h5 : M.length ≤ 5) (q : Int → Int → Bool → SV → SV → Rs) (R : Int → Rs) (hq : ∀ a b c d e, 0 ≤ a → a ≤ 10 → q a b c d e = R a) : ∀ (k p m : Nat) (c : Int) (u v w : SV), p + k = M.length → k < m → 0 ≤ c → c ≤ (p : Int) →
    l83o100002 n242 n243 n244 n245 n246 n247 n248 n249 n250 i b254 n258 n2 n260 n261 n262 n263 n264 n265 n266 n267 n268 n269 n270 n271 n272 n273 n274 n275 l276 l277 l278 M q m c (p : Int) u v w = R (c + many M i k p) := by
  intro k
  induction k with
  | zero =>
    intro p m c u v w e hm h0 h1
    obtain ⟨m, rfl⟩ : ∃ m', m = m' + 1 := ⟨m - 1, by omega⟩
    have d1 : decide ((p : Int) < n2) = false := by rw [← hM]; simp; omega
    simp only [l83o100002, d1, Bool.false_eq_true, if_false, many, Int.add_zero]
    exact hq _ _ _ _ _ h0 (by omega)
  | succ k ih =>
    intro p m c u v w e hm h0 h1
    obtain ⟨m, rfl⟩ : ∃ m', m = m' + 1 := ⟨m - 1, by omega⟩
    have d1 : decide ((p : Int) < n2) = true := by rw [← hM]; simp; omega
    have d2 := nat_in (i := p) (n := M.length) (by omega)
    obtain ⟨x, ex⟩ := Int_row (getD_row h (i := p) (by omega))
    have d3 : (decide (1 ≤ (M.getD p []).length) && isF z3 0 (M.getD p [])) = true := by rw [ex]; rfl
    have hw := w64_succ p (by omega)
    simp only [l83o100002, d1, d2, nat_pos, Int.toNat_natCast, d3, Bool.and_self, chk_true, if_true, hw, many]
    by_cases g : xI M p ≥ i
    · have g1 : decide (asI (nthD (M.getD p []) 0) ≥ i) = true := decide_eq_true g
      have hc : w64 (c + 1) = c + 1 := w64_in _ (by omega)
      simp only [g1, if_true, hc, if_pos g]
      rw [ih (p + 1) m (c + 1) _ _ _ (by omega) (by omega) (by omega) (by omega)]
      congr 1; omega
    · have g1 : decide (asI (nthD (M.getD p []) 0) ≥ i) = false := decide_eq_false g
      simp only [g1, Bool.false_eq_true, if_false, if_neg g, Int.zero_add]
      exact ih (p + 1) m c _ _ _ (by omega) (by omega) h0 (by omega)
theorem cnt_loopI {b149 : Bool} {n155 n156 n157 n158 n159 n160 n161 n162 n163 : Int} {l164 l165 l166 : List (List D)} (i n2 : Int) (M : List (List D)) (h : ∀ r ∈ M, typL shInt r) (hM : (M.length : Int) = n2) (h5 : M.length ≤ 5) (q : Int → SV → Int → Bool → SV → SV → Rs) (R : Int → Rs) (hq : ∀ a b c d e f, 0 ≤ a → a ≤ 10 → q a b c d e f = R a) : ∀ (k p m : Nat) (c : Int) (z u v w : SV), p + k = M.length → k < m → 0 ≤ c → c ≤ (p : Int) →
    l86o100002 i b149 n2 n155 n156 n157 n158 n159 n160 n161 n162 n163 l164 l165 l166 M q m c z (p : Int) u v w = R (c + many M i k p) := by
  intro k
  induction k with
  | zero =>
    intro p m c z u v w e hm h0 h1
    obtain ⟨m, rfl⟩ : ∃ m', m = m' + 1 := ⟨m - 1, by omega⟩
    have d1 : decide ((p : Int) < n2) = false := by rw [← hM]; simp; omega
    simp only [l86o100002, d1, Bool.false_eq_true, if_false, many, Int.add_zero]
    exact hq _ _ _ _ _ _ h0 (by omega)
  | succ k ih =>
    intro p m c z u v w e hm h0 h1
    obtain ⟨m, rfl⟩ : ∃ m', m = m' + 1 := ⟨m - 1, by omega⟩
    have d1 : decide ((p : Int) < n2) = true := by rw [← hM]; simp; omega
    have d2 := nat_in (i := p) (n := M.length) (by omega)
    obtain ⟨x, ex⟩ := Int_row (getD_row h (i := p) (by omega))
    have d3 : (decide (1 ≤ (M.getD p []).length) && isF z3 0 (M.getD p [])) = true := by rw [ex]; rfl
    have hw := w64_succ p (by omega)
    simp only [l86o100002, d1, d2, nat_pos, Int.toNat_natCast, d3, Bool.and_self, chk_true, if_true, hw, many]
    by_cases g : xI M p ≥ i
    · have g1 : decide (asI (nthD (M.getD p []) 0) ≥ i) = true := decide_eq_true g
      have hc : w64 (c + 1) = c + 1 := w64_in _ (by omega)
      simp only [g1, if_true, hc, if_pos g]
      rw [ih (p + 1) m (c + 1) _ _ _ _ (by omega) (by omega) (by omega) (by omega)]
      congr 1; omega
    · have g1 : decide (asI (nthD (M.getD p []) 0) ≥ i) = false := decide_eq_false g
      simp only [g1, Bool.false_eq_true, if_false, if_neg g, Int.zero_add]
      exact ih (p + 1) m c _ _ _ _ (by omega) (by omega) h0 (by omega)
def com (n2 n3 n7 n8 : Int) (l9 : List (List D)) (n10 : Int) (M : List (List D)) : Nat → Int
  | 0 => n10
  | k + 1 => if trm n7 n8 l9 (n10 + ((k + 1 : Nat) : Int)) = n3 ∧ 2 * many M (n10 + ((k + 1 : Nat) : Int)) M.length 0 > n2 then n10 + ((k + 1 : Nat) : Int) else com n2 n3 n7 n8 l9 n10 M k
theorem com_in (n2 n3 n7 n8 : Int) (l9 : List (List D)) (n10 : Int) (M : List (List D)) : ∀ k : Nat, n10 ≤ com n2 n3 n7 n8 l9 n10 M k ∧ com n2 n3 n7 n8 l9 n10 M k ≤ n10 + (k : Int)
  | 0 => by simp [com]
  | k + 1 => by
    have := com_in n2 n3 n7 n8 l9 n10 M k
    simp only [com]
    split <;> omega
theorem count_loopS {n165 n166 n167 n168 n169 n170 n171 n172 n173 n181 n184 n185 n186 n190 n191 n192 n193 n194 n195 n196 n197 n198 : Int} {l200 l201 : List (List D)} (n2 n3 n7 n8 : Int) (l9 : List (List D)) (n10 : Int) (M : List (List D)) (q1 : Int → Int → Int → Bool → Bool → SV → Bool → Rs) (q2 : Int → SV → SV → Bool → SV → SV → SV → Rs) (R : Int → Rs) (h1 : ∀ a b c d e f g, q1 a b c d e f g = R a) (h2 : ∀ a b c d e f g, q2 a b c d e f g = R n10) (h9 : ∀ r ∈ l9, typL shEntry r) (hl : l9.length ≤ 100) (h7 : 0 ≤ n7 ∧ n7 ≤ 200000) (h10 : n7 ≤ n10)
    (h : ∀ r ∈ M, typL shInt r) (hM : (M.length : Int) = n2) (h5 : M.length ≤ 5) : ∀ (k m : Nat) (v1 v2 v3 v4 v5 v6 : SV), k < m → n10 + (k : Int) ≤ n7 + (l9.length : Int) →
    l83o0 n165 n166 n167 n168 n169 n170 n171 n172 n173 n181 n2 n3 n184 n185 n186 n7 n8 n10 n190 n191 n192 n193 n194 n195 n196 n197 n198 l9 l200 l201 M q1 q2 m (n10 + (k : Int)) v1 v2 v3 v4 v5 v6 = R (com n2 n3 n7 n8 l9 n10 M k) := by
  intro k
  induction k with
  | zero =>
    intro m v1 v2 v3 v4 v5 v6 hm hk
    obtain ⟨m, rfl⟩ : ∃ m', m = m' + 1 := ⟨m - 1, by omega⟩
    have d1 : decide (n10 + ((0 : Nat) : Int) > n10) = false := by simp
    simp only [l83o0, d1, Bool.false_eq_true, if_false, h2, com]
  | succ k ih =>
    intro m v1 v2 v3 v4 v5 v6 hm hk
    obtain ⟨m, rfl⟩ : ∃ m', m = m' + 1 := ⟨m - 1, by omega⟩
    have d1 : decide (n10 + ((k + 1 : Nat) : Int) > n10) = true := by simp; omega
    have ew : ∀ x, okR zr62 zo62 (some ([.one (.i .i64 x)], [])) = true := fun _ => rfl
    have ei : ∀ x, asI (resC (some ([.one (.i .i64 x)], [])) 0 0) = x := fun _ => rfl
    have et := fun a1 a4 a5 a6 a11 a12 => term_spec a1 n2 n3 a4 a5 a6 n7 n8 l9 n10 a11 a12 M h9 hl h7 (n10 + ((k + 1 : Nat) : Int)) ⟨by omega, by omega⟩
    simp only [l83o0, d1, if_true, com]
    refine Eq.trans (cnt_loopS (n10 + ((k + 1 : Nat) : Int)) n2 M h hM h5 _ (fun c => if trm n7 n8 l9 (n10 + ((k + 1 : Nat) : Int)) = n3 ∧ 2 * c > n2 then R (n10 + ((k + 1 : Nat) : Int)) else R (com n2 n3 n7 n8 l9 n10 M k)) (fun a b c d e ha hb => ?_) M.length 0 KK 0 _ _ _ (by omega) (by rw [KK_eq]; omega) (Int.le_refl _) (Int.le_refl _)) ?_
    · simp only [et, ew, ei, chk_true]
      rw [w64_in (2 * a) (by omega), w64_in (n10 + ((k + 1 : Nat) : Int) - 1) (by omega)]
      by_cases g : trm n7 n8 l9 (n10 + ((k + 1 : Nat) : Int)) = n3 ∧ 2 * a > n2
      · have g1 : (trm n7 n8 l9 (n10 + ((k + 1 : Nat) : Int)) == n3 && decide (2 * a > n2)) = true := by simpa using g
        simp only [g1, if_true, if_pos g, h1]
      · have g1 : (trm n7 n8 l9 (n10 + ((k + 1 : Nat) : Int)) == n3 && decide (2 * a > n2)) = false := by simpa using g
        simp only [g1, Bool.false_eq_true, if_false, if_neg g]
        rw [show n10 + ((k + 1 : Nat) : Int) - 1 = n10 + (k : Int) by omega]
        exact ih m _ _ _ _ _ _ (by omega) (by omega)
    · rw [Int.zero_add]
      split <;> rfl
theorem count_spec (n1 n2 n3 n4 n5 n6 n7 n8 : Int) (l9 : List (List D)) (n10 : Int) (l11 l12 l13 : List (List D)) (h9 : ∀ r ∈ l9, typL shEntry r) (hl : l9.length ≤ 100) (h7 : 0 ≤ n7 ∧ n7 ≤ 200000) (h10 : n7 ≤ n10) (hk : n10 ≤ n7 + (l9.length : Int)) (h : ∀ r ∈ l13, typL shInt r) (hM : (l13.length : Int) = n2) (h5 : l13.length ≤ 5) :
    t83 n1 n2 n3 n4 n5 n6 n7 n8 l9 n10 l11 l12 l13 = some ([.agg [.i .i64 n1, .i .i64 n2, .i .i64 n3, .i .i64 n4, .i .i64 n5, .i .i64 n6, .i .i64 n7, .i .i64 n8, .l l9, .i .i64 (com n2 n3 n7 n8 l9 n10 l13 (n7 + (l9.length : Int) - n10).toNat), .l l11, .l l12, .l l13]], []) := by
  have ew1 : ∀ x, okR zr42 zo42 (some ([.one (.i .i64 x)], [])) = true := fun _ => rfl
  have ei : ∀ x, asI (resC (some ([.one (.i .i64 x)], [])) 0 0) = x := fun _ => rfl
  unfold t83
  simp only [last_spec, ew1, ei, chk_true]
  rw [w64_in (n7 + (l9.length : Int)) (by omega)]
  have e : n7 + (l9.length : Int) = n10 + ((n7 + (l9.length : Int) - n10).toNat : Int) := by omega
  generalize hK : (n7 + (l9.length : Int) - n10).toNat = K at e
  rw [e]
  exact count_loopS n2 n3 n7 n8 l9 n10 l13 _ _ (fun c => some ([.agg [.i .i64 n1, .i .i64 n2, .i .i64 n3, .i .i64 n4, .i .i64 n5, .i .i64 n6, .i .i64 n7, .i .i64 n8, .l l9, .i .i64 c, .l l11, .l l12, .l l13]], [])) (fun _ _ _ _ _ _ _ => rfl) (fun _ _ _ _ _ _ _ => rfl) h9 hl h7 h10 h hM h5 K KK _ _ _ _ _ _ (by rw [KK_eq]; omega) (by omega)
theorem count_loopI {n110 n113 n114 n115 : Int} {l120 l121 : List (List D)} (n2 n3 n7 n8 : Int) (l9 : List (List D)) (n10 : Int) (M : List (List D)) (q1 : Int → Int → SV → Bool → Int → Int → Bool → SV → Bool → Rs) (q2 : Int → SV → SV → Bool → SV → SV → SV → SV → SV → SV → Rs) (R : Int → Rs) (h1 : ∀ a b c d e f g h i, q1 a b c d e f g h i = R a) (h2 : ∀ a b c d e f g h i j, q2 a b c d e f g h i j = R n10) (h9 : ∀ r ∈ l9, typL shEntry r) (hl : l9.length ≤ 100) (h7 : 0 ≤ n7 ∧ n7 ≤ 200000) (h10 : n7 ≤ n10)
    (h : ∀ r ∈ M, typL shInt r) (hM : (M.length : Int) = n2) (h5 : M.length ≤ 5) : ∀ (k m : Nat) (v1 v2 v3 v4 v5 v6 v7 v8 v9 : SV), k < m → n10 + (k : Int) ≤ n7 + (l9.length : Int) →
    l86o0 n110 n2 n3 n113 n114 n115 n7 n8 n10 l9 l120 l121 M q1 q2 m (n10 + (k : Int)) v1 v2 v3 v4 v5 v6 v7 v8 v9 = R (com n2 n3 n7 n8 l9 n10 M k) := by
  intro k
  induction k with
  | zero =>
    intro m v1 v2 v3 v4 v5 v6 v7 v8 v9 hm hk
    obtain ⟨m, rfl⟩ : ∃ m', m = m' + 1 := ⟨m - 1, by omega⟩
    have d1 : decide (n10 + ((0 : Nat) : Int) > n10) = false := by simp
    simp only [l86o0, d1, Bool.false_eq_true, if_false, h2, com]
  | succ k ih =>
    intro m v1 v2 v3 v4 v5 v6 v7 v8 v9 hm hk
    obtain ⟨m, rfl⟩ : ∃ m', m = m' + 1 := ⟨m - 1, by omega⟩
    have d1 : decide (n10 + ((k + 1 : Nat) : Int) > n10) = true := by simp; omega
    have ew : ∀ x, okR zr64 zo64 (some ([.one (.i .i64 x)], [])) = true := fun _ => rfl
    have ei : ∀ x, asI (resC (some ([.one (.i .i64 x)], [])) 0 0) = x := fun _ => rfl
    have ew2 : ∀ x, okR zr77 zo77 (some ([.one (.b x)], [])) = true := fun _ => rfl
    have eb : ∀ x, asB (resC (some ([.one (.b x)], [])) 0 0) = x := fun _ => rfl
    have et := fun a1 a4 a5 a6 a11 a12 => term_impl a1 n2 n3 a4 a5 a6 n7 n8 l9 n10 a11 a12 M h9 hl h7 (n10 + ((k + 1 : Nat) : Int)) ⟨by omega, by omega⟩
    simp only [l86o0, d1, if_true, com]
    refine Eq.trans (cnt_loopI (n10 + ((k + 1 : Nat) : Int)) (M.length : Int) M h rfl h5 _ (fun c => if trm n7 n8 l9 (n10 + ((k + 1 : Nat) : Int)) = n3 ∧ 2 * c > n2 then R (n10 + ((k + 1 : Nat) : Int)) else R (com n2 n3 n7 n8 l9 n10 M k)) (fun a b c d e f ha hb => ?_) M.length 0 KK 0 _ _ _ _ (by omega) (by rw [KK_eq]; omega) (Int.le_refl _) (Int.le_refl _)) ?_
    · simp only [et, ew, ei, most_eq, ew2, eb, Bool.true_or, chk_true]
      rw [w64_in (2 * a) (by omega), w64_in (n10 + ((k + 1 : Nat) : Int) - 1) (by omega)]
      by_cases g : trm n7 n8 l9 (n10 + ((k + 1 : Nat) : Int)) = n3 ∧ 2 * a > n2
      · have g1 : (trm n7 n8 l9 (n10 + ((k + 1 : Nat) : Int)) == n3 && decide (2 * a > n2)) = true := by simpa using g
        simp only [g1, if_true, if_pos g, h1]
      · have g1 : (trm n7 n8 l9 (n10 + ((k + 1 : Nat) : Int)) == n3 && decide (2 * a > n2)) = false := by simpa using g
        simp only [g1, Bool.false_eq_true, if_false, if_neg g]
        rw [show n10 + ((k + 1 : Nat) : Int) - 1 = n10 + (k : Int) by omega]
        exact ih m _ _ _ _ _ _ _ _ _ (by omega) (by omega)
    · rw [Int.zero_add]
      split <;> rfl
theorem count_impl (n1 n2 n3 n4 n5 n6 n7 n8 : Int) (l9 : List (List D)) (n10 : Int) (l11 l12 l13 : List (List D)) (h9 : ∀ r ∈ l9, typL shEntry r) (hl : l9.length ≤ 100) (h7 : 0 ≤ n7 ∧ n7 ≤ 200000) (h10 : n7 ≤ n10) (hk : n10 ≤ n7 + (l9.length : Int)) (h : ∀ r ∈ l13, typL shInt r) (hM : (l13.length : Int) = n2) (h5 : l13.length ≤ 5) :
    t86 n1 n2 n3 n4 n5 n6 n7 n8 l9 n10 l11 l12 l13 = some ([], [[.i .i64 n1, .i .i64 n2, .i .i64 n3, .i .i64 n4, .i .i64 n5, .i .i64 n6, .i .i64 n7, .i .i64 n8, .l l9, .i .i64 (com n2 n3 n7 n8 l9 n10 l13 (n7 + (l9.length : Int) - n10).toNat), .l l11, .l l12, .l l13]]) := by
  have ew1 : ∀ x, okR zr49 zo49 (some ([.one (.i .i64 x)], [])) = true := fun _ => rfl
  have ei : ∀ x, asI (resC (some ([.one (.i .i64 x)], [])) 0 0) = x := fun _ => rfl
  unfold t86
  simp only [last_impl, ew1, ei, chk_true]
  rw [w64_in (n7 + (l9.length : Int)) (by omega)]
  have e : n7 + (l9.length : Int) = n10 + ((n7 + (l9.length : Int) - n10).toNat : Int) := by omega
  generalize hK : (n7 + (l9.length : Int) - n10).toNat = K at e
  rw [e]
  exact count_loopI n2 n3 n7 n8 l9 n10 l13 _ _ (fun c => some ([], [[.i .i64 n1, .i .i64 n2, .i .i64 n3, .i .i64 n4, .i .i64 n5, .i .i64 n6, .i .i64 n7, .i .i64 n8, .l l9, .i .i64 c, .l l11, .l l12, .l l13]])) (fun _ _ _ _ _ _ _ _ _ => rfl) (fun _ _ _ _ _ _ _ _ _ _ => rfl) h9 hl h7 h10 h hM h5 K KK _ _ _ _ _ _ _ _ _ (by rw [KK_eq]; omega) (by omega)
theorem stR_int {l : List (List D)} (h : ∀ r ∈ l, typL shInt r) (i : Nat) (x : Int) (hx : -9223372036854775808 ≤ x ∧ x ≤ 9223372036854775807) : (stR l i 0 [.i .i64 x]).length = l.length ∧ (∀ r ∈ stR l i 0 [.i .i64 x], typL shInt r) ∧ ∀ p, p < l.length → xI (stR l i 0 [.i .i64 x]) p = if p = i then x else xI l p := by
  have one : ∀ r, typL shInt r → r.take 0 ++ [D.i .i64 x] ++ r.drop (0 + [D.i .i64 x].length) = [.i .i64 x] := fun r hr => by
    obtain ⟨a, rfl⟩ := Int_row hr; rfl
  have ht : typL shInt [D.i .i64 x] := ⟨_, _, rfl, int_typ hx, rfl⟩
  unfold stR
  refine ⟨List.length_modify _ _ _, fun r hr => ?_, fun p hp => ?_⟩
  · obtain ⟨j, hj⟩ := List.getElem?_of_mem hr
    simp only [List.getElem?_modify, Option.map_eq_map, Option.map_eq_some_iff] at hj
    obtain ⟨q, h1, h2⟩ := hj
    have hq := h q (List.mem_of_getElem? h1)
    split at h2
    · rw [one q hq] at h2; rw [← h2]; exact ht
    · rw [← h2]; exact hq
  · unfold xI
    rw [List.getD_eq_getElem?_getD, List.getD_eq_getElem?_getD, List.getElem?_modify]
    by_cases e : p = i
    · subst e
      simp only [if_true, List.getElem?_eq_getElem hp, Option.map_eq_map, Option.map_some, Option.getD_some]
      rw [one _ (h _ (List.getElem_mem hp))]
      rfl
    · rw [if_neg e]
      simp [Ne.symm e]
def putL (b : Bool) (l9 : List (List D)) (n3 : Int) (s : ByteArray) : List (List D) := if b then l9 ++ [[.i .i64 n3, .s s]] else l9
/-- One who leads, before he takes up an entry. -/
structure Led (n1 n2 n3 n7 n10 : Int) (l9 l12 l13 : List (List D)) (s : ByteArray) (id : Nat) : Prop where
  eid : n1 = (id : Int)
  lt : id < l12.length
  e12 : (l12.length : Int) = n2
  e13 : (l13.length : Int) = n2
  h5 : l12.length ≤ 5
  t12 : ∀ r ∈ l12, typL shInt r
  t13 : ∀ r ∈ l13, typL shInt r
  t9 : ∀ r ∈ l9, typL shEntry r
  z9 : ∀ r ∈ l9, szdL shEntry r
  h9 : l9.length ≤ 60
  h7 : 0 ≤ n7 ∧ n7 + (l9.length : Int) ≤ 100000
  h10 : n7 ≤ n10 ∧ n10 ≤ n7 + (l9.length : Int)
  h3 : 0 ≤ n3 ∧ n3 ≤ 100000
  hs : s.size ≤ 1048576
theorem putL_ok {n1 n2 n3 n7 n10 : Int} {l9 l12 l13 : List (List D)} {s : ByteArray} {id : Nat} (L : Led n1 n2 n3 n7 n10 l9 l12 l13 s id) (b : Bool) : (∀ r ∈ putL b l9 n3 s, typL shEntry r) ∧ (∀ r ∈ putL b l9 n3 s, szdL shEntry r) ∧ l9.length ≤ (putL b l9 n3 s).length ∧ (putL b l9 n3 s).length ≤ l9.length + 1 := by
  have h3 := L.h3
  have hs := L.hs
  unfold putL
  cases b
  · exact ⟨L.t9, L.z9, Nat.le_refl _, Nat.le_succ _⟩
  · simp only [if_true]
    refine ⟨fun r hr => ?_, fun r hr => ?_, by simp, by simp⟩
    · rcases List.mem_append.1 hr with hr | hr
      · exact L.t9 r hr
      · rw [List.mem_singleton] at hr; subst hr
        exact ⟨_, _, rfl, int_typ (by omega), _, _, rfl, ⟨_, rfl, by unfold maxLen; omega⟩, rfl⟩
    · rcases List.mem_append.1 hr with hr | hr
      · exact L.z9 r hr
      · rw [List.mem_singleton] at hr; subst hr
        exact ⟨trivial, hs, trivial⟩
theorem own_impl (n1 n2 n3 n4 n5 n6 n7 n8 : Int) (G : List (List D)) (n10 : Int) (l11 l12 l13 : List (List D)) (id : Nat) (hid : n1 = (id : Int)) (h2 : id < l12.length) (h3 : id < l13.length) (hb : 0 ≤ n7 ∧ n7 + (G.length : Int) ≤ 200000) :
    t85 n1 n2 n3 n4 n5 n6 n7 n8 G n10 l11 l12 l13 = some ([], [[.i .i64 n1, .i .i64 n2, .i .i64 n3, .i .i64 n4, .i .i64 n5, .i .i64 n6, .i .i64 n7, .i .i64 n8, .l G, .i .i64 n10, .l l11, .l (stR l12 id 0 [.i .i64 (n7 + (G.length : Int) + 1)]), .l (stR l13 id 0 [.i .i64 (n7 + (G.length : Int))])]]) := by
  subst hid
  have ew1 : ∀ x, okR zr49 zo49 (some ([.one (.i .i64 x)], [])) = true := fun _ => rfl
  have ei : ∀ x, asI (resC (some ([.one (.i .i64 x)], [])) 0 0) = x := fun _ => rfl
  have d2 : decide (1 ≤ 1 ∧ id < l12.length) = true := decide_eq_true ⟨Nat.le_refl _, h2⟩
  have d3 : decide (1 ≤ 1 ∧ id < l13.length) = true := decide_eq_true ⟨Nat.le_refl _, h3⟩
  unfold t85
  simp only [last_impl, ew1, ei, Int.toNat_natCast, nat_in h2, nat_in h3, nat_pos, d2, d3, Bool.and_self, chk_true]
  rw [w64_in (n7 + (G.length : Int)) (by omega), w64_in (n7 + (G.length : Int) + 1) (by omega)]
theorem put_spec (n1 n2 n3 n4 n5 n6 n7 n8 : Int) (l9 : List (List D)) (n10 : Int) (l11 l12 l13 : List (List D)) (s : ByteArray) (id : Nat) (L : Led n1 n2 n3 n7 n10 l9 l12 l13 s id) (b : Bool) (hb : b = (decide ((l9.length : Int) < 60) && decide (n7 + (l9.length : Int) < 100000))) :
    t69 n1 n2 n3 n4 n5 n6 n7 n8 l9 n10 l11 l12 l13 s = some ([.agg [.i .i64 n1, .i .i64 n2, .i .i64 n3, .i .i64 n4, .i .i64 n5, .i .i64 n6, .i .i64 n7, .i .i64 n8, .l (putL b l9 n3 s),
      .i .i64 (com n2 n3 n7 n8 (putL b l9 n3 s) n10 (stR l13 id 0 [.i .i64 (n7 + ((putL b l9 n3 s).length : Int))]) (n7 + ((putL b l9 n3 s).length : Int) - n10).toNat), .l l11, .l (stR l12 id 0 [.i .i64 (n7 + ((putL b l9 n3 s).length : Int) + 1)]), .l (stR l13 id 0 [.i .i64 (n7 + ((putL b l9 n3 s).length : Int))])]], []) := by
  obtain ⟨g1, g2, g3, g4⟩ := putL_ok L b
  obtain ⟨hid, hlt, e12, e13, h5, t12, t13, t9, z9, h9, h7, h10, h3, hs⟩ := L
  subst hid
  have ew1 : ∀ x, okR zr42 zo42 (some ([.one (.i .i64 x)], [])) = true := fun _ => rfl
  have ei : ∀ x, asI (resC (some ([.one (.i .i64 x)], [])) 0 0) = x := fun _ => rfl
  have hlt3 : id < l13.length := by omega
  have d2 : decide (1 ≤ 1 ∧ id < l12.length) = true := decide_eq_true ⟨Nat.le_refl _, hlt⟩
  have d3 : decide (1 ≤ 1 ∧ id < l13.length) = true := decide_eq_true ⟨Nat.le_refl _, hlt3⟩
  have hcount : ∀ G : List (List D), (∀ r ∈ G, typL shEntry r) → l9.length ≤ G.length → G.length ≤ l9.length + 1 → t83 (id : Int) n2 n3 n4 n5 n6 n7 n8 G n10 l11 (stR l12 id 0 [.i .i64 (n7 + (G.length : Int) + 1)]) (stR l13 id 0 [.i .i64 (n7 + (G.length : Int))]) =
      some ([.agg [.i .i64 (id : Int), .i .i64 n2, .i .i64 n3, .i .i64 n4, .i .i64 n5, .i .i64 n6, .i .i64 n7, .i .i64 n8, .l G, .i .i64 (com n2 n3 n7 n8 G n10 (stR l13 id 0 [.i .i64 (n7 + (G.length : Int))]) (n7 + (G.length : Int) - n10).toNat), .l l11, .l (stR l12 id 0 [.i .i64 (n7 + (G.length : Int) + 1)]), .l (stR l13 id 0 [.i .i64 (n7 + (G.length : Int))])]], []) := fun G q1 q2 q3 => by
    obtain ⟨s1, s2, s3⟩ := stR_int t13 id (n7 + (G.length : Int)) (by omega)
    exact count_spec (id : Int) n2 n3 n4 n5 n6 n7 n8 G n10 l11 _ _ q1 (by omega) (by omega) (by omega) (by omega) s2 (by rw [s1]; exact e13) (by rw [s1]; omega)
  unfold t69
  simp only [last_spec, ew1, ei, Int.toNat_natCast, nat_in hlt, nat_in hlt3, nat_pos, d2, d3, Bool.and_self, Bool.true_or, chk_true]
  rw [w64_in (n7 + (l9.length : Int)) (by omega), ← hb]
  cases b
  · have hc := hcount l9 t9 (Nat.le_refl _) (Nat.le_succ _)
    simp only [Bool.false_eq_true, if_false]
    rw [w64_in (n7 + (l9.length : Int) + 1) (by omega), hc]
    rfl
  · have hp : putL true l9 n3 s = l9 ++ [[.i .i64 n3, .s s]] := rfl
    rw [hp] at g1 g3 g4 ⊢
    have hc := hcount _ g1 g3 g4
    have ef : flatR 2 [[D.i .i64 n3, .s s]] = true := rfl
    have el : decide (l9.length + [[D.i .i64 n3, .s s]].length ≤ lim) = true := decide_eq_true (by simp only [List.length_singleton]; unfold lim; omega)
    simp only [if_true, ef, el, Bool.and_self, chk_true]
    rw [w64_in (n7 + ((l9 ++ [[D.i .i64 n3, .s s]]).length : Int)) (by omega), w64_in (n7 + ((l9 ++ [[D.i .i64 n3, .s s]]).length : Int) + 1) (by omega), hc]
    rfl
/-- Behind it. -/
theorem led_fit {n1 n2 n3 n7 n10 : Int} {l9 l12 l13 : List (List D)} {s : ByteArray} {id : Nat} (L : Led n1 n2 n3 n7 n10 l9 l12 l13 s id) (b : Bool) (hnx : ∀ p, p < l12.length → xI l12 p ≤ n7 + (l9.length : Int) + 1) :
    Fit n7 (putL b l9 n3 s) (stR l12 id 0 [.i .i64 (n7 + ((putL b l9 n3 s).length : Int) + 1)]) := by
  obtain ⟨g1, g2, g3, g4⟩ := putL_ok L b
  obtain ⟨hid, hlt, e12, e13, h5, t12, t13, t9, z9, h9, h7, h10, h3, hs⟩ := L
  obtain ⟨s1, s2, s3⟩ := stR_int t12 id (n7 + ((putL b l9 n3 s).length : Int) + 1) (by omega)
  refine ⟨g1, by omega, by omega, s2, fun p hp => ?_, by omega⟩
  rw [s1] at hp
  rw [s3 p hp]
  have := hnx p hp
  split <;> omega
theorem room_eq (n1 n2 n3 n4 n5 n6 n7 n8 : Int) (l9 : List (List D)) (n10 : Int) (l11 l12 l13 : List (List D)) (h7 : 0 ≤ n7 ∧ n7 + (l9.length : Int) ≤ 200000) : t84 n1 n2 n3 n4 n5 n6 n7 n8 l9 n10 l11 l12 l13 = some ([.one (.b (decide ((l9.length : Int) < 60) && decide (n7 + (l9.length : Int) < 100000)))], []) := by
  have ew1 : ∀ x, okR zr49 zo49 (some ([.one (.i .i64 x)], [])) = true := fun _ => rfl
  have ei : ∀ x, asI (resC (some ([.one (.i .i64 x)], [])) 0 0) = x := fun _ => rfl
  unfold t84
  simp only [last_impl, ew1, ei, Bool.true_or, chk_true]
  rw [w64_in (n7 + (l9.length : Int)) (by omega)]
end Go.Den.L9

/- One who asks for votes. -/
namespace Go.Den.L9
open Go
/-- What is sent by one who asks. -/
def askD (n1 n3 last term : Int) (p : Nat) : List D := [.i .i64 1, .i .i64 n1, .i .i64 (p : Int), .i .i64 n3, .i .i64 last, .i .i64 term, .i .i64 0, .b false, .l [], .s ⟨#[]⟩]
theorem ask_loopS {n56 n57 n58 n59 n60 n61 n62 n63 : Int} {l64 : List (List D)} {n65 : Int} {l66 l67 l68 : List (List D)} {b70 b71 b72 : Bool} {n78 n79 n80 n83 n84 n85 n86 n87 n88 n89 n90 n91 n92 : Int} {l94 l96 l97 l98 : List (List D)} (n1 n2 n3 n7 n8 : Int) (l9 : List (List D)) (q : Int → Bool → SV → List (List D) → Rs) (R : List (List D) → Rs) (hq : ∀ a b c d, q a b c d = R d) (h9 : ∀ r ∈ l9, typL shEntry r) (hl : l9.length ≤ 100) (h7 : 0 ≤ n7 ∧ n7 ≤ 200000) (N : Nat) (hN : n2 = (N : Int)) (h5 : N ≤ 5) : ∀ (k i m : Nat) (v w : SV) (acc : List (List D)), i + k = N → k < m → acc.length ≤ i →
    l35o3 n56 n57 n58 n59 n60 n61 n62 n63 l64 n65 l66 l67 l68 b70 b71 b72 n1 n2 n3 n78 n79 n80 n7 n8 n83 n84 n85 n86 n87 n88 n89 n90 n91 n92 l94 l9 l96 l97 l98 q m (i : Int) v w acc = R (acc ++ gat (askD n1 n3 (n7 + (l9.length : Int)) (trm n7 n8 l9 (n7 + (l9.length : Int)))) n1 k i) := by
  intro k
  induction k with
  | zero =>
    intro i m v w acc e hm ha
    obtain ⟨m, rfl⟩ : ∃ m', m = m' + 1 := ⟨m - 1, by omega⟩
    have c : decide ((i : Int) < n2) = false := by rw [hN]; simp; omega
    simp only [l35o3, c, Bool.false_eq_true, if_false, hq, gat, List.append_nil]
  | succ k ih =>
    intro i m v w acc e hm ha
    obtain ⟨m, rfl⟩ : ∃ m', m = m' + 1 := ⟨m - 1, by omega⟩
    have c : decide ((i : Int) < n2) = true := by rw [hN]; simp; omega
    have hw := w64_succ i (by omega)
    have ew1 : ∀ x, okR zr42 zo42 (some ([.one (.i .i64 x)], [])) = true := fun _ => rfl
    have ew2 : ∀ x, okR zr62 zo62 (some ([.one (.i .i64 x)], [])) = true := fun _ => rfl
    have ei : ∀ x, asI (resC (some ([.one (.i .i64 x)], [])) 0 0) = x := fun _ => rfl
    have hwl : w64 (n7 + (l9.length : Int)) = n7 + (l9.length : Int) := w64_in _ (by omega)
    have et := fun a1 a2 a3 a4 a5 a6 a10 a11 a12 a13 => term_spec a1 a2 a3 a4 a5 a6 n7 n8 l9 a10 a11 a12 a13 h9 hl h7 (n7 + (l9.length : Int)) ⟨by omega, Int.le_refl _⟩
    by_cases g : (i : Int) = n1
    · have q1 : ((i : Int) != n1) = false := by simpa using g
      simp only [l35o3, c, q1, if_true, Bool.false_eq_true, if_false, hw, gat, if_pos g]
      exact ih (i + 1) m _ _ acc (by omega) (by omega) (by omega)
    · have q1 : ((i : Int) != n1) = true := by simpa using g
      have el : decide (acc.length + [askD n1 n3 (n7 + (l9.length : Int)) (trm n7 n8 l9 (n7 + (l9.length : Int))) i].length ≤ lim) = true := decide_eq_true (by simp only [List.length_singleton]; unfold lim; omega)
      have ea : ([[.i .i64 (1 : Int), .i .i64 n1, .i .i64 (i : Int), .i .i64 n3, .i .i64 (n7 + (l9.length : Int)), .i .i64 (trm n7 n8 l9 (n7 + (l9.length : Int))), .i .i64 (0 : Int), .b false, .l ([] : List (List D)), .s (⟨#[]⟩ : ByteArray)]] : List (List D)) = [askD n1 n3 (n7 + (l9.length : Int)) (trm n7 n8 l9 (n7 + (l9.length : Int))) i] := rfl
      simp only [l35o3, c, q1, if_true, last_spec, hwl, ew1, ei, et, ew2, ea, el, Bool.true_and, chk_true, hw, gat, if_neg g]
      have := ih (i + 1) m (.d (.b true)) (.d (.b true)) (acc ++ [askD n1 n3 (n7 + (l9.length : Int)) (trm n7 n8 l9 (n7 + (l9.length : Int))) i]) (by omega) (by omega) (by simp; omega)
      rw [List.append_assoc] at this
      exact this
theorem ask_loopI {b35 b36 : Bool} {n41 n43 n44 n45 n48 : Int} {l50 l51 l52 l53 : List (List D)} (n1 n3 n7 n8 : Int) (l9 O : List (List D)) (q : SV → Int → Bool → List (List D) → Rs) (R : List (List D) → Rs) (hq : ∀ a b c d, q a b c d = R d) (h9 : ∀ r ∈ l9, typL shEntry r) (hl : l9.length ≤ 100) (h7 : 0 ≤ n7 ∧ n7 ≤ 200000) (N : Nat) (hO : O.length ≤ 5) : ∀ (b a : List (List D)) (m : Nat) (v w : SV) (acc : List (List D)), O = a ++ b → (∀ r ∈ b, isP N r) → b.length < m → acc.length ≤ a.length →
    l72o2 b35 b36 (O.length : Int) n1 n41 n3 n43 n44 n45 n7 n8 n48 l9 l50 l51 l52 l53 O q m v (a.length : Int) w acc = R (acc ++ b.map fun r => askD n1 n3 (n7 + (l9.length : Int)) (trm n7 n8 l9 (n7 + (l9.length : Int))) (asI (nthD r 0)).toNat) := by
  intro b
  induction b with
  | nil =>
    intro a m v w acc e hb hm ha
    subst e
    obtain ⟨m, rfl⟩ : ∃ m', m = m' + 1 := ⟨m - 1, by omega⟩
    have c : decide ((a.length : Int) < (a.length : Int)) = false := by simp
    simp only [l72o2, List.append_nil, c, Bool.false_eq_true, if_false, hq, List.map_nil, List.append_nil]
  | cons r b ih =>
    intro a m v w acc e hb hm ha
    subst e
    obtain ⟨m, rfl⟩ : ∃ m', m = m' + 1 := ⟨m - 1, by omega⟩
    obtain ⟨p, hp, rfl⟩ := hb r (by simp)
    simp only [List.length_cons] at hm
    rw [List.length_append, List.length_cons] at hO
    have ew1 : ∀ x, okR zr49 zo49 (some ([.one (.i .i64 x)], [])) = true := fun _ => rfl
    have ew2 : ∀ x, okR zr64 zo64 (some ([.one (.i .i64 x)], [])) = true := fun _ => rfl
    have ei : ∀ x, asI (resC (some ([.one (.i .i64 x)], [])) 0 0) = x := fun _ => rfl
    have hwl : w64 (n7 + (l9.length : Int)) = n7 + (l9.length : Int) := w64_in _ (by omega)
    have et := fun a1 a2 a3 a4 a5 a6 a10 a11 a12 a13 => term_impl a1 a2 a3 a4 a5 a6 n7 n8 l9 a10 a11 a12 a13 h9 hl h7 (n7 + (l9.length : Int)) ⟨by omega, Int.le_refl _⟩
    have c : decide ((a.length : Int) < ((a ++ [D.i .i64 (p : Int)] :: b).length : Int)) = true := by simp; omega
    have c0 : decide (0 ≤ (a.length : Int)) = true := by simp
    have eg : (a ++ [D.i .i64 (p : Int)] :: b).getD a.length [] = [.i .i64 (p : Int)] := getD_mid a b _ _ rfl
    have ez : (decide (1 ≤ ([D.i .i64 (p : Int)] : List D).length) && isF z3 0 [D.i .i64 (p : Int)]) = true := rfl
    have ea : asI (nthD [D.i .i64 (p : Int)] 0) = (p : Int) := rfl
    have hw := w64_succ a.length (by omega)
    have el : decide (acc.length + [askD n1 n3 (n7 + (l9.length : Int)) (trm n7 n8 l9 (n7 + (l9.length : Int))) p].length ≤ lim) = true := decide_eq_true (by simp only [List.length_singleton]; unfold lim; omega)
    have eb : ([[.i .i64 (1 : Int), .i .i64 n1, .i .i64 (p : Int), .i .i64 n3, .i .i64 (n7 + (l9.length : Int)), .i .i64 (trm n7 n8 l9 (n7 + (l9.length : Int))), .i .i64 (0 : Int), .b false, .l ([] : List (List D)), .s (⟨#[]⟩ : ByteArray)]] : List (List D)) = [askD n1 n3 (n7 + (l9.length : Int)) (trm n7 n8 l9 (n7 + (l9.length : Int))) p] := rfl
    simp only [l72o2, c, c0, Int.toNat_natCast, eg, ez, ea, if_true, last_impl, hwl, ew1, ei, et, ew2, eb, el, Bool.true_and, chk_true, hw]
    have hO2 : (a ++ [D.i .i64 (p : Int)] :: b) = (a ++ [[D.i .i64 (p : Int)]]) ++ b := by simp
    have := ih (a ++ [[D.i .i64 (p : Int)]]) m (.d (.i .i64 (p : Int))) (.d (.b true)) (acc ++ [askD n1 n3 (n7 + (l9.length : Int)) (trm n7 n8 l9 (n7 + (l9.length : Int))) p]) hO2 (fun r hr => hb r (by simp [hr])) (by omega) (by simp; omega)
    have e3 : (a ++ [[D.i .i64 (p : Int)]]).length = a.length + 1 := by simp
    rw [e3, List.append_assoc] at this
    exact this
theorem ask_typ {n1 n3 last term : Int} (h1 : 0 ≤ n1 ∧ n1 ≤ 5) (h3 : 0 ≤ n3 ∧ n3 ≤ 200000) (hl : 0 ≤ last ∧ last ≤ 200000) (ht : -9223372036854775808 ≤ term ∧ term ≤ 9223372036854775807) (N : Nat) (h5 : N ≤ 5) :
    (gat (askD n1 n3 last term) n1 N 0).length ≤ 1048576 ∧ (∀ r ∈ gat (askD n1 n3 last term) n1 N 0, typL shMsg r) ∧ ∀ r ∈ gat (askD n1 n3 last term) n1 N 0, szdL shMsg r := by
  have hg := gat_len (askD n1 n3 last term) n1 N 0
  refine ⟨by omega, fun r hr => ?_, fun r hr => ?_⟩
  · obtain ⟨p, _, h2, rfl⟩ := gat_mem _ _ _ _ _ hr
    exact ⟨_, _, rfl, int_typ (by omega), ⟨_, _, rfl, int_typ (by omega), ⟨_, _, rfl, int_typ (by omega), ⟨_, _, rfl, int_typ (by omega), ⟨_, _, rfl, int_typ (by omega), ⟨_, _, rfl, int_typ ht, ⟨_, _, rfl, int_typ (by omega), ⟨_, _, rfl, ⟨_, rfl⟩, ⟨_, _, rfl, ⟨_, rfl, Nat.zero_le _, fun r h => by cases h⟩, ⟨_, _, rfl, ⟨_, rfl, Nat.zero_le _⟩, rfl⟩⟩⟩⟩⟩⟩⟩⟩⟩⟩
  · obtain ⟨p, _, h2, rfl⟩ := gat_mem _ _ _ _ _ hr
    exact ⟨trivial, trivial, trivial, trivial, trivial, trivial, trivial, trivial, ⟨Nat.zero_le _, fun r h => by cases h⟩, Nat.zero_le _, trivial⟩
def ld12 (n7 : Int) (l9 : List (List D)) : List (List D) := [[.i .i64 (n7 + (l9.length : Int) + 1)]]
def ld13 : List (List D) := [[.i .i64 0]]
theorem led1 {n3 n7 n10 : Int} {l9 : List (List D)} (t9 : ∀ r ∈ l9, typL shEntry r) (z9 : ∀ r ∈ l9, szdL shEntry r) (h9 : l9.length ≤ 60) (h7 : 0 ≤ n7 ∧ n7 + (l9.length : Int) ≤ 100000) (h10 : n7 ≤ n10 ∧ n10 ≤ n7 + (l9.length : Int)) (h3 : 0 ≤ n3 ∧ n3 ≤ 100000) : Led 0 1 n3 n7 n10 l9 (ld12 n7 l9) ld13 ⟨#[]⟩ 0 :=
  ⟨rfl, by simp [ld12], rfl, rfl, by simp [ld12], fun r hr => by
    have hr : r ∈ [[D.i .i64 (n7 + (l9.length : Int) + 1)]] := hr
    rw [List.mem_singleton] at hr; subst hr; exact ⟨_, _, rfl, int_typ (by omega), rfl⟩, fun r hr => by
    have hr : r ∈ [[D.i .i64 0]] := hr
    rw [List.mem_singleton] at hr; subst hr; exact ⟨_, _, rfl, int_typ (by omega), rfl⟩, t9, z9, h9, h7, h10, h3, Nat.zero_le _⟩
theorem leads_impl (n3 n4 n5 n6 n7 n8 : Int) (l9 : List (List D)) (n10 : Int) (l11 l12 l13 : List (List D)) (t9 : ∀ r ∈ l9, typL shEntry r) (z9 : ∀ r ∈ l9, szdL shEntry r) (h9 : l9.length ≤ 60) (h7 : 0 ≤ n7 ∧ n7 + (l9.length : Int) ≤ 100000) (h10 : n7 ≤ n10 ∧ n10 ≤ n7 + (l9.length : Int)) (h3 : 0 ≤ n3 ∧ n3 ≤ 100000) (b : Bool) (hb : b = (decide ((l9.length : Int) < 60) && decide (n7 + (l9.length : Int) < 100000))) :
    t87 0 1 n3 n4 n5 n6 n7 n8 l9 n10 l11 l12 l13 = some ([.one (.l [])],
      [[.i .i64 0, .i .i64 1, .i .i64 n3, .i .i64 n4, .i .i64 3, .i .i64 0, .i .i64 n7, .i .i64 n8, .l (putL b l9 n3 ⟨#[]⟩), .i .i64 (com 1 n3 n7 n8 (putL b l9 n3 ⟨#[]⟩) n10 (stR ld13 0 0 [.i .i64 (n7 + ((putL b l9 n3 ⟨#[]⟩).length : Int))]) (n7 + ((putL b l9 n3 ⟨#[]⟩).length : Int) - n10).toNat), .l [], .l (stR (ld12 n7 l9) 0 0 [.i .i64 (n7 + ((putL b l9 n3 ⟨#[]⟩).length : Int) + 1)]), .l (stR ld13 0 0 [.i .i64 (n7 + ((putL b l9 n3 ⟨#[]⟩).length : Int))])]]) := by
  have L := led1 (n3 := n3) t9 z9 h9 h7 h10 h3
  have hnx : ∀ p, p < (ld12 n7 l9).length → xI (ld12 n7 l9) p ≤ n7 + (l9.length : Int) + 1 := fun p hp => by
    have : p = 0 := by simp [ld12] at hp; exact hp
    subst this
    exact Int.le_refl _
  have F := led_fit L b hnx
  obtain ⟨g1, g2, g3, g4⟩ := putL_ok L b
  have hG : ∀ G : List (List D), Fit n7 G (stR (ld12 n7 l9) 0 0 [.i .i64 (n7 + (G.length : Int) + 1)]) → (∀ r ∈ G, typL shEntry r) → l9.length ≤ G.length → G.length ≤ l9.length + 1 →
      t85 0 1 n3 n4 3 0 n7 n8 G n10 [] (ld12 n7 l9) ld13 = some ([], [[.i .i64 0, .i .i64 1, .i .i64 n3, .i .i64 n4, .i .i64 3, .i .i64 0, .i .i64 n7, .i .i64 n8, .l G, .i .i64 n10, .l [], .l (stR (ld12 n7 l9) 0 0 [.i .i64 (n7 + (G.length : Int) + 1)]), .l (stR ld13 0 0 [.i .i64 (n7 + (G.length : Int))])]]) ∧
      t86 0 1 n3 n4 3 0 n7 n8 G n10 [] (stR (ld12 n7 l9) 0 0 [.i .i64 (n7 + (G.length : Int) + 1)]) (stR ld13 0 0 [.i .i64 (n7 + (G.length : Int))]) = some ([], [[.i .i64 0, .i .i64 1, .i .i64 n3, .i .i64 n4, .i .i64 3, .i .i64 0, .i .i64 n7, .i .i64 n8, .l G, .i .i64 (com 1 n3 n7 n8 G n10 (stR ld13 0 0 [.i .i64 (n7 + (G.length : Int))]) (n7 + (G.length : Int) - n10).toNat), .l [], .l (stR (ld12 n7 l9) 0 0 [.i .i64 (n7 + (G.length : Int) + 1)]), .l (stR ld13 0 0 [.i .i64 (n7 + (G.length : Int))])]]) ∧
      ∀ K, t66 0 1 n3 n4 3 0 n7 n8 G K [] (stR (ld12 n7 l9) 0 0 [.i .i64 (n7 + (G.length : Int) + 1)]) (stR ld13 0 0 [.i .i64 (n7 + (G.length : Int))]) = some ([.one (.l [])], []) := fun G F q1 q2 q3 => by
    obtain ⟨s1, s2, s3⟩ := stR_int L.t13 0 (n7 + (G.length : Int)) (by omega)
    obtain ⟨u1, u2, u3⟩ := stR_int L.t12 0 (n7 + (G.length : Int) + 1) (by omega)
    refine ⟨own_impl 0 1 n3 n4 3 0 n7 n8 G n10 [] (ld12 n7 l9) ld13 0 rfl (by simp [ld12]) (by simp [ld13]) (by omega), ?_, fun K => ?_⟩
    · exact count_impl 0 1 n3 n4 3 0 n7 n8 G n10 [] _ _ q1 (by omega) (by omega) (by omega) (by omega) s2 (by rw [s1]; rfl) (by rw [s1]; simp [ld13])
    · exact all_impl 0 1 n3 n4 3 0 n7 n8 G K [] _ _ F 1 rfl (by rw [u1]; rfl)
  have ew1 : ∀ x, okR zr49 zo49 (some ([.one (.i .i64 x)], [])) = true := fun _ => rfl
  have ei : ∀ x, asI (resC (some ([.one (.i .i64 x)], [])) 0 0) = x := fun _ => rfl
  have hwl : w64 (n7 + (l9.length : Int)) = n7 + (l9.length : Int) := w64_in _ (by omega)
  have hwl1 : w64 (n7 + (l9.length : Int) + 1) = n7 + (l9.length : Int) + 1 := w64_in _ (by omega)
  obtain ⟨m, hm⟩ : ∃ m, KK = m + 2 := ⟨KK - 2, by rw [KK_eq]⟩
  have e0 : decide (0 ≤ (1 : Int) ∧ (1 : Int) ≤ lim ∧ (1 : Int) = 1) = true := by unfold lim; decide
  have er : List.replicate (1 : Int).toNat z3 = ld13 := rfl
  have el : ((ld13.length : Nat) : Int) = 1 := rfl
  have el1 : ld13.length = 1 := rfl
  have d0 : decide ((0 : Int) < 1) = true := rfl
  have d1 : decide ((1 : Int) < 1) = false := rfl
  have d2 : w64 ((0 : Int) + 1) = 1 := rfl
  have d3 : decide (0 ≤ (0 : Int)) = true := rfl
  have d4 : decide (1 ≤ 1 ∧ (0 : Nat) < 1) = true := rfl
  have t0 : (0 : Int).toNat = 0 := rfl
  have es : stR ld13 0 0 [D.i .i64 (n7 + (l9.length : Int) + 1)] = ld12 n7 l9 := rfl
  have w0 : ∀ x, okR zr84 zo84 (some ([.one (.b x)], [])) = true := fun _ => rfl
  have eb : ∀ x, asB (resC (some ([.one (.b x)], [])) 0 0) = x := fun _ => rfl
  have w1 : ∀ G a b c, okR zr85 zo85 (some ([], [[.i .i64 0, .i .i64 1, .i .i64 n3, .i .i64 n4, .i .i64 3, .i .i64 0, .i .i64 n7, .i .i64 n8, .l G, .i .i64 n10, .l a, .l b, .l c]])) = true := fun _ _ _ _ => rfl
  have w2 : ∀ G K a b c, okR zr86 zo86 (some ([], [[.i .i64 0, .i .i64 1, .i .i64 n3, .i .i64 n4, .i .i64 3, .i .i64 0, .i .i64 n7, .i .i64 n8, .l G, .i .i64 K, .l a, .l b, .l c]])) = true := fun _ _ _ _ _ => rfl
  have w3 : ∀ x, okR zr66 zo66 (some ([.one (.l x)], [])) = true := fun _ => rfl
  have ea : ∀ x, asL (resC (some ([.one (.l x)], [])) 0 0) = x := fun _ => rfl
  unfold t87
  rw [hm]
  simp only [e0, er, el, l87o0, el1, d0, d1, d2, d3, d4, t0, es, last_impl, hwl, hwl1, ew1, ei, room_eq 0 1 n3 n4 3 0 n7 n8 l9 n10 [] (ld12 n7 l9) ld13 (by omega), w0, eb, ← hb, Bool.and_self, if_true, Bool.false_eq_true, if_false, chk_true]
  cases b
  · obtain ⟨k1, k2, k3⟩ := hG l9 F g1 (Nat.le_refl _) (Nat.le_succ _)
    simp only [Bool.false_eq_true, if_false]
    rw [k1]
    simp only [w1, chk_true, outC, nthO, nthD, asI, asL]
    rw [k2]
    simp only [w2, chk_true, outC, nthO, nthD, asI, asL, k3, w3]
    rfl
  · obtain ⟨k1, k2, k3⟩ := hG (putL true l9 n3 ⟨#[]⟩) F g1 g3 g4
    have hp : l9 ++ [[.i .i64 n3, .s ⟨#[]⟩]] = putL true l9 n3 ⟨#[]⟩ := rfl
    have ef : flatR 2 [[D.i .i64 n3, .s ⟨#[]⟩]] = true := rfl
    have el : decide (l9.length + [[D.i .i64 n3, .s ⟨#[]⟩]].length ≤ lim) = true := decide_eq_true (by simp only [List.length_singleton]; unfold lim; omega)
    simp only [if_true, ef, el, hp, Bool.and_self, chk_true]
    rw [k1]
    simp only [w1, chk_true, outC, nthO, nthD, asI, asL]
    rw [k2]
    simp only [w2, chk_true, outC, nthO, nthD, asI, asL, k3, w3]
    rfl
theorem lead_spec (n3 n4 n5 n6 n7 n8 : Int) (l9 : List (List D)) (n10 : Int) (l11 l12 l13 : List (List D)) (t9 : ∀ r ∈ l9, typL shEntry r) (z9 : ∀ r ∈ l9, szdL shEntry r) (h9 : l9.length ≤ 60) (h7 : 0 ≤ n7 ∧ n7 + (l9.length : Int) ≤ 100000) (h10 : n7 ≤ n10 ∧ n10 ≤ n7 + (l9.length : Int)) (h3 : 0 ≤ n3 ∧ n3 ≤ 100000) (b : Bool) (hb : b = (decide ((l9.length : Int) < 60) && decide (n7 + (l9.length : Int) < 100000))) :
    t71 0 1 n3 n4 n5 n6 n7 n8 l9 n10 l11 l12 l13 = some ([.agg [.i .i64 0, .i .i64 1, .i .i64 n3, .i .i64 n4, .i .i64 3, .i .i64 0, .i .i64 n7, .i .i64 n8, .l (putL b l9 n3 ⟨#[]⟩), .i .i64 (com 1 n3 n7 n8 (putL b l9 n3 ⟨#[]⟩) n10 (stR ld13 0 0 [.i .i64 (n7 + ((putL b l9 n3 ⟨#[]⟩).length : Int))]) (n7 + ((putL b l9 n3 ⟨#[]⟩).length : Int) - n10).toNat), .l [], .l (stR (ld12 n7 l9) 0 0 [.i .i64 (n7 + ((putL b l9 n3 ⟨#[]⟩).length : Int) + 1)]), .l (stR ld13 0 0 [.i .i64 (n7 + ((putL b l9 n3 ⟨#[]⟩).length : Int))])], .one (.l [])], []) := by
  have L := led1 (n3 := n3) t9 z9 h9 h7 h10 h3
  have hnx : ∀ p, p < (ld12 n7 l9).length → xI (ld12 n7 l9) p ≤ n7 + (l9.length : Int) + 1 := fun p hp => by
    have : p = 0 := by simp [ld12] at hp; exact hp
    subst this
    exact Int.le_refl _
  have F := led_fit L b hnx
  have kP := put_spec 0 1 n3 n4 3 0 n7 n8 l9 n10 [] (ld12 n7 l9) ld13 ⟨#[]⟩ 0 L b hb
  obtain ⟨g1, g2, g3, g4⟩ := putL_ok L b
  generalize putL b l9 n3 ⟨#[]⟩ = G at F kP g1 g2 g3 g4
  obtain ⟨u1, u2, u3⟩ := stR_int L.t12 0 (n7 + (G.length : Int) + 1) (by omega)
  generalize com 1 n3 n7 n8 G n10 (stR ld13 0 0 [.i .i64 (n7 + (G.length : Int))]) (n7 + (G.length : Int) - n10).toNat = K at kP
  have kA : t65 0 1 n3 n4 3 0 n7 n8 G K [] (stR (ld12 n7 l9) 0 0 [.i .i64 (n7 + (G.length : Int) + 1)]) (stR ld13 0 0 [.i .i64 (n7 + (G.length : Int))]) = some ([.one (.l [])], []) := all_spec 0 1 n3 n4 3 0 n7 n8 G K [] _ _ F 1 rfl (by rw [u1]; rfl)
  have ew1 : ∀ x, okR zr42 zo42 (some ([.one (.i .i64 x)], [])) = true := fun _ => rfl
  have ei : ∀ x, asI (resC (some ([.one (.i .i64 x)], [])) 0 0) = x := fun _ => rfl
  have hwl : w64 (n7 + (l9.length : Int)) = n7 + (l9.length : Int) := w64_in _ (by omega)
  have hwl1 : w64 (n7 + (l9.length : Int) + 1) = n7 + (l9.length : Int) + 1 := w64_in _ (by omega)
  obtain ⟨m, hm⟩ : ∃ m, KK = m + 2 := ⟨KK - 2, by rw [KK_eq]⟩
  have d0 : decide ((0 : Int) < 1) = true := rfl
  have d1 : decide ((1 : Int) < 1) = false := rfl
  have d2 : w64 ((0 : Int) + 1) = 1 := rfl
  have f1 : flatR 1 [[D.i .i64 (n7 + (l9.length : Int) + 1)]] = true := rfl
  have f2 : flatR 1 [[D.i .i64 0]] = true := rfl
  have f3 : decide (([] : List (List D)).length + [[D.i .i64 (n7 + (l9.length : Int) + 1)]].length ≤ lim) = true := rfl
  have f4 : decide (([] : List (List D)).length + [[D.i .i64 0]].length ≤ lim) = true := rfl
  have f5 : ([[D.i .i64 (n7 + (l9.length : Int) + 1)]] : List (List D)) = ld12 n7 l9 := rfl
  have f6 : ([[D.i .i64 0]] : List (List D)) = ld13 := rfl
  have v1 : ∀ a b c, okR zr69 zo69 (some ([.agg [.i .i64 0, .i .i64 1, .i .i64 n3, .i .i64 n4, .i .i64 3, .i .i64 0, .i .i64 n7, .i .i64 n8, .l G, .i .i64 K, .l a, .l b, .l c]], [])) = true := fun _ _ _ => rfl
  have v2 : ∀ x, okR zr65 zo65 (some ([.one (.l x)], [])) = true := fun _ => rfl
  unfold t71
  rw [hm]
  simp only [l71o0, d0, d1, d2, last_spec, hwl, hwl1, ew1, ei, f1, f2, f3, f4, Bool.and_self, if_true, Bool.false_eq_true, if_false, chk_true, List.nil_append]
  rw [f5, f6, kP]
  simp only [v1, chk_true, resC, nthR, cellsDV, nthD, asI, asL]
  rw [kA]
  simp only [v2, chk_true]
  rfl
theorem both_Elect (x1 x2 x3 x4 x5 x6 x7 x8 : Int) (x9 : List (List D)) (x10 : Int) (x11 x12 x13 : List (List D)) (hl : x9.length ≤ 1048576) (h : ∀ r ∈ x9, typL shEntry r) (hs : ∀ r ∈ x9, szdL shEntry r) (hl1 : x11.length ≤ 1048576) (h1 : ∀ r ∈ x11, typL shInt r) (_ : ∀ r ∈ x11, szdL shInt r) (hl2 : x12.length ≤ 1048576) (h2 : ∀ r ∈ x12, typL shInt r) (_ : ∀ r ∈ x12, szdL shInt r) (hl3 : x13.length ≤ 1048576) (h3 : ∀ r ∈ x13, typL shInt r) (_ : ∀ r ∈ x13, szdL shInt r) :
    ∃ (r1 r2 r3 r4 r5 r6 r7 r8 : Int) (r9 : List (List D)) (r10 : Int) (r11 r12 r13 r14 : List (List D)), t35 x1 x2 x3 x4 x5 x6 x7 x8 x9 x10 x11 x12 x13 = some ([.agg [.i .i64 r1, .i .i64 r2, .i .i64 r3, .i .i64 r4, .i .i64 r5, .i .i64 r6, .i .i64 r7, .i .i64 r8, .l r9, .i .i64 r10, .l r11, .l r12, .l r13], .one (.l r14)], []) ∧
      t36 x1 x2 x3 x4 x5 x6 x7 x8 x9 x10 x11 x12 x13 = some ([.agg [.i .i64 r1, .i .i64 r2, .i .i64 r3, .i .i64 r4, .i .i64 r5, .i .i64 r6, .i .i64 r7, .i .i64 r8, .l r9, .i .i64 r10, .l r11, .l r12, .l r13], .one (.l r14)], []) ∧
      r9.length ≤ 1048576 ∧ (∀ r ∈ r9, typL shEntry r) ∧ r11.length ≤ 1048576 ∧ (∀ r ∈ r11, typL shInt r) ∧ r12.length ≤ 1048576 ∧ (∀ r ∈ r12, typL shInt r) ∧ r13.length ≤ 1048576 ∧ (∀ r ∈ r13, typL shInt r) ∧ r14.length ≤ 1048576 ∧ (∀ r ∈ r14, typL shMsg r) ∧ (∀ r ∈ r14, szdL shMsg r) ∧ True := by
  have n0 : ([] : List (List D)).length ≤ 1048576 := Nat.zero_le _
  have nn : ∀ {sh : List Sh}, ∀ r ∈ ([] : List (List D)), typL sh r := fun r h => by cases h
  have ew2 : ∀ x, okR zr11 zo11 (some ([.one (.b x)], [])) = true := fun _ => rfl
  have ew3 : ∀ x, okR zr13 zo13 (some ([.one (.b x)], [])) = true := fun _ => rfl
  have ew7 : ∀ x, okR zr77 zo77 (some ([.one (.b x)], [])) = true := fun _ => rfl
  have eb : ∀ x, asB (resC (some ([.one (.b x)], [])) 0 0) = x := fun _ => rfl
  have w1 : okR zr61 zo61 (some ([.agg [.i .i64 x1, .i .i64 x2, .i .i64 x3, .i .i64 x4, .i .i64 x5, .i .i64 x6, .i .i64 x7, .i .i64 x8, .l x9, .i .i64 x10, .l x11, .l x12, .l x13]], [])) = true := rfl
  have w2 : okR zr63 zo63 (some ([.agg [.i .i64 x1, .i .i64 x2, .i .i64 x3, .i .i64 x4, .i .i64 x5, .i .i64 x6, .i .i64 x7, .i .i64 x8, .l x9, .i .i64 x10, .l x11, .l x12, .l x13]], [])) = true := rfl
  unfold t35 t36
  rw [core_spec _ _ _ _ _ _ _ _ x9 _ x11 x12 x13 hl h hl1 h1 hl2 h2 hl3 h3, core_impl _ _ _ _ _ _ _ _ x9 _ x11 x12 x13 hl h hl1 h1 hl2 h2 hl3 h3, copy_spec x1 x2 x3 x4 x5 x6 x7 x8 x9 x10 x11 x12 x13 hl h hl1 h1 hl2 h2 hl3 h3, copy_impl x1 x2 x3 x4 x5 x6 x7 x8 x9 x10 x11 x12 x13 hl h hl1 h1 hl2 h2 hl3 h3]
  simp only [w1, w2, ew2, ew3, chk_true, resC, nthR, cellsDV, nthD, asI, asL, asB]
  cases hB : coreB x1 x2 x3 x4 x5 x6 x7 x8 x9 x10 x11 x12 x13
  · exact ⟨0, 0, 0, 0, 0, 0, 0, 0, [], 0, [], [], [], [], rfl, rfl, n0, nn, n0, nn, n0, nn, n0, nn, n0, nn, (fun r h => by cases h), trivial⟩
  · obtain ⟨a1, a2, a3, a4, a5, a6, a7, a8, a9, a10, a11, a12, a13, a14⟩ := coreB_more hB
    have hh3 : w64 (x3 + 1) = x3 + 1 := w64_in _ (by omega)
    by_cases g : x5 = 3 ∨ x3 = 100000
    · have qs : (x5 == 3 || decide (x3 ≥ 100000)) = true := by simp; omega
      have qi : (x5 == 3 || x3 == 100000) = true := by simp; omega
      have kI : t72 x1 x2 x3 x4 x5 x6 x7 x8 x9 x10 x11 x12 x13 = some ([.one (.l [])], [[.i .i64 x1, .i .i64 x2, .i .i64 x3, .i .i64 x4, .i .i64 x5, .i .i64 x6, .i .i64 x7, .i .i64 x8, .l x9, .i .i64 x10, .l x11, .l x12, .l x13]]) := by
        unfold t72
        simp only [qi, if_true]
      have v2 : okR zr72 zo72 (some ([.one (.l [])], [[.i .i64 x1, .i .i64 x2, .i .i64 x3, .i .i64 x4, .i .i64 x5, .i .i64 x6, .i .i64 x7, .i .i64 x8, .l x9, .i .i64 x10, .l x11, .l x12, .l x13]])) = true := rfl
      refine ⟨x1, x2, x3, x4, x5, x6, x7, x8, x9, x10, x11, x12, x13, [], ?_, ?_, hl, h, hl1, h1, hl2, h2, hl3, h3, n0, nn, (fun r h => by cases h), trivial⟩
      · simp only [Bool.not_true, Bool.false_eq_true, if_false, qs, if_true]
      · simp only [Bool.not_true, Bool.false_eq_true, if_false]
        rw [kI]
        simp only [v2, chk_true]
        rfl
    · have qs : (x5 == 3 || decide (x3 ≥ 100000)) = false := by simp; omega
      have qi : (x5 == 3 || x3 == 100000) = false := by simp; omega
      have e2 : w64 ((2 : Int) * (([[D.i .i64 x1]] : List (List D)).length : Int)) = 2 := rfl
      have e2' : w64 ((2 : Int) * 1) = 2 := rfl
      by_cases gp : x2 = 1
      · have gi : x1 = 0 := by omega
        subst gp gi
        have qm : decide ((2 : Int) > 1) = true := rfl
        have kL := lead_spec (x3 + 1) 0 2 (-1) x7 x8 x9 x10 [[.i .i64 0]] x12 x13 h hs (by omega) (by omega) (by omega) (by omega) _ rfl
        have kLI := leads_impl (x3 + 1) 0 2 (-1) x7 x8 x9 x10 [[.i .i64 0]] x12 x13 h hs (by omega) (by omega) (by omega) (by omega) _ rfl
        generalize (decide ((x9.length : Int) < 60) && decide (x7 + (x9.length : Int) < 100000)) = b at kL kLI
        have L := led1 (n3 := x3 + 1) h hs (by omega) (by omega) (show x7 ≤ x10 ∧ x10 ≤ x7 + (x9.length : Int) by omega) (by omega)
        obtain ⟨c1, c2, c3, c4⟩ := putL_ok L b
        generalize putL b x9 (x3 + 1) ⟨#[]⟩ = G at kL kLI c1 c2 c3 c4
        obtain ⟨s1, s2, s3⟩ := stR_int L.t13 0 (x7 + (G.length : Int)) (by omega)
        obtain ⟨u1, u2, u3⟩ := stR_int L.t12 0 (x7 + (G.length : Int) + 1) (by omega)
        generalize com 1 (x3 + 1) x7 x8 G x10 (stR ld13 0 0 [.i .i64 (x7 + (G.length : Int))]) (x7 + (G.length : Int) - x10).toNat = K at kL kLI
        have v1 : ∀ a b c, okR zr71 zo71 (some ([.agg [.i .i64 0, .i .i64 1, .i .i64 (x3 + 1), .i .i64 0, .i .i64 3, .i .i64 0, .i .i64 x7, .i .i64 x8, .l G, .i .i64 K, .l a, .l b, .l c], .one (.l [])], [])) = true := fun _ _ _ => rfl
        have v3 : ∀ a b c, okR zr87 zo87 (some ([.one (.l [])], [[.i .i64 0, .i .i64 1, .i .i64 (x3 + 1), .i .i64 0, .i .i64 3, .i .i64 0, .i .i64 x7, .i .i64 x8, .l G, .i .i64 K, .l a, .l b, .l c]])) = true := fun _ _ _ => rfl
        have v4 : ∀ a b c, okR zr72 zo72 (some ([.one (.l [])], [[.i .i64 0, .i .i64 1, .i .i64 (x3 + 1), .i .i64 0, .i .i64 3, .i .i64 0, .i .i64 x7, .i .i64 x8, .l G, .i .i64 K, .l a, .l b, .l c]])) = true := fun _ _ _ => rfl
        have kI : t72 0 1 x3 x4 x5 x6 x7 x8 x9 x10 x11 x12 x13 = some ([.one (.l [])], [[.i .i64 0, .i .i64 1, .i .i64 (x3 + 1), .i .i64 0, .i .i64 3, .i .i64 0, .i .i64 x7, .i .i64 x8, .l G, .i .i64 K, .l [], .l (stR (ld12 x7 x9) 0 0 [.i .i64 (x7 + (G.length : Int) + 1)]), .l (stR ld13 0 0 [.i .i64 (x7 + (G.length : Int))])]]) := by
          unfold t72
          simp only [qi, Bool.false_eq_true, if_false, hh3, most_eq, e2', qm, ew7, eb, chk_true, if_true]
          rw [kLI]
          simp only [v3, chk_true]
          rfl
        refine ⟨0, 1, x3 + 1, 0, 3, 0, x7, x8, G, K, [], stR (ld12 x7 x9) 0 0 [.i .i64 (x7 + (G.length : Int) + 1)], stR ld13 0 0 [.i .i64 (x7 + (G.length : Int))], [], ?_, ?_, by omega, c1, n0, nn, by rw [u1]; simp [ld12], u2, by rw [s1]; simp [ld13], s2, n0, nn, (fun r h => by cases h), trivial⟩
        · simp only [Bool.not_true, Bool.false_eq_true, if_false, qs, e2, qm, if_true, hh3]
          rw [kL]
          simp only [v1, chk_true]
          rfl
        · simp only [Bool.not_true, Bool.false_eq_true, if_false]
          rw [kI]
          simp only [v4, chk_true]
          rfl
      · have qm : decide ((2 : Int) > x2) = false := decide_eq_false (by omega)
        have ht := trm_lo (n7 := x7) (n8 := x8) h (place_lo a8 (by omega)) (i := x7 + (x9.length : Int)) ⟨by omega, Int.le_refl _⟩
        have hx1 : -9223372036854775808 ≤ x1 ∧ x1 ≤ 9223372036854775807 := by omega
        obtain ⟨m1, m2, m3⟩ := ask_typ (n1 := x1) (n3 := x3 + 1) (last := x7 + (x9.length : Int)) (by omega) (by omega) (by omega) ht x2.toNat (by omega)
        have t1 : ∀ r ∈ ([[D.i .i64 x1]] : List (List D)), typL shInt r := fun r hr => by
          rw [List.mem_singleton] at hr; subst hr; exact ⟨_, _, rfl, int_typ hx1, rfl⟩
        have hN : x2 = ((x2.toNat : Nat) : Int) := by omega
        have ewo : ∀ x, okR zr81 zo81 (some ([.one (.l x)], [])) = true := fun _ => rfl
        have el : ∀ x, asL (resC (some ([.one (.l x)], [])) 0 0) = x := fun _ => rfl
        have hg := gat_len (fun p => [D.i .i64 (p : Int)]) x1 x2.toNat 0
        have kI : t72 x1 x2 x3 x4 x5 x6 x7 x8 x9 x10 x11 x12 x13 = some ([.one (.l (gat (askD x1 (x3 + 1) (x7 + (x9.length : Int)) (trm x7 x8 x9 (x7 + (x9.length : Int)))) x1 x2.toNat 0))], [[.i .i64 x1, .i .i64 x2, .i .i64 (x3 + 1), .i .i64 x1, .i .i64 2, .i .i64 (-1), .i .i64 x7, .i .i64 x8, .l x9, .i .i64 x10, .l [[.i .i64 x1]], .l x12, .l x13]]) := by
          unfold t72
          simp only [qi, Bool.false_eq_true, if_false, hh3, most_eq, e2', qm, ew7, eb, chk_true, others_eq x1 x2 (x3 + 1) x1 2 (-1) x7 x8 x9 x10 [[D.i .i64 x1]] x12 x13 x2.toNat hN (by omega), ewo, el]
          have := ask_loopI (b35 := false) (b36 := false) (n41 := x2) (n43 := x1) (n44 := 2) (n45 := -1) (n48 := x10) (l50 := x11) (l51 := x12) (l52 := x13) (l53 := [[D.i .i64 x1]]) x1 (x3 + 1) x7 x8 x9 (gat (fun p => [D.i .i64 (p : Int)]) x1 x2.toNat 0) (fun v82 n83 b84 l85 => some ([.one (.l l85)], [[.i .i64 x1, .i .i64 x2, .i .i64 (x3 + 1), .i .i64 x1, .i .i64 2, .i .i64 (-1), .i .i64 x7, .i .i64 x8, .l x9, .i .i64 x10, .l [[.i .i64 x1]], .l x12, .l x13]])) (fun l => some ([.one (.l l)], [[.i .i64 x1, .i .i64 x2, .i .i64 (x3 + 1), .i .i64 x1, .i .i64 2, .i .i64 (-1), .i .i64 x7, .i .i64 x8, .l x9, .i .i64 x10, .l [[.i .i64 x1]], .l x12, .l x13]])) (fun _ _ _ _ => rfl) h (by omega) (by omega) x2.toNat (by omega) (gat (fun p => [D.i .i64 (p : Int)]) x1 x2.toNat 0) [] KK .undef .undef [] rfl (fun r hr => by
            obtain ⟨p, _, hp2, rfl⟩ := gat_mem _ _ _ _ _ hr
            exact ⟨p, by omega, rfl⟩) (by rw [KK_eq]; omega) (Nat.le_refl _)
          rw [gat_map _ (askD x1 (x3 + 1) (x7 + (x9.length : Int)) (trm x7 x8 x9 (x7 + (x9.length : Int)))) _ (fun p => by simp [nthD, asI])] at this
          exact this
        have v4 : ∀ y, okR zr72 zo72 (some ([.one (.l y)], [[.i .i64 x1, .i .i64 x2, .i .i64 (x3 + 1), .i .i64 x1, .i .i64 2, .i .i64 (-1), .i .i64 x7, .i .i64 x8, .l x9, .i .i64 x10, .l [[.i .i64 x1]], .l x12, .l x13]])) = true := fun _ => rfl
        refine ⟨x1, x2, x3 + 1, x1, 2, -1, x7, x8, x9, x10, [[.i .i64 x1]], x12, x13, gat (askD x1 (x3 + 1) (x7 + (x9.length : Int)) (trm x7 x8 x9 (x7 + (x9.length : Int)))) x1 x2.toNat 0, ?_, ?_, hl, h, by simp, t1, hl2, h2, hl3, h3, m1, m2, m3, trivial⟩
        · simp only [Bool.not_true, Bool.false_eq_true, if_false, qs, e2, qm, hh3]
          exact ask_loopS x1 x2 (x3 + 1) x7 x8 x9 _ (fun l => some ([.agg [.i .i64 x1, .i .i64 x2, .i .i64 (x3 + 1), .i .i64 x1, .i .i64 (2 : Int), .i .i64 (-1 : Int), .i .i64 x7, .i .i64 x8, .l x9, .i .i64 x10, .l [[.i .i64 x1]], .l x12, .l x13], .one (.l l)], [])) (fun _ _ _ _ => rfl) h (by omega) (by omega) x2.toNat hN (by omega) x2.toNat 0 KK .undef .undef [] (by omega) (by rw [KK_eq]; omega) (Nat.le_refl _)
        · simp only [Bool.not_true, Bool.false_eq_true, if_false]
          rw [kI]
          simp only [v4, chk_true]
          rfl
end Go.Den.L9

/- The law FnExactElect. Printed by lawgen.py. -/
namespace Go.Den.L9
open Go
theorem law9 (x1 : Int) (x2 : Int) (x3 : Int) (x4 : Int) (x5 : Int) (x6 : Int) (x7 : Int) (x8 : Int) (x9 : List (List D)) (wx9 : x9.length ≤ maxLen) (tx9 : ∀ r ∈ x9, typL shEntry r) (x10 : Int) (x11 : List (List D)) (wx11 : x11.length ≤ maxLen) (tx11 : ∀ r ∈ x11, typL shInt r) (x12 : List (List D)) (wx12 : x12.length ≤ maxLen) (tx12 : ∀ r ∈ x12, typL shInt r) (x13 : List (List D)) (wx13 : x13.length ≤ maxLen) (tx13 : ∀ r ∈ x13, typL shInt r) : t9 x1 x2 x3 x4 x5 x6 x7 x8 x9 x10 x11 x12 x13 = some ([.one (.b true)], []) := by
  obtain ⟨y1, e1, a1, z1⟩ := szCore_ok x1 x2 x3 x4 x5 x6 x7 x8 x9 x10 x11 x12 x13 wx9 tx9 wx11 tx11 wx12 tx12 wx13 tx13 1048576 (by omega) (by omega)
  by_cases n1 : y1 < 0
  · simp only [t9, e1, n1, zr10, zo10, zr12, zo12, zr14, zo14, zr18, zo18, zr25, zo25, zr30, zo30, zr31, zo31, zr32, zo32, zr35, zo35, zr36, zo36, okR, isVs, isV, isD, isDs, isOs, resC, outC, nthR, nthO, cellsDV, nthD, asB, asI, asS, asL, Bool.and_true, Bool.true_and, Bool.true_or, BEq.rfl, chk_true, bne_self_eq_false, Bool.not_true, Bool.not_false, Bool.or_self, Bool.or_false, Bool.false_or, decide_true, decide_false, Bool.false_eq_true, if_false, if_true]
  have u1 := z1 (by omega)
  have sx9 := u1.2.2.2.2.2.2.2.2.1
  have sx11 := u1.2.2.2.2.2.2.2.2.2.2.1
  have sx12 := u1.2.2.2.2.2.2.2.2.2.2.2.1
  have sx13 := u1.2.2.2.2.2.2.2.2.2.2.2.2.1
  have qx9 : x9.length ≤ 1048576 := sx9.1
  have qx11 : x11.length ≤ 1048576 := sx11.1
  have qx12 : x12.length ≤ 1048576 := sx12.1
  have qx13 : x13.length ≤ 1048576 := sx13.1
  obtain ⟨r1, r2, r3, r4, r5, r6, r7, r8, r9, r10, r11, r12, r13, r14, k1, k2, qr9, tr9, qr11, tr11, qr12, tr12, qr13, tr13, qr14, tr14, szr14, _⟩ := both_Elect x1 x2 x3 x4 x5 x6 x7 x8 x9 x10 x11 x12 x13 sx9.1 tx9 sx9.2 sx11.1 tx11 sx11.2 sx12.1 tx12 sx12.2 sx13.1 tx13 sx13.2
  have mx9 : ∀ r ∈ x9, r.length = 2 := fun r hr => typL_len _ r (tx9 r hr)
  have mx11 : ∀ r ∈ x11, r.length = 1 := fun r hr => typL_len _ r (tx11 r hr)
  have mx12 : ∀ r ∈ x12, r.length = 1 := fun r hr => typL_len _ r (tx12 r hr)
  have mx13 : ∀ r ∈ x13, r.length = 1 := fun r hr => typL_len _ r (tx13 r hr)
  have mr9 : ∀ r ∈ r9, r.length = 2 := fun r hr => typL_len _ r (tr9 r hr)
  have mr11 : ∀ r ∈ r11, r.length = 1 := fun r hr => typL_len _ r (tr11 r hr)
  have mr12 : ∀ r ∈ r12, r.length = 1 := fun r hr => typL_len _ r (tr12 r hr)
  have mr13 : ∀ r ∈ r13, r.length = 1 := fun r hr => typL_len _ r (tr13 r hr)
  have br14 := cntMsgS_le r14 tr14 szr14
  have nr14 := cntMsgS_nn r14
  have f1 := markCore_eq x1 x2 x3 x4 x5 x6 x7 x8 x9 x10 x11 x12 x13 mx9 qx9 mx11 qx11 mx12 qx12 mx13 qx13 (1) (by omega) (by omega)
  have f2 : decide (1 + 2 * (x9.length : Int) + 1 * (x11.length : Int) + 1 * (x12.length : Int) + 1 * (x13.length : Int) < 0) = false := decide_eq_false (by omega)
  have f3 := markCore_eq r1 r2 r3 r4 r5 r6 r7 r8 r9 r10 r11 r12 r13 mr9 qr9 mr11 qr11 mr12 qr12 mr13 qr13 (1) (by omega) (by omega)
  have f4 : decide (1 + 2 * (r9.length : Int) + 1 * (r11.length : Int) + 1 * (r12.length : Int) + 1 * (r13.length : Int) < 0) = false := decide_eq_false (by omega)
  have f5 := markMsgS_eq r14 tr14 szr14 (by omega) (1 + 2 * (r9.length : Int) + 1 * (r11.length : Int) + 1 * (r12.length : Int) + 1 * (r13.length : Int)) (by omega) (by omega)
  have f6 : decide (1 + 2 * (r9.length : Int) + 1 * (r11.length : Int) + 1 * (r12.length : Int) + 1 * (r13.length : Int) + cntMsgS r14 < 0) = false := decide_eq_false (by omega)
  have f7 := heldCore_eq r1 r2 r3 r4 r5 r6 r7 r8 r9 r10 r11 r12 r13 mr9 qr9 mr11 qr11 mr12 qr12 mr13 qr13 (1) (by omega) (by omega)
  have f8 : decide (1 + 2 * (r9.length : Int) + 1 * (r11.length : Int) + 1 * (r12.length : Int) + 1 * (r13.length : Int) < 0) = false := decide_eq_false (by omega)
  have f9 := heldMsgS_eq r14 tr14 szr14 (by omega) (1 + 2 * (r9.length : Int) + 1 * (r11.length : Int) + 1 * (r12.length : Int) + 1 * (r13.length : Int)) (by omega) (by omega)
  have f10 : decide (1 + 2 * (r9.length : Int) + 1 * (r11.length : Int) + 1 * (r12.length : Int) + 1 * (r13.length : Int) + cntMsgS r14 < 0) = false := decide_eq_false (by omega)
  simp only [t9, e1, n1, toCore_eq x1 x2 x3 x4 x5 x6 x7 x8 x9 x10 x11 x12 x13 sx9.1 tx9 sx9.2 sx11.1 tx11 sx11.2 sx12.1 tx12 sx12.2 sx13.1 tx13 sx13.2, k1, k2, eqCore_self r1 r2 r3 r4 r5 r6 r7 r8 r9 r10 r11 r12 r13 qr9 tr9 qr11 tr11 qr12 tr12 qr13 tr13, eqMsgS_self r14 qr14 tr14 szr14, eqCore_self x1 x2 x3 x4 x5 x6 x7 x8 x9 x10 x11 x12 x13 qx9 tx9 qx11 tx11 qx12 tx12 qx13 tx13, f1, f2, f3, f4, f5, f6, f7, f8, f9, f10, zr10, zo10, zr12, zo12, zr14, zo14, zr18, zo18, zr25, zo25, zr30, zo30, zr31, zo31, zr32, zo32, zr35, zo35, zr36, zo36, okR, isVs, isV, isD, isDs, isOs, resC, outC, nthR, nthO, cellsDV, nthD, asB, asI, asS, asL, Bool.and_true, Bool.true_and, Bool.true_or, BEq.rfl, chk_true, bne_self_eq_false, Bool.not_true, Bool.not_false, Bool.or_self, Bool.or_false, Bool.false_or, decide_true, decide_false, Bool.false_eq_true, if_false, if_true]
end Go.Den.L9
