/- Plain laws about what the functions compute; no condition. -/
import Derived.Test.YthnpflcemooaeaaL9Tw
import Derived.IntWalk
import Derived.KernelRfl
set_option linter.unusedVariables false
set_option linter.unusedSimpArgs false
/- How twins are taken apart. -/
namespace Go.Den.L9
open Go Go.IntWalk
theorem chk_true (x : Rs) : chk true x = x := rfl
theorem chk_ok {b : Bool} (h : b = true) (x : Rs) : chk b x = x := by rw [h]; rfl
attribute [simp] chk_true okR isVs isV isD isDs isOs resC outC nthR nthO cellsDV nthD asB asI asS asL
theorem ite_not {α : Type} (a b : Bool) (h : a = !b) (x y : α) : (if a = true then x else y) = (if b = true then y else x) := by
  subst h; cases b <;> rfl
theorem nil_toList : (⟨#[]⟩ : ByteArray).toList = [] := by rw [ByteArray.toList_eq]
theorem toList_nil (s : ByteArray) : s.toList = [] ↔ (s.size : Int) = 0 := by
  have e : s.size = s.data.toList.length := by rw [Array.length_toList]; rfl
  rw [ByteArray.toList_eq, e]
  cases s.data.toList <;> simp <;> omega
theorem KK_eq : KK = 18446744073709551616 := Classical.choose_spec (⟨2 ^ 64, rfl⟩ : ∃ n : Nat, n = 2 ^ 64)
theorem w64_in (n : Int) (h : -9223372036854775808 ≤ n ∧ n ≤ 9223372036854775807) : w64 n = n := i64_in n h
theorem getD_in {l : List (List D)} {i : Nat} (hi : i < l.length) : l.getD i [] = l[i] := by simp [List.getD, hi]
theorem getD_row {l : List (List D)} {es : List Sh} (h : ∀ r ∈ l, typL es r) {i : Nat} (hi : i < l.length) : typL es (l.getD i []) := by
  rw [getD_in hi]; exact h _ (List.getElem_mem hi)
theorem w64_succ (i : Nat) (h : i < 4611686018427387904) : w64 ((i : Int) + 1) = ((i + 1 : Nat) : Int) := by
  rw [w64_in _ (by omega)]; rfl
theorem within_eq (a b c : Int) : t63 a b c = some ([.one (.b (decide (b ≤ a) && decide (a ≤ c)))], []) := rfl
theorem in_eq (a b c : Int) : t57 a b c = some ([.one (.b (decide (b ≤ a) && decide (a ≤ c)))], []) := rfl
end Go.Den.L9

/- Sizes; copies of rows. -/
namespace Go.Den.L9
open Go
mutual
/-- What was found small enough. -/
def szdD : Sh → D → Prop
  | .b, _ => True
  | .i _, _ => True
  | .s, d => (asS d).size ≤ 1048576
  | .l es, d => (asL d).length ≤ 1048576 ∧ ∀ r ∈ asL d, szdL es r
def szdL : List Sh → List D → Prop
  | [], _ => True
  | e :: es, ds => szdD e (nthD ds 0) ∧ szdL es ds.tail
end
theorem mem_getD {l : List (List D)} {i : Nat} (h : i < l.length) : l.getD i [] ∈ l := by rw [getD_in h]; exact List.getElem_mem h
theorem all_getD {l : List (List D)} {P : List D → Prop} (h : ∀ j, j < l.length → P (l.getD j [])) : ∀ r ∈ l, P r := by
  intro r hr
  obtain ⟨j, hj, rfl⟩ := List.mem_iff_getElem.1 hr
  rw [← getD_in hj]; exact h j hj
theorem nat_in {i n : Nat} (h : i < n) : decide ((i : Int) < (n : Int)) = true := by simp; omega
theorem nat_pos (i : Nat) : decide ((0 : Int) ≤ (i : Int)) = true := by simp
theorem modify_mid {α : Type} (f : α → α) : ∀ (a : List α) (x : α) (b : List α), (a ++ x :: b).modify a.length f = a ++ f x :: b
  | [], x, b => by simp
  | y :: a, x, b => by simp [modify_mid f a x b]
theorem stR_at (l : List (List D)) (i k : Nat) (z ys : List D) (hz : z.length ≤ ys.length) (e : i + (k + 1) = l.length) (hy : l.getD i [] = ys) : stR (l.take i ++ List.replicate (k + 1) z) i 0 ys = l.take (i + 1) ++ List.replicate k z := by
  have hi : i < l.length := by omega
  rw [getD_in hi] at hy
  have hl : (l.take i).length = i := by simp; omega
  have key := modify_mid (fun r => r.take 0 ++ ys ++ r.drop (0 + ys.length)) (l.take i) z (List.replicate k z)
  rw [hl] at key
  unfold stR
  rw [List.replicate_succ, key, List.take_succ_eq_append_getElem hi, hy]
  simp [List.drop_eq_nil_of_le hz]
end Go.Den.L9

/- Types Snap Entry EntryS Kept Rec RecS Store Dirent DirentS Inode InodeS Vol IntS Cred Call Result Note NoteS Session SessionS Tenant TenantS Slot SlotS Msg MsgS Core: sizes, copies, likeness (printed by fam.py). -/
namespace Go.Den.L9
open Go
abbrev shDirent : List Sh := [.s, .i .i64]
theorem Dirent_row {r : List D} (h : typL shDirent r) : ∃ x1 x2, r = [.s x1, .i .i64 x2] ∧ x1.size ≤ maxLen := by
  obtain ⟨_, _, rfl, ⟨x1, rfl, wx1⟩, ⟨_, _, rfl, ⟨x2, rfl, _⟩, rfl⟩⟩ := h
  exact ⟨x1, x2, rfl, wx1⟩
theorem szDirent_ok (x1 : ByteArray) (x2 : Int) (wx1 : x1.size ≤ maxLen) (n : Int) (h0 : 0 ≤ n) (h1 : n ≤ 1048576) : ∃ y, t144 x1 x2 n = some ([.one (.i .i64 y)], []) ∧ y ≤ n ∧ (0 ≤ y → szdL shDirent [.s x1, .i .i64 x2]) := by
  simp only [t144]
  have e1 : w64 (n - (x1.size : Int)) = n - (x1.size : Int) := w64_in _ (by simp only [maxLen] at wx1; omega)
  simp only [e1]
  by_cases g1 : (n - (x1.size : Int)) < 0
  · exact ⟨-1, by simp only [g1, decide_true, if_true, chk_true], by omega, by omega⟩
  simp only [g1, decide_false, Bool.false_eq_true, if_false, chk_true]
  exact ⟨_, rfl, by omega, fun _ => ⟨(by omega : x1.size ≤ 1048576), trivial, trivial⟩⟩
theorem toDirent_eq (x1 : ByteArray) (x2 : Int)  : t145 x1 x2 = some ([.agg [.s x1, .i .i64 x2]], []) := rfl
theorem eqDirent_self (x1 : ByteArray) (x2 : Int)  : t143 x1 x2 x1 x2 = some ([.one (.b true)], []) := by
  simp only [t143, bne_self_eq_false, Bool.not_true, Bool.false_eq_true, if_false, okR, isVs, isV, isD, isDs, isOs, resC, outC, nthR, nthO, cellsDV, nthD, asB, asI, asS, asL, Bool.and_true, Bool.true_and, BEq.rfl, chk_true, decide_true]
theorem szDirentS_loop (n0 : Int) (b0 : Bool) (q1 : Int → Int → Bool → Bool → Rs) (q2 : Int → Int → Bool → SV → Rs) (h1 : ∀ a b c d, q1 a b c d = some ([.one (.i .i64 (-1))], [])) (h2 : ∀ a b c d, q2 a b c d = some ([.one (.i .i64 a)], []))
    (l : List (List D)) (h : ∀ r ∈ l, typL shDirent r) (hl : l.length < 4611686018427387904) : ∀ (k i m : Nat) (n : Int) (v w : SV), i + k = l.length → k < m → 0 ≤ n → n ≤ 1048576 → ∃ y, la138o1 t144 l n0 b0 q1 q2 m n i v w = some ([.one (.i .i64 y)], []) ∧ y ≤ n ∧ (0 ≤ y → ∀ j, i ≤ j → j < l.length → szdL shDirent (l.getD j [])) := by
  intro k
  induction k with
  | zero =>
    intro i m n v w e hm g0 g1
    obtain ⟨m, rfl⟩ : ∃ m', m = m' + 1 := ⟨m - 1, by omega⟩
    have ei : decide ((i : Int) < (l.length : Int)) = false := by simp; omega
    refine ⟨n, ?_, by omega, by omega⟩
    simp only [la138o1, ei, h2, Bool.false_eq_true, if_false]
  | succ k ih =>
    intro i m n v w e hm g0 g1
    obtain ⟨m, rfl⟩ : ∃ m', m = m' + 1 := ⟨m - 1, by omega⟩
    have hr := getD_row h (i := i) (by omega)
    obtain ⟨c1, c2, er, wc1⟩ := Dirent_row hr
    obtain ⟨z, hz, hzn, hzo⟩ := szDirent_ok c1 c2 wc1 n g0 g1
    have e1 : decide ((i : Int) < (l.length : Int)) = true := by simp; omega
    have e2 : decide ((0 : Int) ≤ (i : Int)) = true := by simp
    have ez : isRow z160 [.s c1, .i .i64 c2] = true := rfl
    have ew : okR zr144 zo144 (some ([.one (.i .i64 z)], [])) = true := rfl
    simp only [la138o1, e1, e2, Int.toNat_natCast, er, ez, nthD, asI, asS, asB, asL, hz, resC, nthR, cellsDV, ew, Bool.and_true, chk_true, if_true]
    by_cases g : z < 0
    · exact ⟨-1, by simp only [g, decide_true, if_true, h1], by omega, by omega⟩
    · simp only [g, decide_false, Bool.false_eq_true, if_false]
      rw [w64_succ i (by omega)]
      obtain ⟨y, ey, hy1, hy2⟩ := ih (i + 1) m z (.d (.b true)) (.d (.b false)) (by omega) (by omega) (by omega) (by omega)
      refine ⟨y, ey, by omega, fun hy j hj1 hj2 => ?_⟩
      by_cases hj : j = i
      · subst hj; rw [er]; exact hzo (by omega)
      · exact hy2 hy j (by omega) hj2
theorem szDirentS_ok (l : List (List D)) (hl : l.length ≤ maxLen) (h : ∀ r ∈ l, typL shDirent r) (n : Int) (h0 : 0 ≤ n) (h1 : n ≤ 1048576) : ∃ y, t138 l n = some ([.one (.i .i64 y)], []) ∧ y ≤ n ∧ (0 ≤ y → l.length ≤ 1048576 ∧ ∀ r ∈ l, szdL shDirent r) := by
  have e : w64 (n - (l.length : Int)) = n - (l.length : Int) := w64_in _ (by simp only [maxLen] at hl; omega)
  simp only [t138, ta138, e]
  by_cases g : n - (l.length : Int) < 0
  · exact ⟨-1, by simp only [g, decide_true, if_true], by omega, by omega⟩
  · simp only [g, decide_false, Bool.false_eq_true, if_false]
    obtain ⟨y, ey, hy1, hy2⟩ := szDirentS_loop 0 false (fun _ _ _ _ => some ([.one (.i .i64 (-1))], [])) (fun a _ _ _ => some ([.one (.i .i64 a)], [])) (fun _ _ _ _ => rfl) (fun _ _ _ _ => rfl) l h (by omega) l.length 0 KK (n - (l.length : Int)) .undef .undef (by omega) (by rw [KK_eq]; omega) (by omega) (by omega)
    refine ⟨y, ey, by omega, fun hy => ⟨by omega, all_getD (fun j hj => hy2 hy j (by omega) hj)⟩⟩
theorem toDirentS_loop (q : Int → Bool → List (List D) → Rs) (l : List (List D)) (h : ∀ r ∈ l, typL shDirent r) (hs : ∀ r ∈ l, szdL shDirent r) (hl : l.length < 4611686018427387904) : ∀ (k i m : Nat) (v : SV), i + k = l.length → k < m →
    la140o0 t145 l q m i v (l.take i ++ List.replicate k z129) = q l.length false l := by
  intro k
  induction k with
  | zero =>
    intro i m v e hm
    obtain ⟨m, rfl⟩ : ∃ m', m = m' + 1 := ⟨m - 1, by omega⟩
    have ei : decide ((i : Int) < (l.length : Int)) = false := by simp; omega
    have e0 : i = l.length := by omega
    simp only [la140o0, ei, e0]
    simp
  | succ k ih =>
    intro i m v e hm
    obtain ⟨m, rfl⟩ : ∃ m', m = m' + 1 := ⟨m - 1, by omega⟩
    have hr := getD_row h (i := i) (by omega)
    obtain ⟨c1, c2, er, wc1⟩ := Dirent_row hr
    have e1 : decide ((i : Int) < (l.length : Int)) = true := by simp; omega
    have e2 : decide ((0 : Int) ≤ (i : Int)) = true := by simp
    have e3 : decide ((i : Int) < ((l.take i ++ List.replicate (k + 1) z129).length : Int)) = true := by simp; omega
    have e4 : decide (2 ≤ 2 ∧ i < (l.take i ++ List.replicate (k + 1) z129).length) = true := by simp; omega
    have ez : isRow z160 [.s c1, .i .i64 c2] = true := rfl
    have ew : okR zr145 zo145 (some ([.agg [.s c1, .i .i64 c2]], [])) = true := rfl
    simp only [la140o0, e1, e2, Int.toNat_natCast, er, ez, nthD, asI, asS, asB, asL, toDirent_eq c1 c2, resC, nthR, cellsDV, ew, e3, e4, Bool.and_true, chk_true, if_true]
    rw [stR_at l i k _ _ (by simp [z129]) e er, w64_succ i (by omega)]
    exact ih (i + 1) m _ (by omega) (by omega)
theorem toDirentS_eq (l : List (List D)) (hl : l.length ≤ 1048576) (h : ∀ r ∈ l, typL shDirent r) (hs : ∀ r ∈ l, szdL shDirent r) : t140 l = some ([.one (.l l)], []) := by
  unfold t140 ta140
  have e1 : l.length ≤ lim := by unfold lim; omega
  have := toDirentS_loop (fun _ _ l => some ([.one (.l l)], [])) l h hs (by omega) l.length 0 KK .undef (by omega) (by rw [KK_eq]; omega)
  simpa [e1] using this
theorem eqDirentS_loop (b0 b1 : Bool) (q1 : Int → Bool → Bool → Rs) (q2 : Int → Bool → SV → Rs) (h2 : ∀ a b c, q2 a b c = some ([.one (.b true)], [])) (l : List (List D)) (h : ∀ r ∈ l, typL shDirent r) (hl : l.length < 4611686018427387904) : ∀ (k i m : Nat) (v w : SV), i + k = l.length → k < m →
    la137o1 t143 l l b0 b1 q1 q2 m i v w = some ([.one (.b true)], []) := by
  intro k
  induction k with
  | zero =>
    intro i m v w e hm
    obtain ⟨m, rfl⟩ : ∃ m', m = m' + 1 := ⟨m - 1, by omega⟩
    have ei : decide ((i : Int) < (l.length : Int)) = false := by simp; omega
    simp only [la137o1, ei, h2]
    simp
  | succ k ih =>
    intro i m v w e hm
    obtain ⟨m, rfl⟩ : ∃ m', m = m' + 1 := ⟨m - 1, by omega⟩
    have hr := getD_row h (i := i) (by omega)
    obtain ⟨c1, c2, er, wc1⟩ := Dirent_row hr
    have e1 : decide ((i : Int) < (l.length : Int)) = true := by simp; omega
    have e2 : decide ((0 : Int) ≤ (i : Int)) = true := by simp
    have ez : isRow z129 [.s c1, .i .i64 c2] = true := rfl
    have ew : okR zr143 zo143 (some ([.one (.b true)], [])) = true := rfl
    simp only [la137o1, e1, e2, Int.toNat_natCast, er, ez, nthD, asI, asS, asB, asL, eqDirent_self c1 c2, resC, nthR, cellsDV, ew, Bool.and_true, chk_true, if_true, Bool.not_true, Bool.false_eq_true, if_false]
    rw [w64_succ i (by omega)]
    exact ih (i + 1) m _ _ (by omega) (by omega)
theorem eqDirentS_self (l : List (List D)) (hl : l.length ≤ 1048576) (h : ∀ r ∈ l, typL shDirent r) : t137 l l = some ([.one (.b true)], []) := by
  have := eqDirentS_loop false false (fun _ _ _ => some ([.one (.b false)], [])) (fun _ _ _ => some ([.one (.b true)], [])) (fun _ _ _ => rfl) l h (by omega) l.length 0 KK .undef .undef (by omega) (by rw [KK_eq]; omega)
  simpa [t137, ta137] using this
abbrev shInode : List Sh := [.i .i64, .i .i64, .i .i64, .i .i64, .i .i64, .s, .l [.s, .i .i64], .i .i64, .i .i64]
theorem Inode_row {r : List D} (h : typL shInode r) : ∃ x1 x2 x3 x4 x5 x6 x7 x8 x9, r = [.i .i64 x1, .i .i64 x2, .i .i64 x3, .i .i64 x4, .i .i64 x5, .s x6, .l x7, .i .i64 x8, .i .i64 x9] ∧ x6.size ≤ maxLen ∧ x7.length ≤ maxLen ∧ (∀ r ∈ x7, typL shDirent r) := by
  obtain ⟨_, _, rfl, ⟨x1, rfl, _⟩, ⟨_, _, rfl, ⟨x2, rfl, _⟩, ⟨_, _, rfl, ⟨x3, rfl, _⟩, ⟨_, _, rfl, ⟨x4, rfl, _⟩, ⟨_, _, rfl, ⟨x5, rfl, _⟩, ⟨_, _, rfl, ⟨x6, rfl, wx6⟩, ⟨_, _, rfl, ⟨x7, rfl, wx7, tx7⟩, ⟨_, _, rfl, ⟨x8, rfl, _⟩, ⟨_, _, rfl, ⟨x9, rfl, _⟩, rfl⟩⟩⟩⟩⟩⟩⟩⟩⟩ := h
  exact ⟨x1, x2, x3, x4, x5, x6, x7, x8, x9, rfl, wx6, wx7, tx7⟩
theorem szInode_ok (x1 : Int) (x2 : Int) (x3 : Int) (x4 : Int) (x5 : Int) (x6 : ByteArray) (x7 : List (List D)) (x8 : Int) (x9 : Int) (wx6 : x6.size ≤ maxLen) (wx7 : x7.length ≤ maxLen) (tx7 : ∀ r ∈ x7, typL shDirent r) (n : Int) (h0 : 0 ≤ n) (h1 : n ≤ 1048576) : ∃ y, t122 x1 x2 x3 x4 x5 x6 x7 x8 x9 n = some ([.one (.i .i64 y)], []) ∧ y ≤ n ∧ (0 ≤ y → szdL shInode [.i .i64 x1, .i .i64 x2, .i .i64 x3, .i .i64 x4, .i .i64 x5, .s x6, .l x7, .i .i64 x8, .i .i64 x9]) := by
  simp only [t122, ta122]
  have e1 : w64 (n - (x6.size : Int)) = n - (x6.size : Int) := w64_in _ (by simp only [maxLen] at wx6; omega)
  simp only [e1]
  by_cases g1 : (n - (x6.size : Int)) < 0
  · exact ⟨-1, by simp only [g1, decide_true, if_true, chk_true], by omega, by omega⟩
  simp only [g1, decide_false, Bool.false_eq_true, if_false, chk_true]
  obtain ⟨y2, e2, h2a, o2⟩ := szDirentS_ok x7 wx7 tx7 (n - (x6.size : Int)) (by omega) (by omega)
  simp only [e2, zr138, zo138, okR, isVs, isV, isD, isDs, isOs, resC, outC, nthR, nthO, cellsDV, nthD, asB, asI, asS, asL, Bool.and_true, Bool.true_and, BEq.rfl, chk_true, decide_true]
  by_cases g2 : y2 < 0
  · exact ⟨-1, by simp only [g2, decide_true, if_true, chk_true], by omega, by omega⟩
  simp only [g2, decide_false, Bool.false_eq_true, if_false, chk_true]
  exact ⟨_, rfl, by omega, fun _ => ⟨trivial, trivial, trivial, trivial, trivial, (by omega : x6.size ≤ 1048576), (o2 (by omega)), trivial, trivial, trivial⟩⟩
theorem toInode_eq (x1 : Int) (x2 : Int) (x3 : Int) (x4 : Int) (x5 : Int) (x6 : ByteArray) (x7 : List (List D)) (x8 : Int) (x9 : Int) (wx7 : x7.length ≤ 1048576) (tx7 : ∀ r ∈ x7, typL shDirent r) (sx7 : ∀ r ∈ x7, szdL shDirent r) : t128 x1 x2 x3 x4 x5 x6 x7 x8 x9 = some ([.agg [.i .i64 x1, .i .i64 x2, .i .i64 x3, .i .i64 x4, .i .i64 x5, .s x6, .l x7, .i .i64 x8, .i .i64 x9]], []) := by
  simp only [t128, ta128, toDirentS_eq x7 wx7 tx7 sx7, zr140, zo140, okR, isVs, isV, isD, isDs, isOs, resC, outC, nthR, nthO, cellsDV, nthD, asB, asI, asS, asL, Bool.and_true, Bool.true_and, BEq.rfl, chk_true, decide_true]
theorem eqInode_self (x1 : Int) (x2 : Int) (x3 : Int) (x4 : Int) (x5 : Int) (x6 : ByteArray) (x7 : List (List D)) (x8 : Int) (x9 : Int) (wx7 : x7.length ≤ 1048576) (tx7 : ∀ r ∈ x7, typL shDirent r) : t120 x1 x2 x3 x4 x5 x6 x7 x8 x9 x1 x2 x3 x4 x5 x6 x7 x8 x9 = some ([.one (.b true)], []) := by
  simp only [t120, ta120, bne_self_eq_false, Bool.not_true, Bool.false_eq_true, if_false, eqDirentS_self x7 wx7 tx7, zr137, zo137, okR, isVs, isV, isD, isDs, isOs, resC, outC, nthR, nthO, cellsDV, nthD, asB, asI, asS, asL, Bool.and_true, Bool.true_and, BEq.rfl, chk_true, decide_true]
theorem szInodeS_loop (n0 : Int) (b0 : Bool) (q1 : Int → Int → Bool → Bool → Rs) (q2 : Int → Int → Bool → SV → Rs) (h1 : ∀ a b c d, q1 a b c d = some ([.one (.i .i64 (-1))], [])) (h2 : ∀ a b c d, q2 a b c d = some ([.one (.i .i64 a)], []))
    (l : List (List D)) (h : ∀ r ∈ l, typL shInode r) (hl : l.length < 4611686018427387904) : ∀ (k i m : Nat) (n : Int) (v w : SV), i + k = l.length → k < m → 0 ≤ n → n ≤ 1048576 → ∃ y, la89o1 t122 l n0 b0 q1 q2 m n i v w = some ([.one (.i .i64 y)], []) ∧ y ≤ n ∧ (0 ≤ y → ∀ j, i ≤ j → j < l.length → szdL shInode (l.getD j [])) := by
  intro k
  induction k with
  | zero =>
    intro i m n v w e hm g0 g1
    obtain ⟨m, rfl⟩ : ∃ m', m = m' + 1 := ⟨m - 1, by omega⟩
    have ei : decide ((i : Int) < (l.length : Int)) = false := by simp; omega
    refine ⟨n, ?_, by omega, by omega⟩
    simp only [la89o1, ei, h2, Bool.false_eq_true, if_false]
  | succ k ih =>
    intro i m n v w e hm g0 g1
    obtain ⟨m, rfl⟩ : ∃ m', m = m' + 1 := ⟨m - 1, by omega⟩
    have hr := getD_row h (i := i) (by omega)
    obtain ⟨c1, c2, c3, c4, c5, c6, c7, c8, c9, er, wc6, wc7, tc7⟩ := Inode_row hr
    obtain ⟨z, hz, hzn, hzo⟩ := szInode_ok c1 c2 c3 c4 c5 c6 c7 c8 c9 wc6 wc7 tc7 n g0 g1
    have e1 : decide ((i : Int) < (l.length : Int)) = true := by simp; omega
    have e2 : decide ((0 : Int) ≤ (i : Int)) = true := by simp
    have ez : isRow z142 [.i .i64 c1, .i .i64 c2, .i .i64 c3, .i .i64 c4, .i .i64 c5, .s c6, .l c7, .i .i64 c8, .i .i64 c9] = true := rfl
    have ew : okR zr122 zo122 (some ([.one (.i .i64 z)], [])) = true := rfl
    simp only [la89o1, e1, e2, Int.toNat_natCast, er, ez, nthD, asI, asS, asB, asL, hz, resC, nthR, cellsDV, ew, Bool.and_true, chk_true, if_true]
    by_cases g : z < 0
    · exact ⟨-1, by simp only [g, decide_true, if_true, h1], by omega, by omega⟩
    · simp only [g, decide_false, Bool.false_eq_true, if_false]
      rw [w64_succ i (by omega)]
      obtain ⟨y, ey, hy1, hy2⟩ := ih (i + 1) m z (.d (.b true)) (.d (.b false)) (by omega) (by omega) (by omega) (by omega)
      refine ⟨y, ey, by omega, fun hy j hj1 hj2 => ?_⟩
      by_cases hj : j = i
      · subst hj; rw [er]; exact hzo (by omega)
      · exact hy2 hy j (by omega) hj2
theorem szInodeS_ok (l : List (List D)) (hl : l.length ≤ maxLen) (h : ∀ r ∈ l, typL shInode r) (n : Int) (h0 : 0 ≤ n) (h1 : n ≤ 1048576) : ∃ y, t89 l n = some ([.one (.i .i64 y)], []) ∧ y ≤ n ∧ (0 ≤ y → l.length ≤ 1048576 ∧ ∀ r ∈ l, szdL shInode r) := by
  have e : w64 (n - (l.length : Int)) = n - (l.length : Int) := w64_in _ (by simp only [maxLen] at hl; omega)
  simp only [t89, ta89, e]
  by_cases g : n - (l.length : Int) < 0
  · exact ⟨-1, by simp only [g, decide_true, if_true], by omega, by omega⟩
  · simp only [g, decide_false, Bool.false_eq_true, if_false]
    obtain ⟨y, ey, hy1, hy2⟩ := szInodeS_loop 0 false (fun _ _ _ _ => some ([.one (.i .i64 (-1))], [])) (fun a _ _ _ => some ([.one (.i .i64 a)], [])) (fun _ _ _ _ => rfl) (fun _ _ _ _ => rfl) l h (by omega) l.length 0 KK (n - (l.length : Int)) .undef .undef (by omega) (by rw [KK_eq]; omega) (by omega) (by omega)
    refine ⟨y, ey, by omega, fun hy => ⟨by omega, all_getD (fun j hj => hy2 hy j (by omega) hj)⟩⟩
theorem toInodeS_loop (q : Int → Bool → List (List D) → Rs) (l : List (List D)) (h : ∀ r ∈ l, typL shInode r) (hs : ∀ r ∈ l, szdL shInode r) (hl : l.length < 4611686018427387904) : ∀ (k i m : Nat) (v : SV), i + k = l.length → k < m →
    la96o0 t128 l q m i v (l.take i ++ List.replicate k z64) = q l.length false l := by
  intro k
  induction k with
  | zero =>
    intro i m v e hm
    obtain ⟨m, rfl⟩ : ∃ m', m = m' + 1 := ⟨m - 1, by omega⟩
    have ei : decide ((i : Int) < (l.length : Int)) = false := by simp; omega
    have e0 : i = l.length := by omega
    simp only [la96o0, ei, e0]
    simp
  | succ k ih =>
    intro i m v e hm
    obtain ⟨m, rfl⟩ : ∃ m', m = m' + 1 := ⟨m - 1, by omega⟩
    have hr := getD_row h (i := i) (by omega)
    obtain ⟨c1, c2, c3, c4, c5, c6, c7, c8, c9, er, wc6, wc7, tc7⟩ := Inode_row hr
    have hso := hs _ (mem_getD (l := l) (i := i) (by omega))
    rw [er] at hso
    have e1 : decide ((i : Int) < (l.length : Int)) = true := by simp; omega
    have e2 : decide ((0 : Int) ≤ (i : Int)) = true := by simp
    have e3 : decide ((i : Int) < ((l.take i ++ List.replicate (k + 1) z64).length : Int)) = true := by simp; omega
    have e4 : decide (9 ≤ 9 ∧ i < (l.take i ++ List.replicate (k + 1) z64).length) = true := by simp; omega
    have ez : isRow z142 [.i .i64 c1, .i .i64 c2, .i .i64 c3, .i .i64 c4, .i .i64 c5, .s c6, .l c7, .i .i64 c8, .i .i64 c9] = true := rfl
    have ew : okR zr128 zo128 (some ([.agg [.i .i64 c1, .i .i64 c2, .i .i64 c3, .i .i64 c4, .i .i64 c5, .s c6, .l c7, .i .i64 c8, .i .i64 c9]], [])) = true := rfl
    simp only [la96o0, e1, e2, Int.toNat_natCast, er, ez, nthD, asI, asS, asB, asL, toInode_eq c1 c2 c3 c4 c5 c6 c7 c8 c9 hso.2.2.2.2.2.2.1.1 tc7 hso.2.2.2.2.2.2.1.2, resC, nthR, cellsDV, ew, e3, e4, Bool.and_true, chk_true, if_true]
    rw [stR_at l i k _ _ (by simp [z64]) e er, w64_succ i (by omega)]
    exact ih (i + 1) m _ (by omega) (by omega)
theorem toInodeS_eq (l : List (List D)) (hl : l.length ≤ 1048576) (h : ∀ r ∈ l, typL shInode r) (hs : ∀ r ∈ l, szdL shInode r) : t96 l = some ([.one (.l l)], []) := by
  unfold t96 ta96
  have e1 : l.length ≤ lim := by unfold lim; omega
  have := toInodeS_loop (fun _ _ l => some ([.one (.l l)], [])) l h hs (by omega) l.length 0 KK .undef (by omega) (by rw [KK_eq]; omega)
  simpa [e1] using this
theorem eqInodeS_loop (b0 b1 : Bool) (q1 : Int → Bool → Bool → Rs) (q2 : Int → Bool → SV → Rs) (h2 : ∀ a b c, q2 a b c = some ([.one (.b true)], [])) (l : List (List D)) (h : ∀ r ∈ l, typL shInode r) (hs : ∀ r ∈ l, szdL shInode r) (hl : l.length < 4611686018427387904) : ∀ (k i m : Nat) (v w : SV), i + k = l.length → k < m →
    la83o1 t120 l l b0 b1 q1 q2 m i v w = some ([.one (.b true)], []) := by
  intro k
  induction k with
  | zero =>
    intro i m v w e hm
    obtain ⟨m, rfl⟩ : ∃ m', m = m' + 1 := ⟨m - 1, by omega⟩
    have ei : decide ((i : Int) < (l.length : Int)) = false := by simp; omega
    simp only [la83o1, ei, h2]
    simp
  | succ k ih =>
    intro i m v w e hm
    obtain ⟨m, rfl⟩ : ∃ m', m = m' + 1 := ⟨m - 1, by omega⟩
    have hr := getD_row h (i := i) (by omega)
    obtain ⟨c1, c2, c3, c4, c5, c6, c7, c8, c9, er, wc6, wc7, tc7⟩ := Inode_row hr
    have hso := hs _ (mem_getD (l := l) (i := i) (by omega))
    rw [er] at hso
    have e1 : decide ((i : Int) < (l.length : Int)) = true := by simp; omega
    have e2 : decide ((0 : Int) ≤ (i : Int)) = true := by simp
    have ez : isRow z64 [.i .i64 c1, .i .i64 c2, .i .i64 c3, .i .i64 c4, .i .i64 c5, .s c6, .l c7, .i .i64 c8, .i .i64 c9] = true := rfl
    have ew : okR zr120 zo120 (some ([.one (.b true)], [])) = true := rfl
    simp only [la83o1, e1, e2, Int.toNat_natCast, er, ez, nthD, asI, asS, asB, asL, eqInode_self c1 c2 c3 c4 c5 c6 c7 c8 c9 hso.2.2.2.2.2.2.1.1 tc7, resC, nthR, cellsDV, ew, Bool.and_true, chk_true, if_true, Bool.not_true, Bool.false_eq_true, if_false]
    rw [w64_succ i (by omega)]
    exact ih (i + 1) m _ _ (by omega) (by omega)
theorem eqInodeS_self (l : List (List D)) (hl : l.length ≤ 1048576) (h : ∀ r ∈ l, typL shInode r) (hs : ∀ r ∈ l, szdL shInode r) : t83 l l = some ([.one (.b true)], []) := by
  have := eqInodeS_loop false false (fun _ _ _ => some ([.one (.b false)], [])) (fun _ _ _ => some ([.one (.b true)], [])) (fun _ _ _ => rfl) l h hs (by omega) l.length 0 KK .undef .undef (by omega) (by rw [KK_eq]; omega)
  simpa [t83, ta83] using this
abbrev shVol : List Sh := [.i .i64, .l [.i .i64, .i .i64, .i .i64, .i .i64, .i .i64, .s, .l [.s, .i .i64], .i .i64, .i .i64]]
theorem szVol_ok (x1 : Int) (x2 : List (List D)) (wx2 : x2.length ≤ maxLen) (tx2 : ∀ r ∈ x2, typL shInode r) (n : Int) (h0 : 0 ≤ n) (h1 : n ≤ 1048576) : ∃ y, t53 x1 x2 n = some ([.one (.i .i64 y)], []) ∧ y ≤ n ∧ (0 ≤ y → szdL shVol [.i .i64 x1, .l x2]) := by
  simp only [t53, ta53]
  obtain ⟨y1, e1, h1a, o1⟩ := szInodeS_ok x2 wx2 tx2 n (by omega) (by omega)
  simp only [e1, zr89, zo89, okR, isVs, isV, isD, isDs, isOs, resC, outC, nthR, nthO, cellsDV, nthD, asB, asI, asS, asL, Bool.and_true, Bool.true_and, BEq.rfl, chk_true, decide_true]
  by_cases g1 : y1 < 0
  · exact ⟨-1, by simp only [g1, decide_true, if_true, chk_true], by omega, by omega⟩
  simp only [g1, decide_false, Bool.false_eq_true, if_false, chk_true]
  exact ⟨_, rfl, by omega, fun _ => ⟨trivial, (o1 (by omega)), trivial⟩⟩
theorem toVol_eq (x1 : Int) (x2 : List (List D)) (wx2 : x2.length ≤ 1048576) (tx2 : ∀ r ∈ x2, typL shInode r) (sx2 : ∀ r ∈ x2, szdL shInode r) : t60 x1 x2 = some ([.agg [.i .i64 x1, .l x2]], []) := by
  simp only [t60, ta60, toInodeS_eq x2 wx2 tx2 sx2, zr96, zo96, okR, isVs, isV, isD, isDs, isOs, resC, outC, nthR, nthO, cellsDV, nthD, asB, asI, asS, asL, Bool.and_true, Bool.true_and, BEq.rfl, chk_true, decide_true]
theorem eqVol_self (x1 : Int) (x2 : List (List D)) (wx2 : x2.length ≤ 1048576) (tx2 : ∀ r ∈ x2, typL shInode r) (sx2 : ∀ r ∈ x2, szdL shInode r) : t42 x1 x2 x1 x2 = some ([.one (.b true)], []) := by
  simp only [t42, ta42, bne_self_eq_false, Bool.not_true, Bool.false_eq_true, if_false, eqInodeS_self x2 wx2 tx2 sx2, zr83, zo83, okR, isVs, isV, isD, isDs, isOs, resC, outC, nthR, nthO, cellsDV, nthD, asB, asI, asS, asL, Bool.and_true, Bool.true_and, BEq.rfl, chk_true, decide_true]
abbrev shResult : List Sh := [.i .i64, .s]
theorem szResult_ok (x1 : Int) (x2 : ByteArray) (wx2 : x2.size ≤ maxLen) (n : Int) (h0 : 0 ≤ n) (h1 : n ≤ 1048576) : ∃ y, t123 x1 x2 n = some ([.one (.i .i64 y)], []) ∧ y ≤ n ∧ (0 ≤ y → szdL shResult [.i .i64 x1, .s x2]) := by
  simp only [t123]
  have e1 : w64 (n - (x2.size : Int)) = n - (x2.size : Int) := w64_in _ (by simp only [maxLen] at wx2; omega)
  simp only [e1]
  by_cases g1 : (n - (x2.size : Int)) < 0
  · exact ⟨-1, by simp only [g1, decide_true, if_true, chk_true], by omega, by omega⟩
  simp only [g1, decide_false, Bool.false_eq_true, if_false, chk_true]
  exact ⟨_, rfl, by omega, fun _ => ⟨trivial, (by omega : x2.size ≤ 1048576), trivial⟩⟩
theorem toResult_eq (x1 : Int) (x2 : ByteArray)  : t129 x1 x2 = some ([.agg [.i .i64 x1, .s x2]], []) := rfl
theorem eqResult_self (x1 : Int) (x2 : ByteArray)  : t121 x1 x2 x1 x2 = some ([.one (.b true)], []) := by
  simp only [t121, bne_self_eq_false, Bool.not_true, Bool.false_eq_true, if_false, okR, isVs, isV, isD, isDs, isOs, resC, outC, nthR, nthO, cellsDV, nthD, asB, asI, asS, asL, Bool.and_true, Bool.true_and, BEq.rfl, chk_true, decide_true]
abbrev shNote : List Sh := [.i .i64, .i .i64, .i .i64, .i .i64, .i .i64]
theorem Note_row {r : List D} (h : typL shNote r) : ∃ x1 x2 x3 x4 x5, r = [.i .i64 x1, .i .i64 x2, .i .i64 x3, .i .i64 x4, .i .i64 x5] := by
  obtain ⟨_, _, rfl, ⟨x1, rfl, _⟩, ⟨_, _, rfl, ⟨x2, rfl, _⟩, ⟨_, _, rfl, ⟨x3, rfl, _⟩, ⟨_, _, rfl, ⟨x4, rfl, _⟩, ⟨_, _, rfl, ⟨x5, rfl, _⟩, rfl⟩⟩⟩⟩⟩ := h
  exact ⟨x1, x2, x3, x4, x5, rfl⟩
theorem toNote_eq (x1 : Int) (x2 : Int) (x3 : Int) (x4 : Int) (x5 : Int)  : t97 x1 x2 x3 x4 x5 = some ([.agg [.i .i64 x1, .i .i64 x2, .i .i64 x3, .i .i64 x4, .i .i64 x5]], []) := rfl
theorem eqNote_self (x1 : Int) (x2 : Int) (x3 : Int) (x4 : Int) (x5 : Int)  : t84 x1 x2 x3 x4 x5 x1 x2 x3 x4 x5 = some ([.one (.b true)], []) := by
  simp only [t84, bne_self_eq_false, Bool.not_true, Bool.false_eq_true, if_false, okR, isVs, isV, isD, isDs, isOs, resC, outC, nthR, nthO, cellsDV, nthD, asB, asI, asS, asL, Bool.and_true, Bool.true_and, BEq.rfl, chk_true, decide_true]
theorem szNoteS_ok (l : List (List D)) (hl : l.length ≤ maxLen) (h : ∀ r ∈ l, typL shNote r) (n : Int) (h0 : 0 ≤ n) (h1 : n ≤ 1048576) : ∃ y, t54 l n = some ([.one (.i .i64 y)], []) ∧ y ≤ n ∧ (0 ≤ y → l.length ≤ 1048576 ∧ ∀ r ∈ l, szdL shNote r) := by
  have e : w64 (n - (l.length : Int)) = n - (l.length : Int) := w64_in _ (by simp only [maxLen] at hl; omega)
  simp only [t54, e]
  by_cases g : n - (l.length : Int) < 0
  · exact ⟨-1, by simp only [g, decide_true, if_true], by omega, by omega⟩
  · simp only [g, decide_false, Bool.false_eq_true, if_false]
    exact ⟨_, rfl, by omega, fun hy => ⟨by omega, fun _ _ => ⟨trivial, trivial, trivial, trivial, trivial, trivial⟩⟩⟩
theorem toNoteS_loop (q : Int → Bool → List (List D) → Rs) (l : List (List D)) (h : ∀ r ∈ l, typL shNote r) (hs : ∀ r ∈ l, szdL shNote r) (hl : l.length < 4611686018427387904) : ∀ (k i m : Nat) (v : SV), i + k = l.length → k < m →
    la61o0 t97 l q m i v (l.take i ++ List.replicate k z90) = q l.length false l := by
  intro k
  induction k with
  | zero =>
    intro i m v e hm
    obtain ⟨m, rfl⟩ : ∃ m', m = m' + 1 := ⟨m - 1, by omega⟩
    have ei : decide ((i : Int) < (l.length : Int)) = false := by simp; omega
    have e0 : i = l.length := by omega
    simp only [la61o0, ei, e0]
    simp
  | succ k ih =>
    intro i m v e hm
    obtain ⟨m, rfl⟩ : ∃ m', m = m' + 1 := ⟨m - 1, by omega⟩
    have hr := getD_row h (i := i) (by omega)
    obtain ⟨c1, c2, c3, c4, c5, er⟩ := Note_row hr
    have e1 : decide ((i : Int) < (l.length : Int)) = true := by simp; omega
    have e2 : decide ((0 : Int) ≤ (i : Int)) = true := by simp
    have e3 : decide ((i : Int) < ((l.take i ++ List.replicate (k + 1) z90).length : Int)) = true := by simp; omega
    have e4 : decide (5 ≤ 5 ∧ i < (l.take i ++ List.replicate (k + 1) z90).length) = true := by simp; omega
    have ez : isRow z121 [.i .i64 c1, .i .i64 c2, .i .i64 c3, .i .i64 c4, .i .i64 c5] = true := rfl
    have ew : okR zr97 zo97 (some ([.agg [.i .i64 c1, .i .i64 c2, .i .i64 c3, .i .i64 c4, .i .i64 c5]], [])) = true := rfl
    simp only [la61o0, e1, e2, Int.toNat_natCast, er, ez, nthD, asI, asS, asB, asL, toNote_eq c1 c2 c3 c4 c5, resC, nthR, cellsDV, ew, e3, e4, Bool.and_true, chk_true, if_true]
    rw [stR_at l i k _ _ (by simp [z90]) e er, w64_succ i (by omega)]
    exact ih (i + 1) m _ (by omega) (by omega)
theorem toNoteS_eq (l : List (List D)) (hl : l.length ≤ 1048576) (h : ∀ r ∈ l, typL shNote r) (hs : ∀ r ∈ l, szdL shNote r) : t61 l = some ([.one (.l l)], []) := by
  unfold t61 ta61
  have e1 : l.length ≤ lim := by unfold lim; omega
  have := toNoteS_loop (fun _ _ l => some ([.one (.l l)], [])) l h hs (by omega) l.length 0 KK .undef (by omega) (by rw [KK_eq]; omega)
  simpa [e1] using this
theorem eqNoteS_loop (b0 b1 : Bool) (q1 : Int → Bool → Bool → Rs) (q2 : Int → Bool → SV → Rs) (h2 : ∀ a b c, q2 a b c = some ([.one (.b true)], [])) (l : List (List D)) (h : ∀ r ∈ l, typL shNote r) (hl : l.length < 4611686018427387904) : ∀ (k i m : Nat) (v w : SV), i + k = l.length → k < m →
    la43o1 t84 l l b0 b1 q1 q2 m i v w = some ([.one (.b true)], []) := by
  intro k
  induction k with
  | zero =>
    intro i m v w e hm
    obtain ⟨m, rfl⟩ : ∃ m', m = m' + 1 := ⟨m - 1, by omega⟩
    have ei : decide ((i : Int) < (l.length : Int)) = false := by simp; omega
    simp only [la43o1, ei, h2]
    simp
  | succ k ih =>
    intro i m v w e hm
    obtain ⟨m, rfl⟩ : ∃ m', m = m' + 1 := ⟨m - 1, by omega⟩
    have hr := getD_row h (i := i) (by omega)
    obtain ⟨c1, c2, c3, c4, c5, er⟩ := Note_row hr
    have e1 : decide ((i : Int) < (l.length : Int)) = true := by simp; omega
    have e2 : decide ((0 : Int) ≤ (i : Int)) = true := by simp
    have ez : isRow z90 [.i .i64 c1, .i .i64 c2, .i .i64 c3, .i .i64 c4, .i .i64 c5] = true := rfl
    have ew : okR zr84 zo84 (some ([.one (.b true)], [])) = true := rfl
    simp only [la43o1, e1, e2, Int.toNat_natCast, er, ez, nthD, asI, asS, asB, asL, eqNote_self c1 c2 c3 c4 c5, resC, nthR, cellsDV, ew, Bool.and_true, chk_true, if_true, Bool.not_true, Bool.false_eq_true, if_false]
    rw [w64_succ i (by omega)]
    exact ih (i + 1) m _ _ (by omega) (by omega)
theorem eqNoteS_self (l : List (List D)) (hl : l.length ≤ 1048576) (h : ∀ r ∈ l, typL shNote r) : t43 l l = some ([.one (.b true)], []) := by
  have := eqNoteS_loop false false (fun _ _ _ => some ([.one (.b false)], [])) (fun _ _ _ => some ([.one (.b true)], [])) (fun _ _ _ => rfl) l h (by omega) l.length 0 KK .undef .undef (by omega) (by rw [KK_eq]; omega)
  simpa [t43, ta43] using this
abbrev shSession : List Sh := [.i .i64, .i .i64, .i .i64, .i .i64, .s]
theorem Session_row {r : List D} (h : typL shSession r) : ∃ x1 x2 x3 x4 x5, r = [.i .i64 x1, .i .i64 x2, .i .i64 x3, .i .i64 x4, .s x5] ∧ x5.size ≤ maxLen := by
  obtain ⟨_, _, rfl, ⟨x1, rfl, _⟩, ⟨_, _, rfl, ⟨x2, rfl, _⟩, ⟨_, _, rfl, ⟨x3, rfl, _⟩, ⟨_, _, rfl, ⟨x4, rfl, _⟩, ⟨_, _, rfl, ⟨x5, rfl, wx5⟩, rfl⟩⟩⟩⟩⟩ := h
  exact ⟨x1, x2, x3, x4, x5, rfl, wx5⟩
theorem szSession_ok (x1 : Int) (x2 : Int) (x3 : Int) (x4 : Int) (x5 : ByteArray) (wx5 : x5.size ≤ maxLen) (n : Int) (h0 : 0 ≤ n) (h1 : n ≤ 1048576) : ∃ y, t90 x1 x2 x3 x4 x5 n = some ([.one (.i .i64 y)], []) ∧ y ≤ n ∧ (0 ≤ y → szdL shSession [.i .i64 x1, .i .i64 x2, .i .i64 x3, .i .i64 x4, .s x5]) := by
  simp only [t90, ta90]
  obtain ⟨y1, e1, h1a, o1⟩ := szResult_ok x4 x5 wx5 n (by omega) (by omega)
  simp only [e1, zr123, zo123, okR, isVs, isV, isD, isDs, isOs, resC, outC, nthR, nthO, cellsDV, nthD, asB, asI, asS, asL, Bool.and_true, Bool.true_and, BEq.rfl, chk_true, decide_true]
  by_cases g1 : y1 < 0
  · exact ⟨-1, by simp only [g1, decide_true, if_true, chk_true], by omega, by omega⟩
  simp only [g1, decide_false, Bool.false_eq_true, if_false, chk_true]
  exact ⟨_, rfl, by omega, fun _ => ⟨trivial, trivial, trivial, (o1 (by omega)).1, (o1 (by omega)).2.1, trivial⟩⟩
theorem toSession_eq (x1 : Int) (x2 : Int) (x3 : Int) (x4 : Int) (x5 : ByteArray)  : t98 x1 x2 x3 x4 x5 = some ([.agg [.i .i64 x1, .i .i64 x2, .i .i64 x3, .i .i64 x4, .s x5]], []) := by
  simp only [t98, ta98, toResult_eq x4 x5 , zr129, zo129, okR, isVs, isV, isD, isDs, isOs, resC, outC, nthR, nthO, cellsDV, nthD, asB, asI, asS, asL, Bool.and_true, Bool.true_and, BEq.rfl, chk_true, decide_true]
theorem eqSession_self (x1 : Int) (x2 : Int) (x3 : Int) (x4 : Int) (x5 : ByteArray)  : t85 x1 x2 x3 x4 x5 x1 x2 x3 x4 x5 = some ([.one (.b true)], []) := by
  simp only [t85, ta85, bne_self_eq_false, Bool.not_true, Bool.false_eq_true, if_false, eqResult_self x4 x5 , zr121, zo121, okR, isVs, isV, isD, isDs, isOs, resC, outC, nthR, nthO, cellsDV, nthD, asB, asI, asS, asL, Bool.and_true, Bool.true_and, BEq.rfl, chk_true, decide_true]
theorem szSessionS_loop (n0 : Int) (b0 : Bool) (q1 : Int → Int → Bool → Bool → Rs) (q2 : Int → Int → Bool → SV → Rs) (h1 : ∀ a b c d, q1 a b c d = some ([.one (.i .i64 (-1))], [])) (h2 : ∀ a b c d, q2 a b c d = some ([.one (.i .i64 a)], []))
    (l : List (List D)) (h : ∀ r ∈ l, typL shSession r) (hl : l.length < 4611686018427387904) : ∀ (k i m : Nat) (n : Int) (v w : SV), i + k = l.length → k < m → 0 ≤ n → n ≤ 1048576 → ∃ y, la55o1 t90 l n0 b0 q1 q2 m n i v w = some ([.one (.i .i64 y)], []) ∧ y ≤ n ∧ (0 ≤ y → ∀ j, i ≤ j → j < l.length → szdL shSession (l.getD j [])) := by
  intro k
  induction k with
  | zero =>
    intro i m n v w e hm g0 g1
    obtain ⟨m, rfl⟩ : ∃ m', m = m' + 1 := ⟨m - 1, by omega⟩
    have ei : decide ((i : Int) < (l.length : Int)) = false := by simp; omega
    refine ⟨n, ?_, by omega, by omega⟩
    simp only [la55o1, ei, h2, Bool.false_eq_true, if_false]
  | succ k ih =>
    intro i m n v w e hm g0 g1
    obtain ⟨m, rfl⟩ : ∃ m', m = m' + 1 := ⟨m - 1, by omega⟩
    have hr := getD_row h (i := i) (by omega)
    obtain ⟨c1, c2, c3, c4, c5, er, wc5⟩ := Session_row hr
    obtain ⟨z, hz, hzn, hzo⟩ := szSession_ok c1 c2 c3 c4 c5 wc5 n g0 g1
    have e1 : decide ((i : Int) < (l.length : Int)) = true := by simp; omega
    have e2 : decide ((0 : Int) ≤ (i : Int)) = true := by simp
    have ez : isRow z114 [.i .i64 c1, .i .i64 c2, .i .i64 c3, .i .i64 c4, .s c5] = true := rfl
    have ew : okR zr90 zo90 (some ([.one (.i .i64 z)], [])) = true := rfl
    simp only [la55o1, e1, e2, Int.toNat_natCast, er, ez, nthD, asI, asS, asB, asL, hz, resC, nthR, cellsDV, ew, Bool.and_true, chk_true, if_true]
    by_cases g : z < 0
    · exact ⟨-1, by simp only [g, decide_true, if_true, h1], by omega, by omega⟩
    · simp only [g, decide_false, Bool.false_eq_true, if_false]
      rw [w64_succ i (by omega)]
      obtain ⟨y, ey, hy1, hy2⟩ := ih (i + 1) m z (.d (.b true)) (.d (.b false)) (by omega) (by omega) (by omega) (by omega)
      refine ⟨y, ey, by omega, fun hy j hj1 hj2 => ?_⟩
      by_cases hj : j = i
      · subst hj; rw [er]; exact hzo (by omega)
      · exact hy2 hy j (by omega) hj2
theorem szSessionS_ok (l : List (List D)) (hl : l.length ≤ maxLen) (h : ∀ r ∈ l, typL shSession r) (n : Int) (h0 : 0 ≤ n) (h1 : n ≤ 1048576) : ∃ y, t55 l n = some ([.one (.i .i64 y)], []) ∧ y ≤ n ∧ (0 ≤ y → l.length ≤ 1048576 ∧ ∀ r ∈ l, szdL shSession r) := by
  have e : w64 (n - (l.length : Int)) = n - (l.length : Int) := w64_in _ (by simp only [maxLen] at hl; omega)
  simp only [t55, ta55, e]
  by_cases g : n - (l.length : Int) < 0
  · exact ⟨-1, by simp only [g, decide_true, if_true], by omega, by omega⟩
  · simp only [g, decide_false, Bool.false_eq_true, if_false]
    obtain ⟨y, ey, hy1, hy2⟩ := szSessionS_loop 0 false (fun _ _ _ _ => some ([.one (.i .i64 (-1))], [])) (fun a _ _ _ => some ([.one (.i .i64 a)], [])) (fun _ _ _ _ => rfl) (fun _ _ _ _ => rfl) l h (by omega) l.length 0 KK (n - (l.length : Int)) .undef .undef (by omega) (by rw [KK_eq]; omega) (by omega) (by omega)
    refine ⟨y, ey, by omega, fun hy => ⟨by omega, all_getD (fun j hj => hy2 hy j (by omega) hj)⟩⟩
theorem toSessionS_loop (q : Int → Bool → List (List D) → Rs) (l : List (List D)) (h : ∀ r ∈ l, typL shSession r) (hs : ∀ r ∈ l, szdL shSession r) (hl : l.length < 4611686018427387904) : ∀ (k i m : Nat) (v : SV), i + k = l.length → k < m →
    la62o0 t98 l q m i v (l.take i ++ List.replicate k z81) = q l.length false l := by
  intro k
  induction k with
  | zero =>
    intro i m v e hm
    obtain ⟨m, rfl⟩ : ∃ m', m = m' + 1 := ⟨m - 1, by omega⟩
    have ei : decide ((i : Int) < (l.length : Int)) = false := by simp; omega
    have e0 : i = l.length := by omega
    simp only [la62o0, ei, e0]
    simp
  | succ k ih =>
    intro i m v e hm
    obtain ⟨m, rfl⟩ : ∃ m', m = m' + 1 := ⟨m - 1, by omega⟩
    have hr := getD_row h (i := i) (by omega)
    obtain ⟨c1, c2, c3, c4, c5, er, wc5⟩ := Session_row hr
    have e1 : decide ((i : Int) < (l.length : Int)) = true := by simp; omega
    have e2 : decide ((0 : Int) ≤ (i : Int)) = true := by simp
    have e3 : decide ((i : Int) < ((l.take i ++ List.replicate (k + 1) z81).length : Int)) = true := by simp; omega
    have e4 : decide (5 ≤ 5 ∧ i < (l.take i ++ List.replicate (k + 1) z81).length) = true := by simp; omega
    have ez : isRow z114 [.i .i64 c1, .i .i64 c2, .i .i64 c3, .i .i64 c4, .s c5] = true := rfl
    have ew : okR zr98 zo98 (some ([.agg [.i .i64 c1, .i .i64 c2, .i .i64 c3, .i .i64 c4, .s c5]], [])) = true := rfl
    simp only [la62o0, e1, e2, Int.toNat_natCast, er, ez, nthD, asI, asS, asB, asL, toSession_eq c1 c2 c3 c4 c5, resC, nthR, cellsDV, ew, e3, e4, Bool.and_true, chk_true, if_true]
    rw [stR_at l i k _ _ (by simp [z81]) e er, w64_succ i (by omega)]
    exact ih (i + 1) m _ (by omega) (by omega)
theorem toSessionS_eq (l : List (List D)) (hl : l.length ≤ 1048576) (h : ∀ r ∈ l, typL shSession r) (hs : ∀ r ∈ l, szdL shSession r) : t62 l = some ([.one (.l l)], []) := by
  unfold t62 ta62
  have e1 : l.length ≤ lim := by unfold lim; omega
  have := toSessionS_loop (fun _ _ l => some ([.one (.l l)], [])) l h hs (by omega) l.length 0 KK .undef (by omega) (by rw [KK_eq]; omega)
  simpa [e1] using this
theorem eqSessionS_loop (b0 b1 : Bool) (q1 : Int → Bool → Bool → Rs) (q2 : Int → Bool → SV → Rs) (h2 : ∀ a b c, q2 a b c = some ([.one (.b true)], [])) (l : List (List D)) (h : ∀ r ∈ l, typL shSession r) (hl : l.length < 4611686018427387904) : ∀ (k i m : Nat) (v w : SV), i + k = l.length → k < m →
    la44o1 t85 l l b0 b1 q1 q2 m i v w = some ([.one (.b true)], []) := by
  intro k
  induction k with
  | zero =>
    intro i m v w e hm
    obtain ⟨m, rfl⟩ : ∃ m', m = m' + 1 := ⟨m - 1, by omega⟩
    have ei : decide ((i : Int) < (l.length : Int)) = false := by simp; omega
    simp only [la44o1, ei, h2]
    simp
  | succ k ih =>
    intro i m v w e hm
    obtain ⟨m, rfl⟩ : ∃ m', m = m' + 1 := ⟨m - 1, by omega⟩
    have hr := getD_row h (i := i) (by omega)
    obtain ⟨c1, c2, c3, c4, c5, er, wc5⟩ := Session_row hr
    have e1 : decide ((i : Int) < (l.length : Int)) = true := by simp; omega
    have e2 : decide ((0 : Int) ≤ (i : Int)) = true := by simp
    have ez : isRow z81 [.i .i64 c1, .i .i64 c2, .i .i64 c3, .i .i64 c4, .s c5] = true := rfl
    have ew : okR zr85 zo85 (some ([.one (.b true)], [])) = true := rfl
    simp only [la44o1, e1, e2, Int.toNat_natCast, er, ez, nthD, asI, asS, asB, asL, eqSession_self c1 c2 c3 c4 c5, resC, nthR, cellsDV, ew, Bool.and_true, chk_true, if_true, Bool.not_true, Bool.false_eq_true, if_false]
    rw [w64_succ i (by omega)]
    exact ih (i + 1) m _ _ (by omega) (by omega)
theorem eqSessionS_self (l : List (List D)) (hl : l.length ≤ 1048576) (h : ∀ r ∈ l, typL shSession r) : t44 l l = some ([.one (.b true)], []) := by
  have := eqSessionS_loop false false (fun _ _ _ => some ([.one (.b false)], [])) (fun _ _ _ => some ([.one (.b true)], [])) (fun _ _ _ => rfl) l h (by omega) l.length 0 KK .undef .undef (by omega) (by rw [KK_eq]; omega)
  simpa [t44, ta44] using this
abbrev shTenant : List Sh := [.i .i64, .l [.i .i64, .i .i64, .i .i64, .i .i64, .i .i64, .s, .l [.s, .i .i64], .i .i64, .i .i64], .i .i64, .l [.i .i64, .i .i64, .i .i64, .i .i64, .i .i64], .l [.i .i64, .i .i64, .i .i64, .i .i64, .s]]
theorem szTenant_ok (x1 : Int) (x2 : List (List D)) (x3 : Int) (x4 : List (List D)) (x5 : List (List D)) (wx2 : x2.length ≤ maxLen) (tx2 : ∀ r ∈ x2, typL shInode r) (wx4 : x4.length ≤ maxLen) (tx4 : ∀ r ∈ x4, typL shNote r) (wx5 : x5.length ≤ maxLen) (tx5 : ∀ r ∈ x5, typL shSession r) (n : Int) (h0 : 0 ≤ n) (h1 : n ≤ 1048576) : ∃ y, t22 x1 x2 x3 x4 x5 n = some ([.one (.i .i64 y)], []) ∧ y ≤ n ∧ (0 ≤ y → szdL shTenant [.i .i64 x1, .l x2, .i .i64 x3, .l x4, .l x5]) := by
  simp only [t22, ta22]
  obtain ⟨y1, e1, h1a, o1⟩ := szVol_ok x1 x2 wx2 tx2 n (by omega) (by omega)
  simp only [e1, zr53, zo53, okR, isVs, isV, isD, isDs, isOs, resC, outC, nthR, nthO, cellsDV, nthD, asB, asI, asS, asL, Bool.and_true, Bool.true_and, BEq.rfl, chk_true, decide_true]
  by_cases g1 : y1 < 0
  · exact ⟨-1, by simp only [g1, decide_true, if_true, chk_true], by omega, by omega⟩
  simp only [g1, decide_false, Bool.false_eq_true, if_false, chk_true]
  obtain ⟨y2, e2, h2a, o2⟩ := szNoteS_ok x4 wx4 tx4 y1 (by omega) (by omega)
  simp only [e2, zr54, zo54, okR, isVs, isV, isD, isDs, isOs, resC, outC, nthR, nthO, cellsDV, nthD, asB, asI, asS, asL, Bool.and_true, Bool.true_and, BEq.rfl, chk_true, decide_true]
  by_cases g2 : y2 < 0
  · exact ⟨-1, by simp only [g2, decide_true, if_true, chk_true], by omega, by omega⟩
  simp only [g2, decide_false, Bool.false_eq_true, if_false, chk_true]
  obtain ⟨y3, e3, h3a, o3⟩ := szSessionS_ok x5 wx5 tx5 y2 (by omega) (by omega)
  simp only [e3, zr55, zo55, okR, isVs, isV, isD, isDs, isOs, resC, outC, nthR, nthO, cellsDV, nthD, asB, asI, asS, asL, Bool.and_true, Bool.true_and, BEq.rfl, chk_true, decide_true]
  by_cases g3 : y3 < 0
  · exact ⟨-1, by simp only [g3, decide_true, if_true, chk_true], by omega, by omega⟩
  simp only [g3, decide_false, Bool.false_eq_true, if_false, chk_true]
  exact ⟨_, rfl, by omega, fun _ => ⟨(o1 (by omega)).1, (o1 (by omega)).2.1, trivial, (o2 (by omega)), (o3 (by omega)), trivial⟩⟩
theorem toTenant_eq (x1 : Int) (x2 : List (List D)) (x3 : Int) (x4 : List (List D)) (x5 : List (List D)) (wx2 : x2.length ≤ 1048576) (tx2 : ∀ r ∈ x2, typL shInode r) (sx2 : ∀ r ∈ x2, szdL shInode r) (wx4 : x4.length ≤ 1048576) (tx4 : ∀ r ∈ x4, typL shNote r) (sx4 : ∀ r ∈ x4, szdL shNote r) (wx5 : x5.length ≤ 1048576) (tx5 : ∀ r ∈ x5, typL shSession r) (sx5 : ∀ r ∈ x5, szdL shSession r) : t24 x1 x2 x3 x4 x5 = some ([.agg [.i .i64 x1, .l x2, .i .i64 x3, .l x4, .l x5]], []) := by
  simp only [t24, ta24, toVol_eq x1 x2 wx2 tx2 sx2, toNoteS_eq x4 wx4 tx4 sx4, toSessionS_eq x5 wx5 tx5 sx5, zr60, zo60, zr61, zo61, zr62, zo62, okR, isVs, isV, isD, isDs, isOs, resC, outC, nthR, nthO, cellsDV, nthD, asB, asI, asS, asL, Bool.and_true, Bool.true_and, BEq.rfl, chk_true, decide_true]
theorem eqTenant_self (x1 : Int) (x2 : List (List D)) (x3 : Int) (x4 : List (List D)) (x5 : List (List D)) (wx2 : x2.length ≤ 1048576) (tx2 : ∀ r ∈ x2, typL shInode r) (sx2 : ∀ r ∈ x2, szdL shInode r) (wx4 : x4.length ≤ 1048576) (tx4 : ∀ r ∈ x4, typL shNote r) (wx5 : x5.length ≤ 1048576) (tx5 : ∀ r ∈ x5, typL shSession r) : t14 x1 x2 x3 x4 x5 x1 x2 x3 x4 x5 = some ([.one (.b true)], []) := by
  simp only [t14, ta14, bne_self_eq_false, Bool.not_true, Bool.false_eq_true, if_false, eqVol_self x1 x2 wx2 tx2 sx2, eqNoteS_self x4 wx4 tx4, eqSessionS_self x5 wx5 tx5, zr42, zo42, zr43, zo43, zr44, zo44, okR, isVs, isV, isD, isDs, isOs, resC, outC, nthR, nthO, cellsDV, nthD, asB, asI, asS, asL, Bool.and_true, Bool.true_and, BEq.rfl, chk_true, decide_true]
end Go.Den.L9

/- Marks. -/
namespace Go.Den.L9
open Go
theorem markText_loop (s7 : ByteArray) (b9 : Bool) (q1 : Int → ByteArray → Bool → Rs) (h1 : ∀ n (s : ByteArray) b, s.size ≤ 1000 → ∃ x, q1 n s b = some ([.one (.s x)], [])) : ∀ (k m : Nat) (n : Int) (s : ByteArray) (v : SV), 0 ≤ n → n < 10 ^ k → n < 4611686018427387904 → k < m → s.size + k ≤ 1000 →
    ∃ x, l86o1 s7 b9 q1 m n s v = some ([.one (.s x)], []) := by
  intro k
  induction k with
  | zero =>
    intro m n s v h0 hn h2 hm hs
    obtain ⟨m, rfl⟩ : ∃ m', m = m' + 1 := ⟨m - 1, by omega⟩
    have e : decide (n > 0) = false := by simp; omega
    simp only [l86o1, e, Bool.false_eq_true, if_false]
    exact h1 _ _ _ (by omega)
  | succ k ih =>
    intro m n s v h0 hn h2 hm hs
    obtain ⟨m, rfl⟩ : ∃ m', m = m' + 1 := ⟨m - 1, by omega⟩
    by_cases e : n > 0
    · have e' : decide (n > 0) = true := decide_eq_true e
      have hb : ∀ x : Int, isBytes [[D.i .u8 x]] = true := fun _ => rfl
      have hz : ∀ x : Int, (⟨(bytesD [[D.i .u8 x]]).toArray⟩ : ByteArray).size = 1 := fun _ => rfl
      simp only [l86o1, e', if_true, hb, chk_true, hz]
      rw [chk_ok (decide_eq_true (by unfold lim; omega)), Int.tdiv_eq_ediv_of_nonneg h0, w64_in (n / 10) (by omega)]
      refine ih m (n / 10) _ _ (by omega) ?_ (by omega) (by omega) (by rw [ByteArray.size_append, hz]; omega)
      rw [Int.ediv_lt_iff_lt_mul (by omega)]
      rw [Int.pow_succ] at hn
      exact hn
    · have e' : decide (n > 0) = false := decide_eq_false e
      simp only [l86o1, e', Bool.false_eq_true, if_false]
      exact h1 _ _ _ (by omega)
noncomputable def mkT (k : Int) : ByteArray := asS (resC (t86 k) 0 0)
theorem markText_eq (k : Int) (h : k < 4611686018427387904) : t86 k = some ([.one (.s (mkT k))], []) := by
  have : ∃ x, t86 k = some ([.one (.s x)], []) := by
    unfold t86
    by_cases e : k ≤ 0
    · have e' : decide (k ≤ 0) = true := decide_eq_true e
      simp only [e', if_true]; exact ⟨_, rfl⟩
    · have e' : decide (k ≤ 0) = false := decide_eq_false e
      simp only [e', Bool.false_eq_true, if_false]
      refine markText_loop _ _ _ ?_ 20 KK k _ _ (by omega) (by omega) h (by rw [KK_eq]; omega) (by show 0 + 20 ≤ 1000; omega)
      intro n s b hs
      have e0 : (⟨#[109]⟩ : ByteArray).size = 1 := rfl
      simp only [e0]
      rw [chk_ok (decide_eq_true (by unfold lim; omega))]
      exact ⟨_, rfl⟩
  obtain ⟨x, hx⟩ := this
  have : mkT k = x := by unfold mkT; rw [hx]; rfl
  rw [this, hx]
theorem markText_w {x : ByteArray} : okR zr86 zo86 (some ([.one (.s x)], [])) = true := rfl
theorem markText_r {x : ByteArray} : asS (resC (some ([.one (.s x)], [])) 0 0) = x := rfl
theorem stR_mid (a b : List (List D)) (r ys : List D) (i off : Nat) (h : i = a.length) : stR (a ++ r :: b) i off ys = a ++ (r.take off ++ ys ++ r.drop (off + ys.length)) :: b := by
  subst h; unfold stR; exact modify_mid _ a r b
theorem getD_mid (a b : List (List D)) (r : List D) (i : Nat) (h : i = a.length) : (a ++ r :: b).getD i [] = r := by
  subst h; simp [List.getD]
theorem typL_len : ∀ (es : List Sh) (r : List D), typL es r → r.length = es.length
  | [], r, h => by rw [show r = [] from h]; rfl
  | e :: es, r, h => by
    obtain ⟨d, r', rfl, _, h⟩ := h
    simp only [List.length_cons, typL_len es r' h]
theorem fst_ok {n : Nat} {xs : List (List D)} (h : ∀ r ∈ xs, r.length = n) : fstSz n xs = true := by
  unfold fstSz
  cases xs with
  | nil => simp
  | cons r b => simpa using h r (by simp)
end Go.Den.L9

/- Marks laid and held. Printed by mark.py. -/
namespace Go.Den.L9
open Go
theorem st2_0 (a b : List (List D)) (i : Nat) (h : i = a.length) (c1 c2 d : D) : stR (a ++ [c1, c2] :: b) i 0 [d] = a ++ [d, c2] :: b := stR_mid a b _ _ i 0 h
theorem st2_1 (a b : List (List D)) (i : Nat) (h : i = a.length) (c1 c2 d : D) : stR (a ++ [c1, c2] :: b) i 1 [d] = a ++ [c1, d] :: b := stR_mid a b _ _ i 1 h
theorem len2 {r : List D} (h : r.length = 2) : ∃ c1 c2, r = [c1, c2] := by
  match r, h with
  | [c1, c2], _ => exact ⟨c1, c2, rfl⟩
noncomputable def rowMDirentS (k : Int) : List D := [.s (mkT (k)), .i .i64 (k + 1)]
noncomputable def markedDirentS : Int → List (List D) → List (List D)
  | _, [] => []
  | k, _ :: b => rowMDirentS k :: markedDirentS (k + 1 + 1) b
theorem markDirentS_loop (n8 : Int) (q : Int → Int → Bool → List (List D) → Rs) (hq : ∀ a b c d, q a b c d = some ([.one (.i .i64 a)], [[.l d]])) : ∀ (b a : List (List D)) (m : Nat) (k : Int) (v10 : SV), (∀ r ∈ b, r.length = 2) → b.length < m → a.length + b.length ≤ 4000000 → 0 ≤ k → k + 2 * (b.length : Int) ≤ 4000000000000000000 →
    la87o0 t86 n8 q m k (a.length : Int) v10 (a ++ b) = some ([.one (.i .i64 (k + 2 * (b.length : Int)))], [[.l (a ++ markedDirentS k b)]]) := by
  intro b
  induction b with
  | nil =>
    intro a m k v10 h hm hl h0 hk
    obtain ⟨m, rfl⟩ : ∃ m', m = m' + 1 := ⟨m - 1, by omega⟩
    have e : decide ((a.length : Int) < ((a ++ ([] : List (List D))).length : Int)) = false := by simp
    have e2 : k + 2 * ((([] : List (List D)).length : Nat) : Int) = k := by simp
    simp only [la87o0, e, Bool.false_eq_true, if_false, hq, e2, markedDirentS]
  | cons r b ih =>
    intro a m k v10 h hm hl h0 hk
    obtain ⟨m, rfl⟩ : ∃ m', m = m' + 1 := ⟨m - 1, by omega⟩
    simp only [List.length_cons] at hm hl hk
    obtain ⟨c1, c2, rfl⟩ := len2 (h r (List.mem_cons_self ..))
    have hb : ∀ r ∈ b, r.length = 2 := fun r hr => h r (List.mem_cons_of_mem _ hr)
    have e1 : ∀ r : List D, decide ((a.length : Int) < ((a ++ r :: b).length : Int)) = true := fun r => decide_eq_true (by simp; omega)
    have e0 : decide (0 ≤ (a.length : Int)) = true := decide_eq_true (by omega)
    have p1 : ∀ r : List D, decide (1 ≤ 2 ∧ a.length < (a ++ r :: b).length) = true := fun r => decide_eq_true (by simp)
    have p2 : ∀ r : List D, decide (2 ≤ 2 ∧ a.length < (a ++ r :: b).length) = true := fun r => decide_eq_true (by simp)
    have u1 : w64 (k + 1) = k + 1 := w64_in _ (by omega)
    have u2 : w64 (k + 1 + 1) = k + 1 + 1 := w64_in _ (by omega)
    have t0 := markText_eq (k) (by omega)
    have hw := w64_succ a.length (by omega)
    simp only [la87o0, e1, e0, if_true, Int.toNat_natCast, p1, p2, u1, u2, t0, markText_w, markText_r, st2_0 a b _ rfl, st2_1 a b _ rfl, Bool.and_true, chk_true, hw]
    have := fun (z0 : SV) => ih (a ++ [rowMDirentS k]) m (k + 1 + 1) z0 hb (by omega) (by simp; omega) (by omega) (by omega)
    have e3 : (a ++ [rowMDirentS k]).length = a.length + 1 := by simp
    simp only [e3, List.append_assoc] at this
    have e4 : k + 2 * ((([c1, c2] :: b).length : Nat) : Int) = k + 1 + 1 + 2 * (b.length : Int) := by simp only [List.length_cons]; omega
    have e5 : a ++ markedDirentS k ([c1, c2] :: b) = (a ++ [rowMDirentS k]) ++ markedDirentS (k + 1 + 1) b := by simp [markedDirentS]
    rw [e4, e5, List.append_assoc]
    exact this _
theorem markDirentS_eq (l : List (List D)) (h : ∀ r ∈ l, r.length = 2) (hl : l.length ≤ 4000000) (k : Int) (h0 : 0 ≤ k) (hk : k + 2 * (l.length : Int) ≤ 4000000000000000000) : t87 l k = some ([.one (.i .i64 (k + 2 * (l.length : Int)))], [[.l (markedDirentS k l)]]) := by
  unfold t87 ta87
  exact markDirentS_loop _ _ (fun _ _ _ _ => rfl) l [] KK k _ h (by rw [KK_eq]; omega) (by simpa using hl) h0 hk
theorem heldDirentS_loop (n9 : Int) (q1 : Int → Int → Bool → Bool → SV → Rs) (q2 : Int → Int → Bool → Bool → Bool → Rs) (q3 : Int → Int → Bool → SV → SV → Rs) (hq : ∀ x0 x1 x2 x3 x4, q3 x0 x1 x2 x3 x4 = some ([.one (.i .i64 x0)], [])) : ∀ (b a : List (List D)) (m : Nat) (k : Int) (v11 v12 v13 : SV) (L : List (List D)) (i : Int), L = a ++ markedDirentS k b → i = (a.length : Int) → b.length < m → a.length + b.length ≤ 4000000 → 0 ≤ k → k + 2 * (b.length : Int) ≤ 4000000000000000000 →
    la88o0 t86 L n9 q1 q2 q3 m k i v11 v12 v13 = some ([.one (.i .i64 (k + 2 * (b.length : Int)))], []) := by
  intro b
  induction b with
  | nil =>
    intro a m k v11 v12 v13 L i hL hi hm hl h0 hk
    subst hL hi
    obtain ⟨m, rfl⟩ : ∃ m', m = m' + 1 := ⟨m - 1, by omega⟩
    have e : decide ((a.length : Int) < ((a ++ ([] : List (List D))).length : Int)) = false := by simp
    have e2 : k + 2 * ((([] : List (List D)).length : Nat) : Int) = k := by simp
    rw [show markedDirentS k [] = [] from rfl]
    simp only [la88o0, e, Bool.false_eq_true, if_false, hq, e2]
  | cons r b ih =>
    intro a m k v11 v12 v13 L i hL hi hm hl h0 hk
    subst hL hi
    obtain ⟨m, rfl⟩ : ∃ m', m = m' + 1 := ⟨m - 1, by omega⟩
    simp only [List.length_cons] at hm hl hk
    have e1 : ∀ (r : List D) (b : List (List D)), decide ((a.length : Int) < ((a ++ r :: b).length : Int)) = true := fun r b => decide_eq_true (by simp; omega)
    have e0 : decide (0 ≤ (a.length : Int)) = true := decide_eq_true (by omega)
    have eg : ∀ (r : List D) (b : List (List D)), (a ++ r :: b).getD a.length [] = r := fun r b => getD_mid a b r _ rfl
    have u1 : w64 (k + 1) = k + 1 := w64_in _ (by omega)
    have u2 : w64 (k + 1 + 1) = k + 1 + 1 := w64_in _ (by omega)
    have t0 := markText_eq (k) (by omega)
    have hw := w64_succ a.length (by omega)
    have this := fun (z0 : SV) (z1 : SV) (z2 : SV) => ih (a ++ [rowMDirentS k]) m (k + 1 + 1) z0 z1 z2 _ _ rfl rfl (by omega) (by simp; omega) (by omega) (by omega)
    have e3 : (a ++ [rowMDirentS k]).length = a.length + 1 := by simp
    simp only [e3, List.append_assoc] at this
    have e4 : k + 2 * (((r :: b).length : Nat) : Int) = k + 1 + 1 + 2 * (b.length : Int) := by simp only [List.length_cons]; omega
    have e5 : a ++ markedDirentS k (r :: b) = a ++ rowMDirentS k :: markedDirentS (k + 1 + 1) b := rfl
    rw [e5]
    have ez : isRow z129 (rowMDirentS k) = true := rfl
    have d0 : asS (nthD (rowMDirentS k) 0) = mkT (k) := rfl
    have d1 : asI (nthD (rowMDirentS k) 1) = k + 1 := rfl
    simp only [la88o0, e1, e0, if_true, Int.toNat_natCast, eg, ez, d0, d1, u1, u2, t0, markText_w, markText_r, bne_self_eq_false, beq_self_eq_true, Bool.not_true, Bool.false_eq_true, if_false, Bool.and_true, chk_true, hw]
    rw [e4]
    exact this _ _ _
theorem heldDirentS_eq (l : List (List D)) (hl : l.length ≤ 4000000) (k : Int) (h0 : 0 ≤ k) (hk : k + 2 * (l.length : Int) ≤ 4000000000000000000) : t88 (markedDirentS k l) k = some ([.one (.i .i64 (k + 2 * (l.length : Int)))], []) := by
  unfold t88 ta88
  exact heldDirentS_loop _ _ _ _ (fun _ _ _ _ _ => rfl) l [] KK k _ _ _ _ _ rfl rfl (by rw [KK_eq]; omega) (by simpa using hl) h0 hk
noncomputable def rowMInodeS (k : Int) (r : List D) : List D := [.i .i64 (k), .i .i64 (k + 1), .i .i64 (k + 1 + 1), .i .i64 (k + 1 + 1 + 1), .i .i64 (k + 1 + 1 + 1 + 1), .s (mkT (k + 1 + 1 + 1 + 1 + 1)), .l (markedDirentS (k + 1 + 1 + 1 + 1 + 1 + 1) (asL (nthD r 6))), .i .i64 (k + 1 + 1 + 1 + 1 + 1 + 1 + 2 * (((asL (nthD r 6))).length : Int)), .i .i64 (k + 1 + 1 + 1 + 1 + 1 + 1 + 2 * (((asL (nthD r 6))).length : Int) + 1)]
def cntRInodeS (r : List D) : Int := 8 + 2 * (((asL (nthD r 6))).length : Int)
noncomputable def markedInodeS : Int → List (List D) → List (List D)
  | _, [] => []
  | k, r :: b => rowMInodeS k r :: markedInodeS (k + cntRInodeS r) b
def cntInodeS : List (List D) → Int
  | [] => 0
  | r :: b => cntRInodeS r + cntInodeS b
theorem cntInodeS_nn : ∀ (b : List (List D)), 0 ≤ cntInodeS b
  | [] => by simp [cntInodeS]
  | r :: b => by
    have h := cntInodeS_nn b
    simp only [cntInodeS, cntRInodeS]
    omega
theorem cntInodeS_le : ∀ (b : List (List D)), (∀ r ∈ b, typL shInode r) → (∀ r ∈ b, szdL shInode r) → cntInodeS b ≤ 2097160 * (b.length : Int)
  | [], _, _ => by simp [cntInodeS]
  | r :: b, h, hs => by
    have ih := cntInodeS_le b (fun r hr => h r (List.mem_cons_of_mem _ hr)) (fun r hr => hs r (List.mem_cons_of_mem _ hr))
    have hz := hs r (List.mem_cons_self ..)
    obtain ⟨x1, x2, x3, x4, x5, x6, x7, x8, x9, rfl, wx6, wx7, tx7⟩ := Inode_row (h r (List.mem_cons_self ..))
    have sx7 : x7.length ≤ 1048576 ∧ ∀ r ∈ x7, szdL shDirent r := hz.2.2.2.2.2.2.1
    have lx7 := sx7.1
    simp only [cntInodeS, cntRInodeS, nthD, asL, List.length_cons]
    omega
theorem st9_0 (a b : List (List D)) (i : Nat) (h : i = a.length) (c1 c2 c3 c4 c5 c6 c7 c8 c9 d : D) : stR (a ++ [c1, c2, c3, c4, c5, c6, c7, c8, c9] :: b) i 0 [d] = a ++ [d, c2, c3, c4, c5, c6, c7, c8, c9] :: b := stR_mid a b _ _ i 0 h
theorem st9_1 (a b : List (List D)) (i : Nat) (h : i = a.length) (c1 c2 c3 c4 c5 c6 c7 c8 c9 d : D) : stR (a ++ [c1, c2, c3, c4, c5, c6, c7, c8, c9] :: b) i 1 [d] = a ++ [c1, d, c3, c4, c5, c6, c7, c8, c9] :: b := stR_mid a b _ _ i 1 h
theorem st9_2 (a b : List (List D)) (i : Nat) (h : i = a.length) (c1 c2 c3 c4 c5 c6 c7 c8 c9 d : D) : stR (a ++ [c1, c2, c3, c4, c5, c6, c7, c8, c9] :: b) i 2 [d] = a ++ [c1, c2, d, c4, c5, c6, c7, c8, c9] :: b := stR_mid a b _ _ i 2 h
theorem st9_3 (a b : List (List D)) (i : Nat) (h : i = a.length) (c1 c2 c3 c4 c5 c6 c7 c8 c9 d : D) : stR (a ++ [c1, c2, c3, c4, c5, c6, c7, c8, c9] :: b) i 3 [d] = a ++ [c1, c2, c3, d, c5, c6, c7, c8, c9] :: b := stR_mid a b _ _ i 3 h
theorem st9_4 (a b : List (List D)) (i : Nat) (h : i = a.length) (c1 c2 c3 c4 c5 c6 c7 c8 c9 d : D) : stR (a ++ [c1, c2, c3, c4, c5, c6, c7, c8, c9] :: b) i 4 [d] = a ++ [c1, c2, c3, c4, d, c6, c7, c8, c9] :: b := stR_mid a b _ _ i 4 h
theorem st9_5 (a b : List (List D)) (i : Nat) (h : i = a.length) (c1 c2 c3 c4 c5 c6 c7 c8 c9 d : D) : stR (a ++ [c1, c2, c3, c4, c5, c6, c7, c8, c9] :: b) i 5 [d] = a ++ [c1, c2, c3, c4, c5, d, c7, c8, c9] :: b := stR_mid a b _ _ i 5 h
theorem st9_6 (a b : List (List D)) (i : Nat) (h : i = a.length) (c1 c2 c3 c4 c5 c6 c7 c8 c9 d : D) : stR (a ++ [c1, c2, c3, c4, c5, c6, c7, c8, c9] :: b) i 6 [d] = a ++ [c1, c2, c3, c4, c5, c6, d, c8, c9] :: b := stR_mid a b _ _ i 6 h
theorem st9_7 (a b : List (List D)) (i : Nat) (h : i = a.length) (c1 c2 c3 c4 c5 c6 c7 c8 c9 d : D) : stR (a ++ [c1, c2, c3, c4, c5, c6, c7, c8, c9] :: b) i 7 [d] = a ++ [c1, c2, c3, c4, c5, c6, c7, d, c9] :: b := stR_mid a b _ _ i 7 h
theorem st9_8 (a b : List (List D)) (i : Nat) (h : i = a.length) (c1 c2 c3 c4 c5 c6 c7 c8 c9 d : D) : stR (a ++ [c1, c2, c3, c4, c5, c6, c7, c8, c9] :: b) i 8 [d] = a ++ [c1, c2, c3, c4, c5, c6, c7, c8, d] :: b := stR_mid a b _ _ i 8 h
theorem markInodeS_loop (n8 : Int) (q : Int → Int → Bool → List (List D) → Rs) (hq : ∀ a b c d, q a b c d = some ([.one (.i .i64 a)], [[.l d]])) : ∀ (b a : List (List D)) (m : Nat) (k : Int) (v10 : SV), (∀ r ∈ b, typL shInode r) → (∀ r ∈ b, szdL shInode r) → b.length < m → a.length + b.length ≤ 4000000 → 0 ≤ k → k + cntInodeS b ≤ 4000000000000000000 →
    la51o0 t86 t87 n8 q m k (a.length : Int) v10 (a ++ b) = some ([.one (.i .i64 (k + cntInodeS b))], [[.l (a ++ markedInodeS k b)]]) := by
  intro b
  induction b with
  | nil =>
    intro a m k v10 h hs hm hl h0 hk
    obtain ⟨m, rfl⟩ : ∃ m', m = m' + 1 := ⟨m - 1, by omega⟩
    have e : decide ((a.length : Int) < ((a ++ ([] : List (List D))).length : Int)) = false := by simp
    have e2 : k + cntInodeS [] = k := by simp [cntInodeS]
    simp only [la51o0, e, Bool.false_eq_true, if_false, hq, e2, markedInodeS]
  | cons r b ih =>
    intro a m k v10 h hs hm hl h0 hk
    obtain ⟨m, rfl⟩ : ∃ m', m = m' + 1 := ⟨m - 1, by omega⟩
    simp only [List.length_cons] at hm hl
    have hz := hs r (List.mem_cons_self ..)
    obtain ⟨x1, x2, x3, x4, x5, x6, x7, x8, x9, rfl, wx6, wx7, tx7⟩ := Inode_row (h r (List.mem_cons_self ..))
    have hb : ∀ r ∈ b, typL shInode r := fun r hr => h r (List.mem_cons_of_mem _ hr)
    have hb2 : ∀ r ∈ b, szdL shInode r := fun r hr => hs r (List.mem_cons_of_mem _ hr)
    have sx7 : x7.length ≤ 1048576 ∧ ∀ r ∈ x7, szdL shDirent r := hz.2.2.2.2.2.2.1
    have lx7 := sx7.1
    have nb := cntInodeS_nn b
    have e6 : k + cntRInodeS [.i .i64 x1, .i .i64 x2, .i .i64 x3, .i .i64 x4, .i .i64 x5, .s x6, .l x7, .i .i64 x8, .i .i64 x9] = k + 1 + 1 + 1 + 1 + 1 + 1 + 2 * (x7.length : Int) + 1 + 1 := by simp only [cntRInodeS, nthD, asL]; omega
    have e7 : k + cntInodeS ([.i .i64 x1, .i .i64 x2, .i .i64 x3, .i .i64 x4, .i .i64 x5, .s x6, .l x7, .i .i64 x8, .i .i64 x9] :: b) = k + 1 + 1 + 1 + 1 + 1 + 1 + 2 * (x7.length : Int) + 1 + 1 + cntInodeS b := by rw [cntInodeS, ← Int.add_assoc, e6]
    rw [e7] at hk
    have e1 : ∀ r : List D, decide ((a.length : Int) < ((a ++ r :: b).length : Int)) = true := fun r => decide_eq_true (by simp; omega)
    have e0 : decide (0 ≤ (a.length : Int)) = true := decide_eq_true (by omega)
    have eg : ∀ (r : List D), (a ++ r :: b).getD a.length [] = r := fun r => getD_mid a b r _ rfl
    have p0 : ∀ r : List D, decide (1 ≤ 9 ∧ a.length < (a ++ r :: b).length) = true := fun r => decide_eq_true (by simp)
    have p1 : ∀ r : List D, decide (2 ≤ 9 ∧ a.length < (a ++ r :: b).length) = true := fun r => decide_eq_true (by simp)
    have p2 : ∀ r : List D, decide (3 ≤ 9 ∧ a.length < (a ++ r :: b).length) = true := fun r => decide_eq_true (by simp)
    have p3 : ∀ r : List D, decide (4 ≤ 9 ∧ a.length < (a ++ r :: b).length) = true := fun r => decide_eq_true (by simp)
    have p4 : ∀ r : List D, decide (5 ≤ 9 ∧ a.length < (a ++ r :: b).length) = true := fun r => decide_eq_true (by simp)
    have p5 : ∀ r : List D, decide (6 ≤ 9 ∧ a.length < (a ++ r :: b).length) = true := fun r => decide_eq_true (by simp)
    have p7 : ∀ r : List D, decide (8 ≤ 9 ∧ a.length < (a ++ r :: b).length) = true := fun r => decide_eq_true (by simp)
    have p8 : ∀ r : List D, decide (9 ≤ 9 ∧ a.length < (a ++ r :: b).length) = true := fun r => decide_eq_true (by simp)
    have u0 : w64 (k + 1) = k + 1 := w64_in _ (by omega)
    have u1 : w64 (k + 1 + 1) = k + 1 + 1 := w64_in _ (by omega)
    have u2 : w64 (k + 1 + 1 + 1) = k + 1 + 1 + 1 := w64_in _ (by omega)
    have u3 : w64 (k + 1 + 1 + 1 + 1) = k + 1 + 1 + 1 + 1 := w64_in _ (by omega)
    have u4 : w64 (k + 1 + 1 + 1 + 1 + 1) = k + 1 + 1 + 1 + 1 + 1 := w64_in _ (by omega)
    have u5 : w64 (k + 1 + 1 + 1 + 1 + 1 + 1) = k + 1 + 1 + 1 + 1 + 1 + 1 := w64_in _ (by omega)
    have u7 : w64 (k + 1 + 1 + 1 + 1 + 1 + 1 + 2 * (x7.length : Int) + 1) = k + 1 + 1 + 1 + 1 + 1 + 1 + 2 * (x7.length : Int) + 1 := w64_in _ (by omega)
    have u8 : w64 (k + 1 + 1 + 1 + 1 + 1 + 1 + 2 * (x7.length : Int) + 1 + 1) = k + 1 + 1 + 1 + 1 + 1 + 1 + 2 * (x7.length : Int) + 1 + 1 := w64_in _ (by omega)
    have t5 := markText_eq (k + 1 + 1 + 1 + 1 + 1) (by omega)
    have m6 := markDirentS_eq x7 (fun r hr => typL_len _ r (tx7 r hr)) (by omega) (k + 1 + 1 + 1 + 1 + 1 + 1) (by omega) (by omega)
    have f6 : fstSz 2 x7 = true := fst_ok (fun r hr => typL_len _ r (tx7 r hr))
    have o6 : ∀ z (y : List (List D)), okR zr87 zo87 (some ([.one (.i .i64 z)], [[.l y]])) = true := fun _ _ => rfl
    have v6 : ∀ z (y : List (List D)), asL (outC (some ([.one (.i .i64 z)], [[.l y]])) 0 0) = y := fun _ _ => rfl
    have i6 : ∀ z (y : List (List D)), asI (resC (some ([.one (.i .i64 z)], [[.l y]])) 0 0) = z := fun _ _ => rfl
    have d6 : ∀ c1 c2 c3 c4 c5 c6 c8 c9 : D, asL (nthD [c1, c2, c3, c4, c5, c6, .l x7, c8, c9] 6) = x7 := fun _ _ _ _ _ _ _ _ => rfl
    have h6 : ∀ c1 c2 c3 c4 c5 c6 c8 c9 : D, decide (7 ≤ ([c1, c2, c3, c4, c5, c6, .l x7, c8, c9] : List D).length) = true := fun _ _ _ _ _ _ _ _ => rfl
    have k6 : ∀ c1 c2 c3 c4 c5 c6 c8 c9 : D, isF [.l []] 6 [c1, c2, c3, c4, c5, c6, .l x7, c8, c9] = true := fun _ _ _ _ _ _ _ _ => rfl
    have hw := w64_succ a.length (by omega)
    simp only [la51o0, e1, e0, eg, if_true, Int.toNat_natCast, p0, p1, p2, p3, p4, p5, p7, p8, u0, u1, u2, u3, u4, u5, u7, u8, t5, markText_w, markText_r, st9_0 a b _ rfl, st9_1 a b _ rfl, st9_2 a b _ rfl, st9_3 a b _ rfl, st9_4 a b _ rfl, st9_5 a b _ rfl, st9_6 a b _ rfl, st9_7 a b _ rfl, st9_8 a b _ rfl, m6, f6, o6, v6, i6, d6, h6, k6, Bool.and_true, chk_true, hw]
    have := fun (z0 : SV) => ih (a ++ [rowMInodeS k [.i .i64 x1, .i .i64 x2, .i .i64 x3, .i .i64 x4, .i .i64 x5, .s x6, .l x7, .i .i64 x8, .i .i64 x9]]) m (k + 1 + 1 + 1 + 1 + 1 + 1 + 2 * (x7.length : Int) + 1 + 1) z0 hb hb2 (by omega) (by simp; omega) (by omega) (by omega)
    have e3 : (a ++ [rowMInodeS k [.i .i64 x1, .i .i64 x2, .i .i64 x3, .i .i64 x4, .i .i64 x5, .s x6, .l x7, .i .i64 x8, .i .i64 x9]]).length = a.length + 1 := by simp
    simp only [e3, List.append_assoc] at this
    have e5 : a ++ markedInodeS k ([.i .i64 x1, .i .i64 x2, .i .i64 x3, .i .i64 x4, .i .i64 x5, .s x6, .l x7, .i .i64 x8, .i .i64 x9] :: b) = (a ++ [rowMInodeS k [.i .i64 x1, .i .i64 x2, .i .i64 x3, .i .i64 x4, .i .i64 x5, .s x6, .l x7, .i .i64 x8, .i .i64 x9]]) ++ markedInodeS (k + 1 + 1 + 1 + 1 + 1 + 1 + 2 * (x7.length : Int) + 1 + 1) b := by rw [markedInodeS, e6, List.append_assoc]; rfl
    rw [e7, e5, List.append_assoc]
    exact this _
theorem markInodeS_eq (l : List (List D)) (h : ∀ r ∈ l, typL shInode r) (hs : ∀ r ∈ l, szdL shInode r) (hl : l.length ≤ 4000000) (k : Int) (h0 : 0 ≤ k) (hk : k + cntInodeS l ≤ 4000000000000000000) : t51 l k = some ([.one (.i .i64 (k + cntInodeS l))], [[.l (markedInodeS k l)]]) := by
  unfold t51 ta51
  exact markInodeS_loop _ _ (fun _ _ _ _ => rfl) l [] KK k _ h hs (by rw [KK_eq]; omega) (by simpa using hl) h0 hk
theorem heldInodeS_loop (n9 : Int) (q1 : Int → Int → Bool → Bool → SV → SV → SV → SV → SV → SV → SV → SV → Rs) (q2 : Int → Int → Bool → Bool → Bool → SV → SV → SV → SV → SV → SV → SV → Rs) (q3 : Int → Int → Bool → Bool → Bool → Bool → SV → SV → SV → SV → SV → SV → Rs) (q4 : Int → Int → Bool → Bool → Bool → Bool → Bool → SV → SV → SV → SV → SV → Rs) (q5 : Int → Int → Bool → Bool → Bool → Bool → Bool → Bool → SV → SV → SV → SV → Rs) (q6 : Int → Int → Bool → Bool → Bool → Bool → Bool → Bool → Bool → SV → SV → SV → Rs) (q7 : Int → Int → Bool → Bool → Bool → Bool → Bool → Bool → Bool → Bool → SV → SV → Rs) (q8 : Int → Int → Bool → Bool → Bool → Bool → Bool → Bool → Bool → Bool → Bool → SV → Rs) (q9 : Int → Int → Bool → Bool → Bool → Bool → Bool → Bool → Bool → Bool → Bool → Bool → Rs) (q10 : Int → Int → Bool → SV → SV → SV → SV → SV → SV → SV → SV → SV → Rs) (hq : ∀ z0 z1 z2 z3 z4 z5 z6 z7 z8 z9 z10 z11, q10 z0 z1 z2 z3 z4 z5 z6 z7 z8 z9 z10 z11 = some ([.one (.i .i64 z0)], [])) : ∀ (b a : List (List D)) (m : Nat) (k : Int) (v11 v12 v13 v14 v15 v16 v17 v18 v19 v20 : SV) (L : List (List D)) (i : Int), (∀ r ∈ b, typL shInode r) → (∀ r ∈ b, szdL shInode r) → L = a ++ markedInodeS k b → i = (a.length : Int) → b.length < m → a.length + b.length ≤ 4000000 → 0 ≤ k → k + cntInodeS b ≤ 4000000000000000000 →
    la52o0 t86 t88 L n9 q1 q2 q3 q4 q5 q6 q7 q8 q9 q10 m k i v11 v12 v13 v14 v15 v16 v17 v18 v19 v20 = some ([.one (.i .i64 (k + cntInodeS b))], []) := by
  intro b
  induction b with
  | nil =>
    intro a m k v11 v12 v13 v14 v15 v16 v17 v18 v19 v20 L i h hs hL hi hm hl h0 hk
    subst hL hi
    obtain ⟨m, rfl⟩ : ∃ m', m = m' + 1 := ⟨m - 1, by omega⟩
    have e : decide ((a.length : Int) < ((a ++ ([] : List (List D))).length : Int)) = false := by simp
    have e2 : k + cntInodeS [] = k := by simp [cntInodeS]
    rw [show markedInodeS k [] = [] from rfl]
    simp only [la52o0, e, Bool.false_eq_true, if_false, hq, e2]
  | cons r b ih =>
    intro a m k v11 v12 v13 v14 v15 v16 v17 v18 v19 v20 L i h hs hL hi hm hl h0 hk
    subst hL hi
    obtain ⟨m, rfl⟩ : ∃ m', m = m' + 1 := ⟨m - 1, by omega⟩
    simp only [List.length_cons] at hm hl
    have hz := hs r (List.mem_cons_self ..)
    obtain ⟨x1, x2, x3, x4, x5, x6, x7, x8, x9, rfl, wx6, wx7, tx7⟩ := Inode_row (h r (List.mem_cons_self ..))
    have hb : ∀ r ∈ b, typL shInode r := fun r hr => h r (List.mem_cons_of_mem _ hr)
    have hb2 : ∀ r ∈ b, szdL shInode r := fun r hr => hs r (List.mem_cons_of_mem _ hr)
    have sx7 : x7.length ≤ 1048576 ∧ ∀ r ∈ x7, szdL shDirent r := hz.2.2.2.2.2.2.1
    have lx7 := sx7.1
    have nb := cntInodeS_nn b
    have e6 : k + cntRInodeS [.i .i64 x1, .i .i64 x2, .i .i64 x3, .i .i64 x4, .i .i64 x5, .s x6, .l x7, .i .i64 x8, .i .i64 x9] = k + 1 + 1 + 1 + 1 + 1 + 1 + 2 * (x7.length : Int) + 1 + 1 := by simp only [cntRInodeS, nthD, asL]; omega
    have e7 : k + cntInodeS ([.i .i64 x1, .i .i64 x2, .i .i64 x3, .i .i64 x4, .i .i64 x5, .s x6, .l x7, .i .i64 x8, .i .i64 x9] :: b) = k + 1 + 1 + 1 + 1 + 1 + 1 + 2 * (x7.length : Int) + 1 + 1 + cntInodeS b := by rw [cntInodeS, ← Int.add_assoc, e6]
    rw [e7] at hk
    have e1 : ∀ (r : List D) (b : List (List D)), decide ((a.length : Int) < ((a ++ r :: b).length : Int)) = true := fun r b => decide_eq_true (by simp; omega)
    have e0 : decide (0 ≤ (a.length : Int)) = true := decide_eq_true (by omega)
    have eg : ∀ (r : List D) (b : List (List D)), (a ++ r :: b).getD a.length [] = r := fun r b => getD_mid a b r _ rfl
    have u0 : w64 (k + 1) = k + 1 := w64_in _ (by omega)
    have u1 : w64 (k + 1 + 1) = k + 1 + 1 := w64_in _ (by omega)
    have u2 : w64 (k + 1 + 1 + 1) = k + 1 + 1 + 1 := w64_in _ (by omega)
    have u3 : w64 (k + 1 + 1 + 1 + 1) = k + 1 + 1 + 1 + 1 := w64_in _ (by omega)
    have u4 : w64 (k + 1 + 1 + 1 + 1 + 1) = k + 1 + 1 + 1 + 1 + 1 := w64_in _ (by omega)
    have u5 : w64 (k + 1 + 1 + 1 + 1 + 1 + 1) = k + 1 + 1 + 1 + 1 + 1 + 1 := w64_in _ (by omega)
    have u7 : w64 (k + 1 + 1 + 1 + 1 + 1 + 1 + 2 * (x7.length : Int) + 1) = k + 1 + 1 + 1 + 1 + 1 + 1 + 2 * (x7.length : Int) + 1 := w64_in _ (by omega)
    have u8 : w64 (k + 1 + 1 + 1 + 1 + 1 + 1 + 2 * (x7.length : Int) + 1 + 1) = k + 1 + 1 + 1 + 1 + 1 + 1 + 2 * (x7.length : Int) + 1 + 1 := w64_in _ (by omega)
    have t5 := markText_eq (k + 1 + 1 + 1 + 1 + 1) (by omega)
    have m6 := heldDirentS_eq x7 (by omega) (k + 1 + 1 + 1 + 1 + 1 + 1) (by omega) (by omega)
    have o6 : ∀ z, okR zr88 zo88 (some ([.one (.i .i64 z)], [])) = true := fun _ => rfl
    have i6 : ∀ z, asI (resC (some ([.one (.i .i64 z)], [])) 0 0) = z := fun _ => rfl
    have n6 : decide (k + 1 + 1 + 1 + 1 + 1 + 1 + 2 * (x7.length : Int) < 0) = false := decide_eq_false (by omega)
    have hw := w64_succ a.length (by omega)
    have this := fun (z0 : SV) (z1 : SV) (z2 : SV) (z3 : SV) (z4 : SV) (z5 : SV) (z6 : SV) (z7 : SV) (z8 : SV) (z9 : SV) => ih (a ++ [rowMInodeS k [.i .i64 x1, .i .i64 x2, .i .i64 x3, .i .i64 x4, .i .i64 x5, .s x6, .l x7, .i .i64 x8, .i .i64 x9]]) m (k + 1 + 1 + 1 + 1 + 1 + 1 + 2 * (x7.length : Int) + 1 + 1) z0 z1 z2 z3 z4 z5 z6 z7 z8 z9 _ _ hb hb2 rfl rfl (by omega) (by simp; omega) (by omega) (by omega)
    have e3 : (a ++ [rowMInodeS k [.i .i64 x1, .i .i64 x2, .i .i64 x3, .i .i64 x4, .i .i64 x5, .s x6, .l x7, .i .i64 x8, .i .i64 x9]]).length = a.length + 1 := by simp
    simp only [e3, List.append_assoc] at this
    have e5 : a ++ markedInodeS k ([.i .i64 x1, .i .i64 x2, .i .i64 x3, .i .i64 x4, .i .i64 x5, .s x6, .l x7, .i .i64 x8, .i .i64 x9] :: b) = a ++ rowMInodeS k [.i .i64 x1, .i .i64 x2, .i .i64 x3, .i .i64 x4, .i .i64 x5, .s x6, .l x7, .i .i64 x8, .i .i64 x9] :: markedInodeS (k + 1 + 1 + 1 + 1 + 1 + 1 + 2 * (x7.length : Int) + 1 + 1) b := by rw [markedInodeS, e6]
    rw [e5]
    have ez : isRow z64 (rowMInodeS k [.i .i64 x1, .i .i64 x2, .i .i64 x3, .i .i64 x4, .i .i64 x5, .s x6, .l x7, .i .i64 x8, .i .i64 x9]) = true := rfl
    have d0 : asI (nthD (rowMInodeS k [.i .i64 x1, .i .i64 x2, .i .i64 x3, .i .i64 x4, .i .i64 x5, .s x6, .l x7, .i .i64 x8, .i .i64 x9]) 0) = (k) := rfl
    have d1 : asI (nthD (rowMInodeS k [.i .i64 x1, .i .i64 x2, .i .i64 x3, .i .i64 x4, .i .i64 x5, .s x6, .l x7, .i .i64 x8, .i .i64 x9]) 1) = (k + 1) := rfl
    have d2 : asI (nthD (rowMInodeS k [.i .i64 x1, .i .i64 x2, .i .i64 x3, .i .i64 x4, .i .i64 x5, .s x6, .l x7, .i .i64 x8, .i .i64 x9]) 2) = (k + 1 + 1) := rfl
    have d3 : asI (nthD (rowMInodeS k [.i .i64 x1, .i .i64 x2, .i .i64 x3, .i .i64 x4, .i .i64 x5, .s x6, .l x7, .i .i64 x8, .i .i64 x9]) 3) = (k + 1 + 1 + 1) := rfl
    have d4 : asI (nthD (rowMInodeS k [.i .i64 x1, .i .i64 x2, .i .i64 x3, .i .i64 x4, .i .i64 x5, .s x6, .l x7, .i .i64 x8, .i .i64 x9]) 4) = (k + 1 + 1 + 1 + 1) := rfl
    have d5 : asS (nthD (rowMInodeS k [.i .i64 x1, .i .i64 x2, .i .i64 x3, .i .i64 x4, .i .i64 x5, .s x6, .l x7, .i .i64 x8, .i .i64 x9]) 5) = (mkT (k + 1 + 1 + 1 + 1 + 1)) := rfl
    have d6 : asL (nthD (rowMInodeS k [.i .i64 x1, .i .i64 x2, .i .i64 x3, .i .i64 x4, .i .i64 x5, .s x6, .l x7, .i .i64 x8, .i .i64 x9]) 6) = (markedDirentS (k + 1 + 1 + 1 + 1 + 1 + 1) x7) := rfl
    have d7 : asI (nthD (rowMInodeS k [.i .i64 x1, .i .i64 x2, .i .i64 x3, .i .i64 x4, .i .i64 x5, .s x6, .l x7, .i .i64 x8, .i .i64 x9]) 7) = (k + 1 + 1 + 1 + 1 + 1 + 1 + 2 * (x7.length : Int)) := rfl
    have d8 : asI (nthD (rowMInodeS k [.i .i64 x1, .i .i64 x2, .i .i64 x3, .i .i64 x4, .i .i64 x5, .s x6, .l x7, .i .i64 x8, .i .i64 x9]) 8) = (k + 1 + 1 + 1 + 1 + 1 + 1 + 2 * (x7.length : Int) + 1) := rfl
    simp only [la52o0, e1, e0, if_true, Int.toNat_natCast, eg, ez, d0, d1, d2, d3, d4, d5, d6, d7, d8, u0, u1, u2, u3, u4, u5, u7, u8, t5, markText_w, markText_r, m6, o6, i6, n6, bne_self_eq_false, beq_self_eq_true, Bool.not_true, Bool.false_eq_true, if_false, Bool.and_true, chk_true, hw]
    rw [e7]
    exact this _ _ _ _ _ _ _ _ _ _
theorem heldInodeS_eq (l : List (List D)) (h : ∀ r ∈ l, typL shInode r) (hs : ∀ r ∈ l, szdL shInode r) (hl : l.length ≤ 4000000) (k : Int) (h0 : 0 ≤ k) (hk : k + cntInodeS l ≤ 4000000000000000000) : t52 (markedInodeS k l) k = some ([.one (.i .i64 (k + cntInodeS l))], []) := by
  unfold t52 ta52
  exact heldInodeS_loop _ _ _ _ _ _ _ _ _ _ _ (fun _ _ _ _ _ _ _ _ _ _ _ _ => rfl) l [] KK k _ _ _ _ _ _ _ _ _ _ _ _ h hs rfl rfl (by rw [KK_eq]; omega) (by simpa using hl) h0 hk
theorem st5_0 (a b : List (List D)) (i : Nat) (h : i = a.length) (c1 c2 c3 c4 c5 d : D) : stR (a ++ [c1, c2, c3, c4, c5] :: b) i 0 [d] = a ++ [d, c2, c3, c4, c5] :: b := stR_mid a b _ _ i 0 h
theorem st5_1 (a b : List (List D)) (i : Nat) (h : i = a.length) (c1 c2 c3 c4 c5 d : D) : stR (a ++ [c1, c2, c3, c4, c5] :: b) i 1 [d] = a ++ [c1, d, c3, c4, c5] :: b := stR_mid a b _ _ i 1 h
theorem st5_2 (a b : List (List D)) (i : Nat) (h : i = a.length) (c1 c2 c3 c4 c5 d : D) : stR (a ++ [c1, c2, c3, c4, c5] :: b) i 2 [d] = a ++ [c1, c2, d, c4, c5] :: b := stR_mid a b _ _ i 2 h
theorem st5_3 (a b : List (List D)) (i : Nat) (h : i = a.length) (c1 c2 c3 c4 c5 d : D) : stR (a ++ [c1, c2, c3, c4, c5] :: b) i 3 [d] = a ++ [c1, c2, c3, d, c5] :: b := stR_mid a b _ _ i 3 h
theorem st5_4 (a b : List (List D)) (i : Nat) (h : i = a.length) (c1 c2 c3 c4 c5 d : D) : stR (a ++ [c1, c2, c3, c4, c5] :: b) i 4 [d] = a ++ [c1, c2, c3, c4, d] :: b := stR_mid a b _ _ i 4 h
theorem len5 {r : List D} (h : r.length = 5) : ∃ c1 c2 c3 c4 c5, r = [c1, c2, c3, c4, c5] := by
  match r, h with
  | [c1, c2, c3, c4, c5], _ => exact ⟨c1, c2, c3, c4, c5, rfl⟩
noncomputable def rowMNoteS (k : Int) : List D := [.i .i64 (k), .i .i64 (k + 1), .i .i64 (k + 1 + 1), .i .i64 (k + 1 + 1 + 1), .i .i64 (k + 1 + 1 + 1 + 1)]
noncomputable def markedNoteS : Int → List (List D) → List (List D)
  | _, [] => []
  | k, _ :: b => rowMNoteS k :: markedNoteS (k + 1 + 1 + 1 + 1 + 1) b
theorem markNoteS_loop (n8 : Int) (q : Int → Int → Bool → List (List D) → Rs) (hq : ∀ a b c d, q a b c d = some ([.one (.i .i64 a)], [[.l d]])) : ∀ (b a : List (List D)) (m : Nat) (k : Int) (v10 : SV), (∀ r ∈ b, r.length = 5) → b.length < m → a.length + b.length ≤ 4000000 → 0 ≤ k → k + 5 * (b.length : Int) ≤ 4000000000000000000 →
    l46o0 n8 q m k (a.length : Int) v10 (a ++ b) = some ([.one (.i .i64 (k + 5 * (b.length : Int)))], [[.l (a ++ markedNoteS k b)]]) := by
  intro b
  induction b with
  | nil =>
    intro a m k v10 h hm hl h0 hk
    obtain ⟨m, rfl⟩ : ∃ m', m = m' + 1 := ⟨m - 1, by omega⟩
    have e : decide ((a.length : Int) < ((a ++ ([] : List (List D))).length : Int)) = false := by simp
    have e2 : k + 5 * ((([] : List (List D)).length : Nat) : Int) = k := by simp
    simp only [l46o0, e, Bool.false_eq_true, if_false, hq, e2, markedNoteS]
  | cons r b ih =>
    intro a m k v10 h hm hl h0 hk
    obtain ⟨m, rfl⟩ : ∃ m', m = m' + 1 := ⟨m - 1, by omega⟩
    simp only [List.length_cons] at hm hl hk
    obtain ⟨c1, c2, c3, c4, c5, rfl⟩ := len5 (h r (List.mem_cons_self ..))
    have hb : ∀ r ∈ b, r.length = 5 := fun r hr => h r (List.mem_cons_of_mem _ hr)
    have e1 : ∀ r : List D, decide ((a.length : Int) < ((a ++ r :: b).length : Int)) = true := fun r => decide_eq_true (by simp; omega)
    have e0 : decide (0 ≤ (a.length : Int)) = true := decide_eq_true (by omega)
    have p1 : ∀ r : List D, decide (1 ≤ 5 ∧ a.length < (a ++ r :: b).length) = true := fun r => decide_eq_true (by simp)
    have p2 : ∀ r : List D, decide (2 ≤ 5 ∧ a.length < (a ++ r :: b).length) = true := fun r => decide_eq_true (by simp)
    have p3 : ∀ r : List D, decide (3 ≤ 5 ∧ a.length < (a ++ r :: b).length) = true := fun r => decide_eq_true (by simp)
    have p4 : ∀ r : List D, decide (4 ≤ 5 ∧ a.length < (a ++ r :: b).length) = true := fun r => decide_eq_true (by simp)
    have p5 : ∀ r : List D, decide (5 ≤ 5 ∧ a.length < (a ++ r :: b).length) = true := fun r => decide_eq_true (by simp)
    have u1 : w64 (k + 1) = k + 1 := w64_in _ (by omega)
    have u2 : w64 (k + 1 + 1) = k + 1 + 1 := w64_in _ (by omega)
    have u3 : w64 (k + 1 + 1 + 1) = k + 1 + 1 + 1 := w64_in _ (by omega)
    have u4 : w64 (k + 1 + 1 + 1 + 1) = k + 1 + 1 + 1 + 1 := w64_in _ (by omega)
    have u5 : w64 (k + 1 + 1 + 1 + 1 + 1) = k + 1 + 1 + 1 + 1 + 1 := w64_in _ (by omega)
    have hw := w64_succ a.length (by omega)
    simp only [l46o0, e1, e0, if_true, Int.toNat_natCast, p1, p2, p3, p4, p5, u1, u2, u3, u4, u5, st5_0 a b _ rfl, st5_1 a b _ rfl, st5_2 a b _ rfl, st5_3 a b _ rfl, st5_4 a b _ rfl, Bool.and_true, chk_true, hw]
    have := fun (z0 : SV) => ih (a ++ [rowMNoteS k]) m (k + 1 + 1 + 1 + 1 + 1) z0 hb (by omega) (by simp; omega) (by omega) (by omega)
    have e3 : (a ++ [rowMNoteS k]).length = a.length + 1 := by simp
    simp only [e3, List.append_assoc] at this
    have e4 : k + 5 * ((([c1, c2, c3, c4, c5] :: b).length : Nat) : Int) = k + 1 + 1 + 1 + 1 + 1 + 5 * (b.length : Int) := by simp only [List.length_cons]; omega
    have e5 : a ++ markedNoteS k ([c1, c2, c3, c4, c5] :: b) = (a ++ [rowMNoteS k]) ++ markedNoteS (k + 1 + 1 + 1 + 1 + 1) b := by simp [markedNoteS]
    rw [e4, e5, List.append_assoc]
    exact this _
theorem markNoteS_eq (l : List (List D)) (h : ∀ r ∈ l, r.length = 5) (hl : l.length ≤ 4000000) (k : Int) (h0 : 0 ≤ k) (hk : k + 5 * (l.length : Int) ≤ 4000000000000000000) : t46 l k = some ([.one (.i .i64 (k + 5 * (l.length : Int)))], [[.l (markedNoteS k l)]]) := by
  unfold t46
  exact markNoteS_loop _ _ (fun _ _ _ _ => rfl) l [] KK k _ h (by rw [KK_eq]; omega) (by simpa using hl) h0 hk
theorem heldNoteS_loop (n9 : Int) (q1 : Int → Int → Bool → Bool → SV → SV → SV → SV → Rs) (q2 : Int → Int → Bool → Bool → Bool → SV → SV → SV → Rs) (q3 : Int → Int → Bool → Bool → Bool → Bool → SV → SV → Rs) (q4 : Int → Int → Bool → Bool → Bool → Bool → Bool → SV → Rs) (q5 : Int → Int → Bool → Bool → Bool → Bool → Bool → Bool → Rs) (q6 : Int → Int → Bool → SV → SV → SV → SV → SV → Rs) (hq : ∀ x0 x1 x2 x3 x4 x5 x6 x7, q6 x0 x1 x2 x3 x4 x5 x6 x7 = some ([.one (.i .i64 x0)], [])) : ∀ (b a : List (List D)) (m : Nat) (k : Int) (v11 v12 v13 v14 v15 v16 : SV) (L : List (List D)) (i : Int), L = a ++ markedNoteS k b → i = (a.length : Int) → b.length < m → a.length + b.length ≤ 4000000 → 0 ≤ k → k + 5 * (b.length : Int) ≤ 4000000000000000000 →
    l49o0 L n9 q1 q2 q3 q4 q5 q6 m k i v11 v12 v13 v14 v15 v16 = some ([.one (.i .i64 (k + 5 * (b.length : Int)))], []) := by
  intro b
  induction b with
  | nil =>
    intro a m k v11 v12 v13 v14 v15 v16 L i hL hi hm hl h0 hk
    subst hL hi
    obtain ⟨m, rfl⟩ : ∃ m', m = m' + 1 := ⟨m - 1, by omega⟩
    have e : decide ((a.length : Int) < ((a ++ ([] : List (List D))).length : Int)) = false := by simp
    have e2 : k + 5 * ((([] : List (List D)).length : Nat) : Int) = k := by simp
    rw [show markedNoteS k [] = [] from rfl]
    simp only [l49o0, e, Bool.false_eq_true, if_false, hq, e2]
  | cons r b ih =>
    intro a m k v11 v12 v13 v14 v15 v16 L i hL hi hm hl h0 hk
    subst hL hi
    obtain ⟨m, rfl⟩ : ∃ m', m = m' + 1 := ⟨m - 1, by omega⟩
    simp only [List.length_cons] at hm hl hk
    have e1 : ∀ (r : List D) (b : List (List D)), decide ((a.length : Int) < ((a ++ r :: b).length : Int)) = true := fun r b => decide_eq_true (by simp; omega)
    have e0 : decide (0 ≤ (a.length : Int)) = true := decide_eq_true (by omega)
    have eg : ∀ (r : List D) (b : List (List D)), (a ++ r :: b).getD a.length [] = r := fun r b => getD_mid a b r _ rfl
    have u1 : w64 (k + 1) = k + 1 := w64_in _ (by omega)
    have u2 : w64 (k + 1 + 1) = k + 1 + 1 := w64_in _ (by omega)
    have u3 : w64 (k + 1 + 1 + 1) = k + 1 + 1 + 1 := w64_in _ (by omega)
    have u4 : w64 (k + 1 + 1 + 1 + 1) = k + 1 + 1 + 1 + 1 := w64_in _ (by omega)
    have u5 : w64 (k + 1 + 1 + 1 + 1 + 1) = k + 1 + 1 + 1 + 1 + 1 := w64_in _ (by omega)
    have hw := w64_succ a.length (by omega)
    have this := fun (z0 : SV) (z1 : SV) (z2 : SV) (z3 : SV) (z4 : SV) (z5 : SV) => ih (a ++ [rowMNoteS k]) m (k + 1 + 1 + 1 + 1 + 1) z0 z1 z2 z3 z4 z5 _ _ rfl rfl (by omega) (by simp; omega) (by omega) (by omega)
    have e3 : (a ++ [rowMNoteS k]).length = a.length + 1 := by simp
    simp only [e3, List.append_assoc] at this
    have e4 : k + 5 * (((r :: b).length : Nat) : Int) = k + 1 + 1 + 1 + 1 + 1 + 5 * (b.length : Int) := by simp only [List.length_cons]; omega
    have e5 : a ++ markedNoteS k (r :: b) = a ++ rowMNoteS k :: markedNoteS (k + 1 + 1 + 1 + 1 + 1) b := rfl
    rw [e5]
    have ez : isRow z90 (rowMNoteS k) = true := rfl
    have d0 : asI (nthD (rowMNoteS k) 0) = k := rfl
    have d1 : asI (nthD (rowMNoteS k) 1) = k + 1 := rfl
    have d2 : asI (nthD (rowMNoteS k) 2) = k + 1 + 1 := rfl
    have d3 : asI (nthD (rowMNoteS k) 3) = k + 1 + 1 + 1 := rfl
    have d4 : asI (nthD (rowMNoteS k) 4) = k + 1 + 1 + 1 + 1 := rfl
    simp only [l49o0, e1, e0, if_true, Int.toNat_natCast, eg, ez, d0, d1, d2, d3, d4, u1, u2, u3, u4, u5, bne_self_eq_false, beq_self_eq_true, Bool.not_true, Bool.false_eq_true, if_false, Bool.and_true, chk_true, hw]
    rw [e4]
    exact this _ _ _ _ _ _
theorem heldNoteS_eq (l : List (List D)) (hl : l.length ≤ 4000000) (k : Int) (h0 : 0 ≤ k) (hk : k + 5 * (l.length : Int) ≤ 4000000000000000000) : t49 (markedNoteS k l) k = some ([.one (.i .i64 (k + 5 * (l.length : Int)))], []) := by
  unfold t49
  exact heldNoteS_loop _ _ _ _ _ _ _ (fun _ _ _ _ _ _ _ _ => rfl) l [] KK k _ _ _ _ _ _ _ _ rfl rfl (by rw [KK_eq]; omega) (by simpa using hl) h0 hk
noncomputable def rowMSessionS (k : Int) : List D := [.i .i64 (k), .i .i64 (k + 1), .i .i64 (k + 1 + 1), .i .i64 (k + 1 + 1 + 1), .s (mkT (k + 1 + 1 + 1 + 1))]
noncomputable def markedSessionS : Int → List (List D) → List (List D)
  | _, [] => []
  | k, _ :: b => rowMSessionS k :: markedSessionS (k + 1 + 1 + 1 + 1 + 1) b
theorem markSessionS_loop (n8 : Int) (q : Int → Int → Bool → List (List D) → Rs) (hq : ∀ a b c d, q a b c d = some ([.one (.i .i64 a)], [[.l d]])) : ∀ (b a : List (List D)) (m : Nat) (k : Int) (v10 : SV), (∀ r ∈ b, r.length = 5) → b.length < m → a.length + b.length ≤ 4000000 → 0 ≤ k → k + 5 * (b.length : Int) ≤ 4000000000000000000 →
    la47o0 t86 n8 q m k (a.length : Int) v10 (a ++ b) = some ([.one (.i .i64 (k + 5 * (b.length : Int)))], [[.l (a ++ markedSessionS k b)]]) := by
  intro b
  induction b with
  | nil =>
    intro a m k v10 h hm hl h0 hk
    obtain ⟨m, rfl⟩ : ∃ m', m = m' + 1 := ⟨m - 1, by omega⟩
    have e : decide ((a.length : Int) < ((a ++ ([] : List (List D))).length : Int)) = false := by simp
    have e2 : k + 5 * ((([] : List (List D)).length : Nat) : Int) = k := by simp
    simp only [la47o0, e, Bool.false_eq_true, if_false, hq, e2, markedSessionS]
  | cons r b ih =>
    intro a m k v10 h hm hl h0 hk
    obtain ⟨m, rfl⟩ : ∃ m', m = m' + 1 := ⟨m - 1, by omega⟩
    simp only [List.length_cons] at hm hl hk
    obtain ⟨c1, c2, c3, c4, c5, rfl⟩ := len5 (h r (List.mem_cons_self ..))
    have hb : ∀ r ∈ b, r.length = 5 := fun r hr => h r (List.mem_cons_of_mem _ hr)
    have e1 : ∀ r : List D, decide ((a.length : Int) < ((a ++ r :: b).length : Int)) = true := fun r => decide_eq_true (by simp; omega)
    have e0 : decide (0 ≤ (a.length : Int)) = true := decide_eq_true (by omega)
    have p1 : ∀ r : List D, decide (1 ≤ 5 ∧ a.length < (a ++ r :: b).length) = true := fun r => decide_eq_true (by simp)
    have p2 : ∀ r : List D, decide (2 ≤ 5 ∧ a.length < (a ++ r :: b).length) = true := fun r => decide_eq_true (by simp)
    have p3 : ∀ r : List D, decide (3 ≤ 5 ∧ a.length < (a ++ r :: b).length) = true := fun r => decide_eq_true (by simp)
    have p4 : ∀ r : List D, decide (4 ≤ 5 ∧ a.length < (a ++ r :: b).length) = true := fun r => decide_eq_true (by simp)
    have p5 : ∀ r : List D, decide (5 ≤ 5 ∧ a.length < (a ++ r :: b).length) = true := fun r => decide_eq_true (by simp)
    have u1 : w64 (k + 1) = k + 1 := w64_in _ (by omega)
    have u2 : w64 (k + 1 + 1) = k + 1 + 1 := w64_in _ (by omega)
    have u3 : w64 (k + 1 + 1 + 1) = k + 1 + 1 + 1 := w64_in _ (by omega)
    have u4 : w64 (k + 1 + 1 + 1 + 1) = k + 1 + 1 + 1 + 1 := w64_in _ (by omega)
    have u5 : w64 (k + 1 + 1 + 1 + 1 + 1) = k + 1 + 1 + 1 + 1 + 1 := w64_in _ (by omega)
    have t4 := markText_eq (k + 1 + 1 + 1 + 1) (by omega)
    have hw := w64_succ a.length (by omega)
    simp only [la47o0, e1, e0, if_true, Int.toNat_natCast, p1, p2, p3, p4, p5, u1, u2, u3, u4, u5, t4, markText_w, markText_r, st5_0 a b _ rfl, st5_1 a b _ rfl, st5_2 a b _ rfl, st5_3 a b _ rfl, st5_4 a b _ rfl, Bool.and_true, chk_true, hw]
    have := fun (z0 : SV) => ih (a ++ [rowMSessionS k]) m (k + 1 + 1 + 1 + 1 + 1) z0 hb (by omega) (by simp; omega) (by omega) (by omega)
    have e3 : (a ++ [rowMSessionS k]).length = a.length + 1 := by simp
    simp only [e3, List.append_assoc] at this
    have e4 : k + 5 * ((([c1, c2, c3, c4, c5] :: b).length : Nat) : Int) = k + 1 + 1 + 1 + 1 + 1 + 5 * (b.length : Int) := by simp only [List.length_cons]; omega
    have e5 : a ++ markedSessionS k ([c1, c2, c3, c4, c5] :: b) = (a ++ [rowMSessionS k]) ++ markedSessionS (k + 1 + 1 + 1 + 1 + 1) b := by simp [markedSessionS]
    rw [e4, e5, List.append_assoc]
    exact this _
theorem markSessionS_eq (l : List (List D)) (h : ∀ r ∈ l, r.length = 5) (hl : l.length ≤ 4000000) (k : Int) (h0 : 0 ≤ k) (hk : k + 5 * (l.length : Int) ≤ 4000000000000000000) : t47 l k = some ([.one (.i .i64 (k + 5 * (l.length : Int)))], [[.l (markedSessionS k l)]]) := by
  unfold t47 ta47
  exact markSessionS_loop _ _ (fun _ _ _ _ => rfl) l [] KK k _ h (by rw [KK_eq]; omega) (by simpa using hl) h0 hk
theorem heldSessionS_loop (n9 : Int) (q1 : Int → Int → Bool → Bool → SV → SV → SV → SV → Rs) (q2 : Int → Int → Bool → Bool → Bool → SV → SV → SV → Rs) (q3 : Int → Int → Bool → Bool → Bool → Bool → SV → SV → Rs) (q4 : Int → Int → Bool → Bool → Bool → Bool → Bool → SV → Rs) (q5 : Int → Int → Bool → Bool → Bool → Bool → Bool → Bool → Rs) (q6 : Int → Int → Bool → SV → SV → SV → SV → SV → Rs) (hq : ∀ x0 x1 x2 x3 x4 x5 x6 x7, q6 x0 x1 x2 x3 x4 x5 x6 x7 = some ([.one (.i .i64 x0)], [])) : ∀ (b a : List (List D)) (m : Nat) (k : Int) (v11 v12 v13 v14 v15 v16 : SV) (L : List (List D)) (i : Int), L = a ++ markedSessionS k b → i = (a.length : Int) → b.length < m → a.length + b.length ≤ 4000000 → 0 ≤ k → k + 5 * (b.length : Int) ≤ 4000000000000000000 →
    la50o0 t86 L n9 q1 q2 q3 q4 q5 q6 m k i v11 v12 v13 v14 v15 v16 = some ([.one (.i .i64 (k + 5 * (b.length : Int)))], []) := by
  intro b
  induction b with
  | nil =>
    intro a m k v11 v12 v13 v14 v15 v16 L i hL hi hm hl h0 hk
    subst hL hi
    obtain ⟨m, rfl⟩ : ∃ m', m = m' + 1 := ⟨m - 1, by omega⟩
    have e : decide ((a.length : Int) < ((a ++ ([] : List (List D))).length : Int)) = false := by simp
    have e2 : k + 5 * ((([] : List (List D)).length : Nat) : Int) = k := by simp
    rw [show markedSessionS k [] = [] from rfl]
    simp only [la50o0, e, Bool.false_eq_true, if_false, hq, e2]
  | cons r b ih =>
    intro a m k v11 v12 v13 v14 v15 v16 L i hL hi hm hl h0 hk
    subst hL hi
    obtain ⟨m, rfl⟩ : ∃ m', m = m' + 1 := ⟨m - 1, by omega⟩
    simp only [List.length_cons] at hm hl hk
    have e1 : ∀ (r : List D) (b : List (List D)), decide ((a.length : Int) < ((a ++ r :: b).length : Int)) = true := fun r b => decide_eq_true (by simp; omega)
    have e0 : decide (0 ≤ (a.length : Int)) = true := decide_eq_true (by omega)
    have eg : ∀ (r : List D) (b : List (List D)), (a ++ r :: b).getD a.length [] = r := fun r b => getD_mid a b r _ rfl
    have u1 : w64 (k + 1) = k + 1 := w64_in _ (by omega)
    have u2 : w64 (k + 1 + 1) = k + 1 + 1 := w64_in _ (by omega)
    have u3 : w64 (k + 1 + 1 + 1) = k + 1 + 1 + 1 := w64_in _ (by omega)
    have u4 : w64 (k + 1 + 1 + 1 + 1) = k + 1 + 1 + 1 + 1 := w64_in _ (by omega)
    have u5 : w64 (k + 1 + 1 + 1 + 1 + 1) = k + 1 + 1 + 1 + 1 + 1 := w64_in _ (by omega)
    have t4 := markText_eq (k + 1 + 1 + 1 + 1) (by omega)
    have hw := w64_succ a.length (by omega)
    have this := fun (z0 : SV) (z1 : SV) (z2 : SV) (z3 : SV) (z4 : SV) (z5 : SV) => ih (a ++ [rowMSessionS k]) m (k + 1 + 1 + 1 + 1 + 1) z0 z1 z2 z3 z4 z5 _ _ rfl rfl (by omega) (by simp; omega) (by omega) (by omega)
    have e3 : (a ++ [rowMSessionS k]).length = a.length + 1 := by simp
    simp only [e3, List.append_assoc] at this
    have e4 : k + 5 * (((r :: b).length : Nat) : Int) = k + 1 + 1 + 1 + 1 + 1 + 5 * (b.length : Int) := by simp only [List.length_cons]; omega
    have e5 : a ++ markedSessionS k (r :: b) = a ++ rowMSessionS k :: markedSessionS (k + 1 + 1 + 1 + 1 + 1) b := rfl
    rw [e5]
    have ez : isRow z81 (rowMSessionS k) = true := rfl
    have d0 : asI (nthD (rowMSessionS k) 0) = k := rfl
    have d1 : asI (nthD (rowMSessionS k) 1) = k + 1 := rfl
    have d2 : asI (nthD (rowMSessionS k) 2) = k + 1 + 1 := rfl
    have d3 : asI (nthD (rowMSessionS k) 3) = k + 1 + 1 + 1 := rfl
    have d4 : asS (nthD (rowMSessionS k) 4) = mkT (k + 1 + 1 + 1 + 1) := rfl
    simp only [la50o0, e1, e0, if_true, Int.toNat_natCast, eg, ez, d0, d1, d2, d3, d4, u1, u2, u3, u4, u5, t4, markText_w, markText_r, bne_self_eq_false, beq_self_eq_true, Bool.not_true, Bool.false_eq_true, if_false, Bool.and_true, chk_true, hw]
    rw [e4]
    exact this _ _ _ _ _ _
theorem heldSessionS_eq (l : List (List D)) (hl : l.length ≤ 4000000) (k : Int) (h0 : 0 ≤ k) (hk : k + 5 * (l.length : Int) ≤ 4000000000000000000) : t50 (markedSessionS k l) k = some ([.one (.i .i64 (k + 5 * (l.length : Int)))], []) := by
  unfold t50 ta50
  exact heldSessionS_loop _ _ _ _ _ _ _ (fun _ _ _ _ _ _ _ _ => rfl) l [] KK k _ _ _ _ _ _ _ _ rfl rfl (by rw [KK_eq]; omega) (by simpa using hl) h0 hk
theorem markVol_eq (x1 : Int) (x2 : List (List D)) (tx2 : ∀ r ∈ x2, typL shInode r) (sx2 : ∀ r ∈ x2, szdL shInode r) (wx2 : x2.length ≤ 1048576) (k : Int) (h0 : 0 ≤ k) (hk : k ≤ 1000000000000) : t45 x1 x2 k = some ([.one (.i .i64 (k + cntInodeS x2))], [[.i .i64 x1, .l (markedInodeS (k) x2)]]) := by
  have bx2 := cntInodeS_le x2 tx2 sx2; have nx2 := cntInodeS_nn x2
  simp only [t45, ta45, markInodeS_eq x2 tx2 sx2 (by omega) (k) (by omega) (by omega), zr51, zo51, okR, isVs, isV, isD, isDs, isOs, resC, outC, nthR, nthO, cellsDV, nthD, asB, asI, asS, asL, Bool.and_true, Bool.true_and, BEq.rfl, chk_true, decide_true]
theorem heldVol_eq (x1 : Int) (x2 : List (List D)) (tx2 : ∀ r ∈ x2, typL shInode r) (sx2 : ∀ r ∈ x2, szdL shInode r) (wx2 : x2.length ≤ 1048576) (k : Int) (h0 : 0 ≤ k) (hk : k ≤ 1000000000000) : t48 x1 (markedInodeS (k) x2) k = some ([.one (.i .i64 (k + cntInodeS x2))], []) := by
  have bx2 := cntInodeS_le x2 tx2 sx2; have nx2 := cntInodeS_nn x2
  have n0 : decide (k + cntInodeS x2 < 0) = false := decide_eq_false (by omega)
  simp only [t48, ta48, heldInodeS_eq x2 tx2 sx2 (by omega) (k) (by omega) (by omega), zr52, zo52, n0, Bool.false_eq_true, if_false, okR, isVs, isV, isD, isDs, isOs, resC, outC, nthR, nthO, cellsDV, nthD, asB, asI, asS, asL, Bool.and_true, Bool.true_and, BEq.rfl, chk_true, decide_true]
theorem markTenant_eq (x1 : Int) (x2 : List (List D)) (x3 : Int) (x4 : List (List D)) (x5 : List (List D)) (tx2 : ∀ r ∈ x2, typL shInode r) (sx2 : ∀ r ∈ x2, szdL shInode r) (wx2 : x2.length ≤ 1048576) (mx4 : ∀ r ∈ x4, r.length = 5) (wx4 : x4.length ≤ 1048576) (mx5 : ∀ r ∈ x5, r.length = 5) (wx5 : x5.length ≤ 1048576) (k : Int) (h0 : 0 ≤ k) (hk : k ≤ 1000000000000) : t15 x1 x2 x3 x4 x5 k = some ([.one (.i .i64 (k + cntInodeS x2 + 5 * (x4.length : Int) + 5 * (x5.length : Int)))], [[.i .i64 x1, .l (markedInodeS (k) x2), .i .i64 x3, .l (markedNoteS (k + cntInodeS x2) x4), .l (markedSessionS (k + cntInodeS x2 + 5 * (x4.length : Int)) x5)]]) := by
  have bx2 := cntInodeS_le x2 tx2 sx2; have nx2 := cntInodeS_nn x2
  simp only [t15, ta15, markVol_eq x1 x2 tx2 sx2 wx2 (k) (by omega) (by omega), markNoteS_eq x4 mx4 (by omega) (k + cntInodeS x2) (by omega) (by omega), markSessionS_eq x5 mx5 (by omega) (k + cntInodeS x2 + 5 * (x4.length : Int)) (by omega) (by omega), zr45, zo45, zr46, zo46, zr47, zo47, okR, isVs, isV, isD, isDs, isOs, resC, outC, nthR, nthO, cellsDV, nthD, asB, asI, asS, asL, Bool.and_true, Bool.true_and, BEq.rfl, chk_true, decide_true]
theorem heldTenant_eq (x1 : Int) (x2 : List (List D)) (x3 : Int) (x4 : List (List D)) (x5 : List (List D)) (tx2 : ∀ r ∈ x2, typL shInode r) (sx2 : ∀ r ∈ x2, szdL shInode r) (wx2 : x2.length ≤ 1048576) (mx4 : ∀ r ∈ x4, r.length = 5) (wx4 : x4.length ≤ 1048576) (mx5 : ∀ r ∈ x5, r.length = 5) (wx5 : x5.length ≤ 1048576) (k : Int) (h0 : 0 ≤ k) (hk : k ≤ 1000000000000) : t16 x1 (markedInodeS (k) x2) x3 (markedNoteS (k + cntInodeS x2) x4) (markedSessionS (k + cntInodeS x2 + 5 * (x4.length : Int)) x5) k = some ([.one (.i .i64 (k + cntInodeS x2 + 5 * (x4.length : Int) + 5 * (x5.length : Int)))], []) := by
  have bx2 := cntInodeS_le x2 tx2 sx2; have nx2 := cntInodeS_nn x2
  have n0 : decide (k + cntInodeS x2 < 0) = false := decide_eq_false (by omega)
  have n1 : decide (k + cntInodeS x2 + 5 * (x4.length : Int) < 0) = false := decide_eq_false (by omega)
  have n2 : decide (k + cntInodeS x2 + 5 * (x4.length : Int) + 5 * (x5.length : Int) < 0) = false := decide_eq_false (by omega)
  simp only [t16, ta16, heldVol_eq x1 x2 tx2 sx2 wx2 (k) (by omega) (by omega), heldNoteS_eq x4 (by omega) (k + cntInodeS x2) (by omega) (by omega), heldSessionS_eq x5 (by omega) (k + cntInodeS x2 + 5 * (x4.length : Int)) (by omega) (by omega), zr48, zo48, zr49, zo49, zr50, zo50, n0, n1, n2, Bool.false_eq_true, if_false, okR, isVs, isV, isD, isDs, isOs, resC, outC, nthR, nthO, cellsDV, nthD, asB, asI, asS, asL, Bool.and_true, Bool.true_and, BEq.rfl, chk_true, decide_true]
end Go.Den.L9

/- The two searches below a directory: what each of them comes to. No program in sight. -/
namespace Go.Den.L9.Vq
inductive Reach {α : Type} (tg : α → List α) (s : α) : α → Prop
  | base {d : α} : d ∈ tg s → Reach tg s d
  | step {x d : α} : Reach tg s x → d ∈ tg x → Reach tg s d
theorem reach_closed {α : Type} {tg : α → List α} {s : α} {B : List α} (h : ∀ x ∈ s :: B, ∀ d ∈ tg x, d ∈ B) : ∀ d, Reach tg s d → d ∈ B := by
  intro d r
  induction r with
  | base hd => exact h _ (by simp) _ hd
  | step _ hd ih => exact h _ (by simp [ih]) _ hd
/-- Ids are put to what is there, each once. -/
def ins (o : List Int) : List Int → List Int
  | [] => o
  | d :: ds => ins (if d ∈ o then o else o ++ [d]) ds
theorem ins_mem : ∀ {ds o : List Int} {x : Int}, x ∈ ins o ds ↔ x ∈ o ∨ x ∈ ds
  | [], o, x => by simp [ins]
  | d :: ds, o, x => by
    rw [ins, ins_mem]
    by_cases h : d ∈ o
    · simp only [h, if_true, List.mem_cons]
      constructor
      · rintro (a | a) <;> simp [a]
      · rintro (a | a | a)
        · exact .inl a
        · exact .inl (a ▸ h)
        · exact .inr a
    · simp [h, or_assoc]
theorem ins_nodup : ∀ {ds o : List Int}, o.Nodup → (ins o ds).Nodup
  | [], _, h => h
  | d :: ds, o, h => by
    rw [ins]
    refine ins_nodup ?_
    by_cases hd : d ∈ o
    · simpa [hd] using h
    · simp only [hd, if_false]
      rw [List.nodup_append]
      exact ⟨h, by simp, by intro a ha b hb; simp at hb; subst hb; intro e; exact hd (e ▸ ha)⟩
theorem ins_pre : ∀ {ds o : List Int}, o <+: ins o ds
  | [], o => List.prefix_refl o
  | d :: ds, o => by
    rw [ins]
    refine List.IsPrefix.trans ?_ ins_pre
    by_cases hd : d ∈ o
    · simp [hd]
    · simp [hd]
/-- What holds while the queue is gone over. -/
structure Inv (tg : Int → List Int) (s : Int) (out : List Int) (i : Nat) : Prop where
  nd : out.Nodup
  sound : ∀ d ∈ out, Reach tg s d
  done : ∀ x ∈ (s :: out).take i, ∀ d ∈ tg x, d ∈ out
theorem Inv.start {tg : Int → List Int} {s : Int} : Inv tg s [] 0 := ⟨by simp, by simp, by simp⟩
theorem Inv.next {tg : Int → List Int} {s : Int} {out : List Int} {i : Nat} (h : Inv tg s out i) {x : Int} (hx : (s :: out)[i]? = some x) : Inv tg s (ins out (tg x)) (i + 1) := by
  have hr : x = s ∨ Reach tg s x := by
    cases i with
    | zero => simp at hx; exact .inl hx.symm
    | succ i => simp at hx; exact .inr (h.sound _ (List.mem_of_getElem? hx))
  obtain ⟨t, ht⟩ := (ins_pre : out <+: ins out (tg x))
  refine ⟨ins_nodup h.nd, ?_, ?_⟩
  · intro d hd
    rcases ins_mem.1 hd with h1 | h1
    · exact h.sound _ h1
    · rcases hr with e | e
      · subst e; exact .base h1
      · exact .step e h1
  · intro y hy d hd
    have hl : i < (s :: out).length := by
      have := List.getElem?_eq_some_iff.1 hx
      exact this.1
    rw [← ht, ← List.cons_append, List.take_append_of_le_length (by omega), List.take_add_one, hx] at hy
    simp only [Option.toList, List.mem_append, List.mem_singleton] at hy
    rcases hy with h1 | h1
    · exact ins_mem.2 (.inl (h.done _ h1 _ hd))
    · subst h1; exact ins_mem.2 (.inr hd)
theorem Inv.last {tg : Int → List Int} {s : Int} {out : List Int} {i : Nat} (h : Inv tg s out i) (hi : out.length + 1 ≤ i) : ∀ d, d ∈ out ↔ Reach tg s d := by
  intro d
  refine ⟨h.sound d, reach_closed (fun x hx => ?_) d⟩
  have : (s :: out).take i = s :: out := List.take_of_length_le (by simpa using hi)
  exact h.done x (by rw [this]; exact hx)
/-- The rounds of the other search. -/
theorem rounds {adj : Nat → List Nat} {at_ n : Nat} {a o : Nat → Nat → Bool}
    (hb : ∀ k x, o k x = true → x < n) (h0 : o 0 at_ = true)
    (hmo : ∀ k x, o k x = true → o (k + 1) x = true) (hma : ∀ k x, a k x = true → a (k + 1) x = true)
    (hao : ∀ k x, a k x = true → o k x = true)
    (hso : ∀ k x, o k x = true → x = at_ ∨ Reach adj at_ x) (hsa : ∀ k x, a k x = true → Reach adj at_ x)
    (hc : ∀ k i, o k i = true → ∀ x ∈ adj i, a (k + 1) x = true) :
    ∀ x, a n x = true ↔ Reach adj at_ x := by
  have hmok : ∀ j k x, o k x = true → o (k + j) x = true := by
    intro j; induction j with
    | zero => intro k x h; exact h
    | succ j ih => intro k x h; exact hmo _ _ (ih k x h)
  have hmak : ∀ j k x, a k x = true → a (k + j) x = true := by
    intro j; induction j with
    | zero => intro k x h; exact h
    | succ j ih => intro k x h; exact hma _ _ (ih k x h)
  have hat : ∀ k, o k at_ = true := fun k => by have := hmok k 0 at_ h0; simpa using this
  have hcnt : ∀ k, (∃ j, j < k ∧ ∀ x, o (j + 1) x = true → o j x = true) ∨ k + 1 ≤ ((List.range n).filter (o k)).length := by
    intro k; induction k with
    | zero =>
      right
      have : at_ ∈ (List.range n).filter (o 0) := by simp [h0, hb 0 at_ h0]
      exact List.length_pos_of_mem this
    | succ k ih =>
      rcases ih with ⟨j, hj, h⟩ | h
      · exact .inl ⟨j, by omega, h⟩
      · by_cases hq : ∀ x, o (k + 1) x = true → o k x = true
        · exact .inl ⟨k, by omega, hq⟩
        · right
          simp only [Classical.not_forall] at hq
          obtain ⟨x, h1, h2⟩ := hq
          have hs : ∀ (l : List Nat), x ∈ l → (l.filter (o k)).length + 1 ≤ (l.filter (o (k + 1))).length := by
            have hle : ∀ (l : List Nat), (l.filter (o k)).length ≤ (l.filter (o (k + 1))).length := by
              intro l; induction l with
              | nil => simp
              | cons y l ih2 =>
                simp only [List.filter_cons]
                by_cases hy : o k y = true
                · simp [hy, hmo _ _ hy, ih2]
                · by_cases hz : o (k + 1) y = true <;> simp [hy, hz] <;> omega
            intro l hl
            induction l with
            | nil => simp at hl
            | cons y l ih2 =>
              simp only [List.filter_cons]
              by_cases e : x = y
              · subst e
                have := hle l
                simp [h1, h2]; omega
              · have hm : x ∈ l := by simpa [e] using hl
                have := ih2 hm
                by_cases hy : o k y = true
                · simp [hy, hmo _ _ hy]; omega
                · by_cases hz : o (k + 1) y = true <;> simp [hy, hz] <;> omega
          have := hs (List.range n) (by simp [hb _ _ h1])
          omega
  have hle : ((List.range n).filter (o n)).length ≤ n := by
    have := List.length_filter_le (o n) (List.range n); simpa using this
  obtain ⟨j, hj, h⟩ : ∃ j, j < n ∧ ∀ x, o (j + 1) x = true → o j x = true := by
    rcases hcnt n with h | h
    · exact h
    · omega
  have hcl : ∀ x, Reach adj at_ x → a (j + 1) x = true := by
    intro x r
    induction r with
    | base hd => exact hc j _ (hat j) _ hd
    | step _ hd ih => exact hc j _ (h _ (hao _ _ ih)) _ hd
  intro x
  refine ⟨hsa n x, fun r => ?_⟩
  have := hmak (n - (j + 1)) (j + 1) x (hcl x r)
  rwa [show j + 1 + (n - (j + 1)) = n by omega] at this
theorem perm_of {l1 l2 : List Int} (h1 : l1.Nodup) (h2 : l2.Nodup) (h : ∀ a, a ∈ l1 ↔ a ∈ l2) : l1.Perm l2 := (List.perm_ext_iff_of_nodup h1 h2).2 h
end Go.Den.L9.Vq

/- The rounds of the other search, as folds. No program in sight. -/
namespace Go.Den.L9.Vq
abbrev BB := (Nat → Bool) × (Nat → Bool)
def updB (f : Nat → Bool) (x : Nat) : Nat → Bool := fun y => if y = x then true else f y
def setB (p : BB) (x : Nat) : BB := (updB p.1 x, updB p.2 x)
def nmB (p : BB) (ds : List Nat) : BB := ds.foldl setB p
def plB (adj : Nat → List Nat) (p : BB) (i : Nat) : BB := if p.1 i then nmB p (adj i) else p
def rdB (adj : Nat → List Nat) (n : Nat) (p : BB) : BB := (List.range n).foldl (plB adj) p
def itB (adj : Nat → List Nat) (n : Nat) : Nat → BB → BB
  | 0, p => p
  | k + 1, p => rdB adj n (itB adj n k p)
structure LeB (p q : BB) : Prop where
  o : ∀ x, p.1 x = true → q.1 x = true
  a : ∀ x, p.2 x = true → q.2 x = true
theorem LeB.refl (p : BB) : LeB p p := ⟨fun _ h => h, fun _ h => h⟩
theorem LeB.trans {p q r : BB} (h : LeB p q) (g : LeB q r) : LeB p r := ⟨fun x h1 => g.o x (h.o x h1), fun x h1 => g.a x (h.a x h1)⟩
theorem foldl_leB {β : Type} {f : BB → β → BB} (h : ∀ p b, LeB p (f p b)) : ∀ (l : List β) (p : BB), LeB p (l.foldl f p)
  | [], p => .refl p
  | b :: l, p => (h p b).trans (foldl_leB h l _)
theorem setB_le (p : BB) (x : Nat) : LeB p (setB p x) := ⟨fun y h => by simp only [setB, updB]; split <;> simp [h], fun y h => by simp only [setB, updB]; split <;> simp [h]⟩
theorem nmB_le (p : BB) (ds : List Nat) : LeB p (nmB p ds) := foldl_leB setB_le ds p
theorem plB_le (adj : Nat → List Nat) (p : BB) (i : Nat) : LeB p (plB adj p i) := by
  unfold plB; split
  · exact nmB_le _ _
  · exact .refl _
theorem rdB_le (adj : Nat → List Nat) (n : Nat) (p : BB) : LeB p (rdB adj n p) := foldl_leB (plB_le adj) _ p
theorem setB_at (p : BB) (x : Nat) : (setB p x).2 x = true := by simp [setB, updB]
theorem nmB_in : ∀ (ds : List Nat) (p : BB), ∀ x ∈ ds, (nmB p ds).2 x = true
  | d :: ds, p, x, h => by
    rcases List.mem_cons.1 h with e | e
    · subst e; exact (foldl_leB setB_le ds _).a x (setB_at p x)
    · exact nmB_in ds (setB p d) x e
theorem rdB_in (adj : Nat → List Nat) : ∀ (l : List Nat) (p : BB) (i : Nat), i ∈ l → p.1 i = true → ∀ x ∈ adj i, (l.foldl (plB adj) p).2 x = true
  | j :: l, p, i, hi, ho, x, hx => by
    rcases List.mem_cons.1 hi with e | e
    · subst e
      refine (foldl_leB (plB_le adj) l _).a x ?_
      simp only [plB, ho, if_true]
      exact nmB_in _ _ x hx
    · exact rdB_in adj l _ i e ((plB_le adj p j).o i ho) x hx
/-- What is true of all that is set. -/
structure WellB (adj : Nat → List Nat) (at_ n : Nat) (p : BB) : Prop where
  b : ∀ x, p.1 x = true → x < n
  ao : ∀ x, p.2 x = true → p.1 x = true
  so : ∀ x, p.1 x = true → x = at_ ∨ Reach adj at_ x
  sa : ∀ x, p.2 x = true → Reach adj at_ x
theorem WellB.set {adj : Nat → List Nat} {at_ n : Nat} {p : BB} (h : WellB adj at_ n p) {x : Nat} (hx : x < n) (hr : Reach adj at_ x) : WellB adj at_ n (setB p x) := by
  constructor
  · intro y hy; simp only [setB, updB] at hy; split at hy
    · subst_vars; exact hx
    · exact h.b y hy
  · intro y hy; simp only [setB, updB] at hy ⊢; split
    · rfl
    · rename_i e; simp only [e, if_false] at hy; exact h.ao y hy
  · intro y hy; simp only [setB, updB] at hy; split at hy
    · subst_vars; exact .inr hr
    · exact h.so y hy
  · intro y hy; simp only [setB, updB] at hy; split at hy
    · subst_vars; exact hr
    · exact h.sa y hy
theorem WellB.nm {adj : Nat → List Nat} {at_ n : Nat} : ∀ (ds : List Nat) {p : BB}, WellB adj at_ n p → (∀ x ∈ ds, x < n ∧ Reach adj at_ x) → WellB adj at_ n (nmB p ds)
  | [], _, h, _ => h
  | d :: ds, p, h, hd => by
    have := WellB.nm ds (h.set (hd d (by simp)).1 (hd d (by simp)).2) (fun x hx => hd x (by simp [hx]))
    simpa [nmB] using this
theorem WellB.pl {adj : Nat → List Nat} {at_ n : Nat} (hadj : ∀ i, ∀ x ∈ adj i, x < n) {p : BB} (h : WellB adj at_ n p) (i : Nat) : WellB adj at_ n (plB adj p i) := by
  unfold plB; split
  · rename_i ho
    refine h.nm _ (fun x hx => ⟨hadj i x hx, ?_⟩)
    rcases h.so i ho with e | e
    · subst e; exact .base hx
    · exact .step e hx
  · exact h
theorem WellB.pls {adj : Nat → List Nat} {at_ n : Nat} (hadj : ∀ i, ∀ x ∈ adj i, x < n) : ∀ (l : List Nat) {p : BB}, WellB adj at_ n p → WellB adj at_ n (l.foldl (plB adj) p)
  | [], _, h => h
  | i :: l, _, h => WellB.pls hadj l (h.pl hadj i)
theorem WellB.it {adj : Nat → List Nat} {at_ n : Nat} (hadj : ∀ i, ∀ x ∈ adj i, x < n) {p : BB} (h : WellB adj at_ n p) : ∀ k, WellB adj at_ n (itB adj n k p)
  | 0 => h
  | k + 1 => (WellB.it hadj h k).pls hadj _
/-- What the rounds come to. -/
theorem itB_reach {adj : Nat → List Nat} {at_ n : Nat} (hadj : ∀ i, ∀ x ∈ adj i, x < n) (hat : at_ < n) :
    ∀ x, (itB adj n n (updB (fun _ => false) at_, fun _ => false)).2 x = true ↔ Reach adj at_ x := by
  have hw : ∀ k, WellB adj at_ n (itB adj n k (updB (fun _ => false) at_, fun _ => false)) := WellB.it hadj (by
    constructor
    · intro x hx; simp only [updB] at hx; split at hx
      · subst_vars; exact hat
      · simp at hx
    · intro x hx; simp at hx
    · intro x hx; simp only [updB] at hx; split at hx
      · subst_vars; exact .inl rfl
      · simp at hx
    · intro x hx; simp at hx)
  refine rounds (o := fun k => (itB adj n k (updB (fun _ => false) at_, fun _ => false)).1) (a := fun k => (itB adj n k (updB (fun _ => false) at_, fun _ => false)).2) (fun k => (hw k).b) ?_ (fun k => (rdB_le adj n _).o) (fun k => (rdB_le adj n _).a) (fun k => (hw k).ao) (fun k => (hw k).so) (fun k => (hw k).sa) ?_
  · simp [itB, updB]
  · intro k i hi x hx
    exact rdB_in adj (List.range n) _ i (List.mem_range.2 ((hw k).b i hi)) hi x hx
/-- Places and ids. -/
theorem reach_place {adj : Nat → List Nat} {tg : Int → List Int} {idp : Nat → Int} {n : Nat}
    (hadj : ∀ i, i < n → ∀ d, d ∈ tg (idp i) ↔ ∃ x ∈ adj i, idp x = d) (hlt : ∀ i, ∀ x ∈ adj i, x < n) (hinj : ∀ i j, i < n → j < n → idp i = idp j → i = j) {at_ : Nat} (hat : at_ < n) :
    (∀ x, Reach adj at_ x → Reach tg (idp at_) (idp x)) ∧ (∀ d, Reach tg (idp at_) d → ∃ x, Reach adj at_ x ∧ idp x = d ∧ x < n) := by
  constructor
  · intro x r
    have : x < n ∧ Reach tg (idp at_) (idp x) := by
      induction r with
      | base hd => exact ⟨hlt _ _ hd, .base ((hadj _ hat _).2 ⟨_, hd, rfl⟩)⟩
      | step _ hd ih => exact ⟨hlt _ _ hd, .step ih.2 ((hadj _ ih.1 _).2 ⟨_, hd, rfl⟩)⟩
    exact this.2
  · intro d r
    induction r with
    | base hd =>
      obtain ⟨x, hx, e⟩ := (hadj _ hat _).1 hd
      exact ⟨x, .base hx, e, hlt _ _ hx⟩
    | step _ hd ih =>
      obtain ⟨y, ry, ey, hy⟩ := ih
      subst ey
      obtain ⟨x, hx, e⟩ := (hadj _ hy _).1 hd
      exact ⟨x, .step ry hx, e, hlt _ _ hx⟩
theorem reach_iff {adj : Nat → List Nat} {tg : Int → List Int} {idp : Nat → Int} {n : Nat}
    (hadj : ∀ i, i < n → ∀ d, d ∈ tg (idp i) ↔ ∃ x ∈ adj i, idp x = d) (hlt : ∀ i, ∀ x ∈ adj i, x < n) (hinj : ∀ i j, i < n → j < n → idp i = idp j → i = j) {at_ : Nat} (hat : at_ < n) (x : Nat) (hx : x < n) :
    Reach adj at_ x ↔ Reach tg (idp at_) (idp x) := by
  obtain ⟨h1, h2⟩ := reach_place hadj hlt hinj hat
  refine ⟨h1 x, fun r => ?_⟩
  obtain ⟨y, ry, e, hy⟩ := h2 _ r
  rwa [hinj x y hx hy e.symm]
end Go.Den.L9.Vq

namespace Go.Den.L9
open Go
/-- The inode of an id. -/
def fnd (l : List (List D)) (id : Int) : Option (List D) := l.find? (fun r => asI (nthD r 0) == id)
theorem inode_loop (n9 : Int) (l : List (List D)) (id : Int) (hl : l.length < 4611686018427387904) (ht : ∀ r ∈ l, typL shInode r) (A : List D → Rs) (B : Rs) (q1 : Int → Int → Int → Int → Int → ByteArray → List (List D) → Int → Int → Int → Bool → Bool → Rs) (q2 : SV → Int → Bool → SV → Rs)
    (h1 : ∀ a b c d e f g h i n x y, q1 a b c d e f g h i n x y = A [.i .i64 a, .i .i64 b, .i .i64 c, .i .i64 d, .i .i64 e, .s f, .l g, .i .i64 h, .i .i64 i]) (h2 : ∀ a b c d, q2 a b c d = B) :
    ∀ (k i m : Nat) (v w x : SV), i + k = l.length → k < m → l132o0 n9 l id (l.length : Int) q1 q2 m v (i : Int) w x = match fnd (l.drop i) id with | some r => A r | none => B := by
  intro k
  induction k with
  | zero =>
    intro i m v w x hi hm
    obtain ⟨m, rfl⟩ : ∃ m', m = m' + 1 := ⟨m - 1, by omega⟩
    rw [show i = l.length by omega]
    simp [l132o0, fnd, h2]
  | succ k ih =>
    intro i m v w x hi hm
    obtain ⟨m, rfl⟩ : ∃ m', m = m' + 1 := ⟨m - 1, by omega⟩
    have hil : i < l.length := by omega
    have hd : l.drop i = l[i] :: l.drop (i + 1) := List.drop_eq_getElem_cons hil
    have hg : l.getD ((i : Int)).toNat [] = l[i] := by simp [List.getD, hil]
    obtain ⟨x1, x2, x3, x4, x5, x6, x7, x8, x9, hr, -, -, -⟩ := Inode_row (ht l[i] (List.getElem_mem hil))
    have e1 : (decide ((0 : Int) ≤ (i : Int)) && true && isRow z64 l[i]) = true := by
      rw [hr, show decide ((0 : Int) ≤ (i : Int)) = true from decide_eq_true (by omega)]; rfl
    have e2 : decide ((i : Int) < (l.length : Int)) = true := by simp [hil]
    simp only [l132o0, e2, if_true, hg, e1, chk_true, hd, fnd, List.find?_cons]
    by_cases hq : (asI (nthD l[i] 0) == id) = true
    · simp only [hq, if_true, h1]; rw [hr]; rfl
    · simp only [hq, Bool.false_eq_true, if_false]
      rw [w64_succ i (by omega), ih (i + 1) m _ _ _ (by omega) (by omega)]
      rfl
/-- What inode gives. -/
theorem inode_ok (n1 : Int) (l : List (List D)) (id : Int) (hl : l.length ≤ 1048576) (ht : ∀ r ∈ l, typL shInode r) :
    t132 n1 l id = some ([.one (.b (fnd l id).isSome), .agg ((fnd l id).getD [.i .i64 0, .i .i64 0, .i .i64 0, .i .i64 0, .i .i64 0, .s ⟨#[]⟩, .l [], .i .i64 0, .i .i64 0])], []) := by
  unfold t132

  have := inode_loop n1 l id (by omega) ht (fun r => some ([.one (.b true), .agg r], [])) (some ([.one (.b false), .agg [.i .i64 0, .i .i64 0, .i .i64 0, .i .i64 0, .i .i64 0, .s ⟨#[]⟩, .l [], .i .i64 0, .i .i64 0]], [])) _ _ (fun _ _ _ _ _ _ _ _ _ _ _ _ => rfl) (fun _ _ _ _ => rfl) l.length 0 KK .undef .undef .undef (by omega) (by rw [KK_eq]; omega)
  refine Eq.trans this ?_
  simp only [List.drop_zero]
  cases fnd l id <;> rfl
end Go.Den.L9

namespace Go.Den.L9
open Go
def ints (o : List Int) : List (List D) := o.map fun x => [D.i .i64 x]
theorem ints_len (o : List Int) : (ints o).length = o.length := by simp [ints]
theorem ints_at {o : List Int} {i : Nat} (h : i < o.length) : (ints o).getD i [] = [D.i .i64 o[i]] := by simp [ints, List.getD, h]
theorem ixm_loop (x n10 : Int) (q1 : Int → Bool → Bool → Rs) (q2 : SV → Int → Bool → SV → Rs) (h1 : ∀ a b c, q1 a b c = some ([.one (.i .i64 a)], [])) (h2 : ∀ a b c d, q2 a b c d = some ([.one (.i .i64 (-1))], [])) (o : List Int) (hl : o.length < 4611686018427387904) : ∀ (k i m : Nat) (u v w : SV), i + k = o.length → k < m →
    ∃ y : Int, l133o0 (ints o) x n10 ((ints o).length : Int) q1 q2 m u i v w = some ([.one (.i .i64 y)], []) ∧ decide (y ≥ 0) = decide (x ∈ o.drop i) := by
  intro k
  induction k with
  | zero =>
    intro i m u v w e hm
    obtain ⟨m, rfl⟩ : ∃ m', m = m' + 1 := ⟨m - 1, by omega⟩
    have ei : decide ((i : Int) < ((ints o).length : Int)) = false := by rw [ints_len]; simp; omega
    refine ⟨-1, by simp only [l133o0, ei, h2, Bool.false_eq_true, if_false], ?_⟩
    rw [show i = o.length by omega]; simp
  | succ k ih =>
    intro i m u v w e hm
    obtain ⟨m, rfl⟩ : ∃ m', m = m' + 1 := ⟨m - 1, by omega⟩
    have hi : i < o.length := by omega
    have e1 := nat_in (i := i) (n := (ints o).length) (by rw [ints_len]; omega)
    have ez : isRow z3 [D.i .i64 o[i]] = true := rfl
    have en : asI (nthD [D.i .i64 o[i]] 0) = o[i] := rfl
    have hw := w64_succ i (by omega)
    simp only [l133o0, e1, nat_pos, Int.toNat_natCast, ints_at hi, ez, en, Bool.and_true, chk_true, if_true, hw, List.drop_eq_getElem_cons hi, List.mem_cons]
    by_cases hb : x = o[i]
    · have : (x == o[i]) = true := by simpa using hb
      exact ⟨i, by simp only [this, if_true, h1], by simp [hb]⟩
    · have : (x == o[i]) = false := by simpa using hb
      simp only [this, Bool.false_eq_true, if_false, hb, false_or]
      exact ih (i + 1) m _ _ _ (by omega) (by omega)
theorem has_impl (o : List Int) (hl : o.length ≤ 1048576) (x : Int) : t101 (ints o) x = some ([.one (.b (decide (x ∈ o)))], []) := by
  obtain ⟨y, hy, hd⟩ := ixm_loop x 0 (fun a _ _ => some ([.one (.i .i64 a)], [])) (fun _ _ _ _ => some ([.one (.i .i64 (-1))], [])) (fun _ _ _ => rfl) (fun _ _ _ _ => rfl) o (by omega) o.length 0 KK .undef .undef .undef (by omega) (by rw [KK_eq]; omega)
  have hy' : t133 (ints o) x = some ([.one (.i .i64 y)], []) := hy
  have ew : okR zr133 zo133 (some ([.one (.i .i64 y)], [])) = true := rfl
  have eb : asI (resC (some ([.one (.i .i64 y)], [])) 0 0) = y := rfl
  simp only [t101, ta101, hy', ew, eb, chk_true, hd, List.drop_zero]
end Go.Den.L9

namespace Go.Den.L9
open Go
def idOf (r : List D) : Int := asI (nthD r 1)
def idsOf (l : List (List D)) : List Int := l.map idOf
theorem names_loop (n99 : Int) (l100 : List (List D)) (n101 n102 : Int) (b104 b105 : Bool) (L : List (List D)) (hL : ∀ r ∈ L, typL shDirent r) (hl : L.length ≤ 1048576) (q1 : SV → Int → Bool → SV → List (List D) → List (List D) → Rs) (s : Int) :
    ∀ (k i m : Nat) (v w x : SV) (o : List Int), i + k = L.length → k < m → o.length + k + 1 ≤ 1048576 →
      ∃ a b c d, la100o3 t101 t132 n99 l100 n101 n102 b104 b105 L (L.length : Int) q1 m v (i : Int) w x (ints o) (ints (s :: o)) = q1 a b c d (ints (Vq.ins o (idsOf (L.drop i)))) (ints (s :: Vq.ins o (idsOf (L.drop i)))) := by
  intro k
  induction k with
  | zero =>
    intro i m v w x o e hm _
    obtain ⟨m, rfl⟩ : ∃ m', m = m' + 1 := ⟨m - 1, by omega⟩
    rw [show i = L.length by omega]
    simp only [la100o3, Int.lt_irrefl, decide_false, Bool.false_eq_true, if_false, List.drop_length, idsOf, List.map_nil, Vq.ins]
    exact ⟨_, _, _, _, rfl⟩
  | succ k ih =>
    intro i m v w x o e hm ho
    obtain ⟨m, rfl⟩ : ∃ m', m = m' + 1 := ⟨m - 1, by omega⟩
    have hi : i < L.length := by omega
    have hg : L.getD i [] = L[i] := by simp [List.getD, hi]
    obtain ⟨x1, x2, hr, -⟩ := Dirent_row (hL L[i] (List.getElem_mem hi))
    have e1 := nat_in (i := i) (n := L.length) (by omega)
    have ez : isRow z129 L[i] = true := by rw [hr]; rfl
    have eid : asI (nthD L[i] 1) = idOf L[i] := rfl
    have hw := w64_succ i (by omega)
    have ec := has_impl o (by omega) (idOf L[i])
    have ew : ∀ b, okR zr101 zo101 (some ([.one (.b b)], [])) = true := fun _ => rfl
    have eb : ∀ b, asB (resC (some ([.one (.b b)], [])) 0 0) = b := fun _ => rfl
    simp only [la100o3, e1, nat_pos, Int.toNat_natCast, hg, ez, eid, ec, ew, eb, Bool.and_true, chk_true, if_true, hw, List.drop_eq_getElem_cons hi, idsOf, List.map_cons, Vq.ins]
    by_cases hb : idOf L[i] ∈ o
    · simp only [hb, decide_true, Bool.not_true, Bool.false_eq_true, if_false, if_true]
      exact ih (i + 1) m _ _ _ o (by omega) (by omega) (by omega)
    · have hc : ∀ n : Nat, n + 1 ≤ 1048577 → (flatR 1 ([[.i .i64 (idOf L[i])]] : List (List D)) && decide (n + ([[D.i .i64 (idOf L[i])]] : List (List D)).length ≤ lim)) = true := by
        intro n hn
        have : n + 1 ≤ lim := by unfold lim; omega
        have f : flatR 1 ([[D.i .i64 (idOf L[i])]] : List (List D)) = true := rfl
        rw [f]; simpa using this
      simp only [hb, decide_false, Bool.not_false, if_true, if_false]
      rw [hc _ (by rw [ints_len]; omega), hc _ (by rw [ints_len]; simp; omega)]
      simp only [chk_true]
      have a1 : ints o ++ [[D.i .i64 (idOf L[i])]] = ints (o ++ [idOf L[i]]) := by simp [ints]
      have a2 : ints (s :: o) ++ [[D.i .i64 (idOf L[i])]] = ints (s :: (o ++ [idOf L[i]])) := by simp [ints]
      rw [a1, a2]
      exact ih (i + 1) m _ _ _ (o ++ [idOf L[i]]) (by omega) (by omega) (by simp; omega)
end Go.Den.L9

/- Loops, in general: what holds at each turn, and what comes of it. -/
namespace Go.Den.L9
open Go
theorem walkQ {α σ : Type} (L : Nat → Nat → α → σ → Rs) (n : Nat) (P : Nat → α → Prop) (Q : Rs → Prop)
    (he : ∀ m a s, P n a → Q (L (m + 1) n a s))
    (hs : ∀ i m a s, i < n → P i a → (∃ a' s', L (m + 1) i a s = L m (i + 1) a' s' ∧ P (i + 1) a') ∨ Q (L (m + 1) i a s)) :
    ∀ (k i m : Nat) (a : α) (s : σ), i + k = n → k < m → P i a → Q (L m i a s) := by
  intro k
  induction k with
  | zero =>
    intro i m a s e hm hp
    obtain ⟨m, rfl⟩ : ∃ m', m = m' + 1 := ⟨m - 1, by omega⟩
    have : i = n := by omega
    subst this
    exact he m a s hp
  | succ k ih =>
    intro i m a s e hm hp
    obtain ⟨m, rfl⟩ : ∃ m', m = m' + 1 := ⟨m - 1, by omega⟩
    rcases hs i m a s (by omega) hp with ⟨a', s', h1, h2⟩ | h
    · rw [h1]; exact ih (i + 1) m a' s' (by omega) (by omega) h2
    · exact h
def allW (f : Nat → Bool) : Nat → Nat → Bool
  | 0, _ => true
  | k + 1, i => f i && allW f k (i + 1)
theorem allW_iff {f : Nat → Bool} : ∀ (k i : Nat), allW f k i = true ↔ ∀ j, i ≤ j → j < i + k → f j = true
  | 0, i => by simp [allW]; omega
  | k + 1, i => by
    rw [allW, Bool.and_eq_true, allW_iff]
    constructor
    · rintro ⟨h1, h2⟩ j hj hk
      by_cases e : j = i
      · rw [e]; exact h1
      · exact h2 j (by omega) (by omega)
    · intro h
      exact ⟨h i (by omega) (by omega), fun j hj hk => h j (by omega) (by omega)⟩
/-- Loops that look for one that is wrong. -/
theorem walkA {σ : Type} (L : Nat → Nat → σ → Rs) (n : Nat) (f : Nat → Bool) (A B : Rs)
    (he : ∀ m s, L (m + 1) n s = B)
    (hs : ∀ i m s, i < n → (f i = true ∧ ∃ s', L (m + 1) i s = L m (i + 1) s') ∨ (f i = false ∧ L (m + 1) i s = A)) :
    ∀ (k i m : Nat) (s : σ), i + k = n → k < m → L m i s = if allW f k i = true then B else A := by
  intro k
  induction k with
  | zero =>
    intro i m s e hm
    obtain ⟨m, rfl⟩ : ∃ m', m = m' + 1 := ⟨m - 1, by omega⟩
    have : i = n := by omega
    subst this
    simp [allW, he]
  | succ k ih =>
    intro i m s e hm
    obtain ⟨m, rfl⟩ : ∃ m', m = m' + 1 := ⟨m - 1, by omega⟩
    rw [allW]
    rcases hs i m s (by omega) with ⟨h0, s', h1⟩ | ⟨h0, h1⟩
    · rw [h1, h0, Bool.true_and]; exact ih (i + 1) m s' (by omega) (by omega)
    · rw [h1, h0]; simp
end Go.Den.L9

/- Names and targets. -/
namespace Go.Den.L9
open Go
def byB (s : ByteArray) (i : Nat) : Int := ((s.get! i).toNat : Int)
def nbB (n1 : Int) : Bool := ((((((decide (n1 ≥ (97 : Int))) && (decide (n1 ≤ (122 : Int)))) || ((decide (n1 ≥ (48 : Int))) && (decide (n1 ≤ (57 : Int))))) || (n1 == (46 : Int))) || (n1 == (95 : Int))) || (n1 == (45 : Int)))
def nameB (s : ByteArray) : Bool := (((decide ((s.size : Int) ≥ 1) && decide ((s.size : Int) ≤ 8)) && !(s.toList == (⟨#[46]⟩ : ByteArray).toList)) && !(s.toList == (⟨#[46, 46]⟩ : ByteArray).toList)) && allW (fun i => nbB (byB s i)) s.size 0
def targB (s : ByteArray) : Bool := (decide ((s.size : Int) ≥ 1) && decide ((s.size : Int) ≤ 60)) && allW (fun i => byB s i == 47 || nbB (byB s i)) s.size 0
theorem at_in {i n : Nat} (h : i < n) : decide ((0 : Int) ≤ (i : Int) ∧ (i : Int) < (n : Int)) = true := by simp; omega
theorem at_out (n : Nat) : decide ((n : Int) < (n : Int)) = false := by simp
theorem by_at (s : ByteArray) (i : Nat) : ((s.get! ((i : Int)).toNat).toNat : Int) = byB s i := by rw [Int.toNat_natCast]; rfl
theorem nameOk_spec (s : ByteArray) (hs : s.size < 4611686018427387904) : t125 s = some ([.one (.b (nameB s))], []) := by
  have key := fun b7 b9 => walkA (σ := SV × SV) (fun m i s' => la125o1 t57 t139 s b7 b9 (fun _ _ _ => some ([.one (.b false)], [])) (fun _ _ _ => some ([.one (.b true)], [])) m (i : Int) s'.1 s'.2) s.size (fun i => nbB (byB s i)) (some ([.one (.b false)], [])) (some ([.one (.b true)], []))
    (by intro m s'; simp only [la125o1, at_out, Bool.false_eq_true, if_false])
    (by
      intro i m s' hi
      have e : t139 (byB s i) = some ([.one (.b (nbB (byB s i)))], []) := rfl
      simp only [la125o1, nat_in hi, at_in hi, by_at, e, chk_true, if_true, w64_succ i (by omega)]
      cases h : nbB (byB s i)
      · exact .inr ⟨rfl, rfl⟩
      · exact .inl ⟨rfl, (_, _), rfl⟩) s.size 0 KK (SV.undef, SV.undef) (by omega) (by rw [KK_eq]; omega)
  have ew : ∀ x, okR zr57 zo57 (some ([.one (.b x)], [])) = true := fun _ => rfl
  have eb : ∀ x, asB (resC (some ([.one (.b x)], [])) 0 0) = x := fun _ => rfl
  simp only [t125, ta125, in_eq, ew, eb, chk_true]
  rw [ite_not _ ((decide ((s.size : Int) ≥ 1) && decide ((s.size : Int) ≤ 8) && !(s.toList == (⟨#[46]⟩ : ByteArray).toList)) && !(s.toList == (⟨#[46, 46]⟩ : ByteArray).toList))]
  · unfold nameB
    split
    · rename_i h
      rw [h, Bool.true_and]
      refine Eq.trans (key _ _) ?_
      split <;> (rename_i h2; simp only [h2, Bool.not_eq_true] at * <;> simp [h2])
    · rename_i h
      rw [Bool.not_eq_true] at h
      rw [h, Bool.false_and]
  · simp only [Bool.not_and, Bool.not_not, ge_iff_le]
theorem nameOk_impl (s : ByteArray) (hs : s.size < 4611686018427387904) : t142 s = some ([.one (.b (nameB s))], []) := by
  have key := fun b7 B => walkA (σ := SV × SV × SV) (fun m i s' => la142o0 t63 t141 s b7 (s.size : Int) (fun _ _ _ => some ([.one (.b false)], [])) (fun _ _ _ _ => B) m s'.1 (i : Int) s'.2.1 s'.2.2) s.size (fun i => nbB (byB s i)) (some ([.one (.b false)], [])) B
    (by intro m s'; simp only [la142o0, at_out, Bool.false_eq_true, if_false])
    (by
      intro i m s' hi
      have e : t141 (byB s i) = some ([.one (.b (nbB (byB s i)))], []) := rfl
      simp only [la142o0, nat_in hi, at_in hi, by_at, e, chk_true, if_true, w64_succ i (by omega)]
      cases h : nbB (byB s i)
      · exact .inr ⟨rfl, rfl⟩
      · exact .inl ⟨rfl, (_, _, _), rfl⟩) s.size 0 KK (SV.undef, SV.undef, SV.undef) (by omega) (by rw [KK_eq]; omega)
  refine Eq.trans (key _ _) ?_
  unfold nameB
  split
  · rename_i h
    rw [h, Bool.and_true]; rfl
  · rename_i h
    rw [Bool.not_eq_true] at h
    rw [h, Bool.and_false]
theorem target_spec (s : ByteArray) (hs : s.size < 4611686018427387904) : t124 s = some ([.one (.b (targB s))], []) := by
  have key := fun b7 b9 => walkA (σ := SV × SV) (fun m i s' => la124o1 t57 t139 s b7 b9 (fun _ _ _ => some ([.one (.b false)], [])) (fun _ _ _ => some ([.one (.b true)], [])) m (i : Int) s'.1 s'.2) s.size (fun i => byB s i == 47 || nbB (byB s i)) (some ([.one (.b false)], [])) (some ([.one (.b true)], []))
    (by intro m s'; simp only [la124o1, at_out, Bool.false_eq_true, if_false])
    (by
      intro i m s' hi
      have e : t139 (byB s i) = some ([.one (.b (nbB (byB s i)))], []) := rfl
      simp only [la124o1, nat_in hi, at_in hi, by_at, e, chk_true, if_true, w64_succ i (by omega), Bool.true_or, bne]
      cases h : nbB (byB s i) <;> cases h2 : byB s i == 47
      · exact .inr ⟨rfl, rfl⟩
      · exact .inl ⟨rfl, (_, _), rfl⟩
      · exact .inl ⟨rfl, (_, _), rfl⟩
      · exact .inl ⟨rfl, (_, _), rfl⟩) s.size 0 KK (SV.undef, SV.undef) (by omega) (by rw [KK_eq]; omega)
  have ew : ∀ x, okR zr57 zo57 (some ([.one (.b x)], [])) = true := fun _ => rfl
  have eb : ∀ x, asB (resC (some ([.one (.b x)], [])) 0 0) = x := fun _ => rfl
  simp only [t124, ta124, in_eq, ew, eb, chk_true]
  rw [ite_not _ (decide ((s.size : Int) ≥ 1) && decide ((s.size : Int) ≤ 60)) rfl]
  unfold targB
  split
  · rename_i h
    rw [h, Bool.true_and]
    refine Eq.trans (key _ _) ?_
    split <;> (rename_i h2; simp only [h2, Bool.not_eq_true] at * <;> simp [h2])
  · rename_i h
    rw [Bool.not_eq_true] at h
    rw [h, Bool.false_and]
theorem target_impl (s : ByteArray) (hs : s.size < 4611686018427387904) : t130 s = some ([.one (.b (targB s))], []) := by
  have key := fun b7 B => walkA (σ := SV × SV × SV) (fun m i s' => la130o0 t63 t141 s b7 (s.size : Int) (fun _ _ _ => some ([.one (.b false)], [])) (fun _ _ _ _ => B) m s'.1 (i : Int) s'.2.1 s'.2.2) s.size (fun i => byB s i == 47 || nbB (byB s i)) (some ([.one (.b false)], [])) B
    (by intro m s'; simp only [la130o0, at_out, Bool.false_eq_true, if_false])
    (by
      intro i m s' hi
      have e : t141 (byB s i) = some ([.one (.b (nbB (byB s i)))], []) := rfl
      simp only [la130o0, nat_in hi, at_in hi, by_at, e, chk_true, if_true, w64_succ i (by omega), Bool.true_or, bne]
      cases h : nbB (byB s i) <;> cases h2 : byB s i == 47
      · exact .inr ⟨rfl, rfl⟩
      · exact .inl ⟨rfl, (_, _, _), rfl⟩
      · exact .inl ⟨rfl, (_, _, _), rfl⟩
      · exact .inl ⟨rfl, (_, _, _), rfl⟩) s.size 0 KK (SV.undef, SV.undef, SV.undef) (by omega) (by rw [KK_eq]; omega)
  refine Eq.trans (key _ _) ?_
  unfold targB
  split
  · rename_i h
    rw [h, Bool.and_true]; rfl
  · rename_i h
    rw [Bool.not_eq_true] at h
    rw [h, Bool.and_false]
end Go.Den.L9

/- Below a directory: what the program's search comes to. -/
namespace Go.Den.L9
open Go
def nmsL (r : List D) : List (List D) := asL (nthD r 6)
def idI (r : List D) : Int := asI (nthD r 0)
def tgV (l : List (List D)) (id : Int) : List Int := match fnd l id with | some r => idsOf (nmsL r) | none => []
def univ (l : List (List D)) : List Int := l.flatMap fun r => idsOf (nmsL r)
/-- Few inodes, few names. -/
structure Few (l : List (List D)) : Prop where
  n : l.length ≤ 24
  t : ∀ r ∈ l, typL shInode r
  k : ∀ r ∈ l, (nmsL r).length ≤ 12
theorem fnd_mem {l : List (List D)} {id : Int} {r : List D} (h : fnd l id = some r) : r ∈ l ∧ idI r = id := by
  refine ⟨List.mem_of_find?_eq_some h, ?_⟩
  have := List.find?_some h
  simpa [idI] using this
theorem nms_typ {r : List D} (h : typL shInode r) : ∀ d ∈ nmsL r, typL shDirent d := by
  obtain ⟨x1, x2, x3, x4, x5, x6, x7, x8, x9, rfl, -, -, h⟩ := Inode_row h
  exact h
theorem tg_univ {l : List (List D)} {x d : Int} (h : d ∈ tgV l x) : d ∈ univ l := by
  unfold tgV at h
  split at h
  · rename_i r hr
    exact List.mem_flatMap.2 ⟨r, (fnd_mem hr).1, h⟩
  · cases h
theorem univ_len {l : List (List D)} (h : Few l) : (univ l).length ≤ 288 := by
  have : ∀ (l : List (List D)) (n : Nat), (∀ r ∈ l, (nmsL r).length ≤ 12) → l.length ≤ n → (univ l).length ≤ n * 12 := by
    intro l
    induction l with
    | nil => intro n _ _; simp [univ]
    | cons r l ih =>
      intro n hk hn
      obtain ⟨n, rfl⟩ : ∃ n', n = n' + 1 := ⟨n - 1, by simp at hn; omega⟩
      have h1 := ih n (fun r hr => hk r (by simp [hr])) (by simpa using hn)
      have h2 := hk r (by simp)
      simp only [univ, List.flatMap_cons, List.length_append, idsOf, List.length_map] at h1 ⊢
      omega
  exact this l 24 h.k h.n
theorem reach_univ {l : List (List D)} {s d : Int} (h : Vq.Reach (tgV l) s d) : d ∈ univ l := by
  cases h with
  | base h => exact tg_univ h
  | step _ h => exact tg_univ h
theorem out_len {l : List (List D)} (h : Few l) {s : Int} {o : List Int} {i : Nat} (hi : Vq.Inv (tgV l) s o i) : o.length ≤ (univ l).length := List.Nodup.length_le_of_subset hi.nd fun d hd => reach_univ (hi.sound d hd)
theorem below_loop (n1 : Int) (l : List (List D)) (hf : Few l) (s n70 : Int) (q1 : Int → SV → Bool → SV → SV → SV → SV → SV → SV → List (List D) → List (List D) → Rs) (h1 : ∀ a b c d e f g h i j k, q1 a b c d e f g h i j k = some ([.one (.l j)], [])) :
    ∀ (k i m : Nat) (a b c d e f g h : SV) (o : List Int), i + k = (univ l).length + 2 → k < m → Vq.Inv (tgV l) s o i → i ≤ o.length + 1 →
      ∃ o', Vq.Inv (tgV l) s o' (o'.length + 1) ∧ la100o0 t101 t132 n1 l n70 q1 m (i : Int) a b c d e f g h (ints o) (ints (s :: o)) = some ([.one (.l (ints o'))], []) := by
  intro k
  have hu := univ_len hf
  have hn := hf.n
  induction k with
  | zero =>
    intro i m a b c d e f g h o e1 hm hi hl
    have := out_len hf hi
    omega
  | succ k ih =>
    intro i m a b c d e f g h o e1 hm hi hl
    obtain ⟨m, rfl⟩ : ∃ m', m = m' + 1 := ⟨m - 1, by omega⟩
    have ho := out_len hf hi
    have hlen : (ints (s :: o)).length = o.length + 1 := by rw [ints_len]; simp
    by_cases hx : i < o.length + 1
    · have hx' : i < (s :: o).length := by simpa using hx
      have hg : (ints (s :: o)).getD i [] = [D.i .i64 (s :: o)[i]] := ints_at hx'
      have hs : (s :: o)[i]? = some (s :: o)[i] := List.getElem?_eq_getElem hx'
      generalize (s :: o)[i] = x at hg hs
      have hnx := hi.next hs
      have e2 := nat_in (i := i) (n := (ints (s :: o)).length) (by omega)
      have e3 : (decide ((0 : Int) ≤ (i : Int)) && decide ((i : Int) < ((ints (s :: o)).length : Int))) = true := by rw [e2]; simp
      have e4 : (decide (1 ≤ ([D.i .i64 x] : List D).length) && isF z3 0 [D.i .i64 x]) = true := rfl
      have e5 : asI (nthD [D.i .i64 x] 0) = x := rfl
      have e6 := inode_ok n1 l x (by omega) hf.t
      have hw := w64_succ i (by omega)
      cases hr : fnd l x with
      | none =>
        rw [hr] at e6
        have htg : tgV l x = [] := by simp [tgV, hr]
        rw [htg] at hnx
        have hnx : Vq.Inv (tgV l) s o (i + 1) := hnx
        have e7 : okR zr132 zo132 (some ([.one (.b (none : Option (List D)).isSome), .agg ((none : Option (List D)).getD [.i .i64 0, .i .i64 0, .i .i64 0, .i .i64 0, .i .i64 0, .s ⟨#[]⟩, .l [], .i .i64 0, .i .i64 0])], [])) = true := rfl
        have e8 : asB (resC (some ([.one (.b (none : Option (List D)).isSome), .agg ((none : Option (List D)).getD [.i .i64 0, .i .i64 0, .i .i64 0, .i .i64 0, .i .i64 0, .s ⟨#[]⟩, .l [], .i .i64 0, .i .i64 0])], [])) 0 0) = false := rfl
        simp only [la100o0, e2, e3, Int.toNat_natCast, hg, e4, e5, e6, e7, e8, chk_true, if_true, Bool.not_false, hw]
        exact ih (i + 1) m _ _ _ _ _ _ _ _ o (by omega) (by omega) hnx (by omega)
      | some r =>
        obtain ⟨hrm, hrid⟩ := fnd_mem hr
        obtain ⟨x1, x2, x3, x4, x5, x6, x7, x8, x9, er, -, -, ht⟩ := Inode_row (hf.t r hrm)
        have hk : x7.length ≤ 12 := by have := hf.k r hrm; rw [er] at this; exact this
        have htg : tgV l x = idsOf x7 := by simp only [tgV, hr]; rw [er]; rfl
        rw [htg] at hnx
        rw [hr, er] at e6
        simp only [la100o0, e2, e3, Int.toNat_natCast, hg, e4, e5, e6, chk_true, if_true]
        obtain ⟨a', b', c', d', e9⟩ := names_loop n1 l n70 (i : Int) true false x7 ht (by omega) (fun (v136 : SV) (n137 : Int) (b138 : Bool) (v139 : SV) (l140 : List (List D)) (l141 : List (List D)) =>
          la100o0 t101 t132 n1 l n70 q1 m (w64 ((i : Int) + (1 : Int))) (keepV [704, 832] v136) (.d (.b true)) (.d (.b false)) (.d (.l x7)) (.d (.i .i64 (x7.length : Int))) (.d (.i .i64 n137)) (.d (.b b138)) (keepV [704, 832] v139) l140 l141) s x7.length 0 KK (SV.op true [.i .i64 x1, .i .i64 x2, .i .i64 x3, .i .i64 x4, .i .i64 x5, .s x6, .l x7, .i .i64 x8, .i .i64 x9]) g h o (by omega) (by rw [KK_eq]; omega) (by omega)
        have hp : o.length ≤ (Vq.ins o (idsOf x7)).length := (Vq.ins_pre (ds := idsOf x7) (o := o)).length_le
        obtain ⟨o', hi', ho'⟩ := ih (i + 1) m (keepV [704, 832] a') (.d (.b true)) (.d (.b false)) (.d (.l x7)) (.d (.i .i64 (x7.length : Int))) (.d (.i .i64 b')) (.d (.b c')) (keepV [704, 832] d') (Vq.ins o (idsOf x7)) (by omega) (by omega) hnx (by omega)
        refine ⟨o', hi', ?_⟩
        rw [← hw] at ho'
        exact Eq.trans e9 ho'
    · refine ⟨o, ?_, ?_⟩
      · rw [show o.length + 1 = i by omega]; exact hi
      · have e2 : decide ((i : Int) < ((ints (s :: o)).length : Int)) = false := by simp; omega
        simp only [la100o0, e2, Bool.false_eq_true, if_false, h1]
/-- What the search gives: all that can be reached, each once. -/
theorem below_ok (n1 : Int) (l : List (List D)) (hf : Few l) (s : Int) : ∃ o : List Int, o.Nodup ∧ o.length ≤ 288 ∧ (∀ d, d ∈ o ↔ Vq.Reach (tgV l) s d) ∧ t100 n1 l s = some ([.one (.l (ints o))], []) := by
  obtain ⟨o, hi, h⟩ := below_loop n1 l hf s s (fun (n181 : Int) (v182 : SV) (b183 : Bool) (v184 : SV) (v185 : SV) (v186 : SV) (v187 : SV) (v188 : SV) (v189 : SV) (l190 : List (List D)) (l191 : List (List D)) => some ([.one (.l l190)], [])) (fun _ _ _ _ _ _ _ _ _ _ _ => rfl) ((univ l).length + 2) 0 KK SV.undef SV.undef SV.undef SV.undef SV.undef SV.undef SV.undef SV.undef [] (by omega) (by rw [KK_eq]; have := univ_len hf; omega) Vq.Inv.start (by omega)
  exact ⟨o, hi.nd, Nat.le_trans (out_len hf hi) (univ_len hf), hi.last (Nat.le_refl _), h⟩
end Go.Den.L9

/- Below a directory: what the other search comes to. -/
namespace Go.Den.L9
open Go
/-- The place of an id. -/
def plc : List (List D) → Int → Option Nat
  | [], _ => none
  | r :: l, id => if idI r == id then some 0 else (plc l id).map (· + 1)
def atI (l : List (List D)) (id : Int) : Int := match plc l id with | some i => (i : Int) | none => -1
theorem plc_some : ∀ {l : List (List D)} {id : Int} {i : Nat}, plc l id = some i → i < l.length ∧ idI (l.getD i []) = id ∧ fnd l id = some (l.getD i [])
  | [], _, _, h => by simp [plc] at h
  | r :: l, id, i, h => by
    rw [plc] at h
    by_cases hq : (idI r == id) = true
    · simp only [hq, if_true, Option.some.injEq] at h
      subst h
      refine ⟨by simp, by simpa using hq, ?_⟩
      have : (asI (nthD r 0) == id) = true := hq
      simp only [fnd, List.find?_cons, this, List.getD_cons_zero]
    · simp only [hq, Bool.false_eq_true, if_false, Option.map_eq_some_iff] at h
      obtain ⟨j, hj, rfl⟩ := h
      obtain ⟨h1, h2, h3⟩ := plc_some hj
      have hq' : (asI (nthD r 0) == id) = false := by simpa [idI] using hq
      refine ⟨by simp; omega, by simpa using h2, ?_⟩
      simp only [fnd, List.find?_cons, hq']
      rw [show List.find? (fun r => asI (nthD r 0) == id) l = fnd l id from rfl, h3]
      simp
theorem plc_none : ∀ {l : List (List D)} {id : Int}, plc l id = none → fnd l id = none
  | [], _, _ => rfl
  | r :: l, id, h => by
    rw [plc] at h
    by_cases hq : (idI r == id) = true
    · simp [hq] at h
    · simp only [hq, Bool.false_eq_true, if_false, Option.map_eq_none_iff] at h
      have hq' : (asI (nthD r 0) == id) = false := by simpa [idI] using hq
      simp only [fnd, List.find?_cons, hq']
      exact plc_none h
theorem plc_isSome (l : List (List D)) (id : Int) : (plc l id).isSome = (fnd l id).isSome := by
  cases h : plc l id with
  | none => rw [plc_none h]; rfl
  | some i => rw [(plc_some h).2.2]; rfl
theorem plc_drop {l : List (List D)} {id : Int} {i : Nat} (hi : i < l.length) : plc (l.drop i) id = if idI l[i] == id then some 0 else (plc (l.drop (i + 1)) id).map (· + 1) := by
  rw [List.drop_eq_getElem_cons hi, plc]
theorem inode_row : ∀ r, typL shInode r → isRow z64 r = true := fun r h => by
  obtain ⟨x1, x2, x3, x4, x5, x6, x7, x8, x9, rfl, -⟩ := Inode_row h; rfl
theorem dirent_row : ∀ r, typL shDirent r → isRow z129 r = true := fun r h => by
  obtain ⟨x1, x2, rfl, -⟩ := Dirent_row h; rfl
theorem row_in {es : List Sh} {z : List D} {l : List (List D)} (h : ∀ r ∈ l, typL es r) (hz : ∀ r, typL es r → isRow z r = true) (i : Nat) (hi : i < l.length) : (decide ((0 : Int) ≤ (i : Int)) && decide ((i : Int) < (l.length : Int)) && isRow z (l.getD i [])) = true := by
  rw [nat_pos, nat_in hi, hz _ (getD_row h hi)]; rfl
theorem row_in' {es : List Sh} {z : List D} {l : List (List D)} (h : ∀ r ∈ l, typL es r) (hz : ∀ r, typL es r → isRow z r = true) (i : Nat) (hi : i < l.length) : (decide ((0 : Int) ≤ (i : Int)) && true && isRow z (l.getD i [])) = true := by
  rw [nat_pos, hz _ (getD_row h hi)]; rfl
theorem row_at {es : List Sh} {z : List D} {l : List (List D)} (h : ∀ r ∈ l, typL es r) (hz : ∀ r, typL es r → isRow z r = true) (i : Nat) (hi : i < l.length) : (decide ((0 : Int) ≤ (i : Int)) && true && isRow z l[i]) = true := by
  rw [nat_pos, hz _ (h _ (List.getElem_mem hi))]; rfl
theorem at_ok (n1 : Int) (l : List (List D)) (id : Int) (hl : l.length ≤ 1048576) (ht : ∀ r ∈ l, typL shInode r) : t126 n1 l id = some ([.one (.i .i64 (atI l id))], []) := by
  refine walkQ (α := Unit) (σ := SV × SV) (fun m i _ s' => l126o0 n1 l id 0 n1 l (fun n _ _ => some ([.one (.i .i64 n)], [])) (fun _ _ _ => some ([.one (.i .i64 (-1))], [])) m (i : Int) s'.1 s'.2) l.length (fun i _ => plc l id = (plc (l.drop i) id).map (· + i)) (fun x => x = some ([.one (.i .i64 (atI l id))], []))
    (by
      intro m a s' hp
      simp only [l126o0, at_out, Bool.false_eq_true, if_false]
      simp only [List.drop_length, plc, Option.map_none] at hp
      simp only [atI, hp])
    (by
      intro i m a s' hi hp
      have hg : l.getD i [] = l[i] := getD_in hi
      simp only [l126o0, nat_in hi, Int.toNat_natCast, row_at ht inode_row i hi, chk_true, if_true, w64_succ i (by omega), hg]
      rw [plc_drop hi] at hp
      by_cases hq : (idI l[i] == id) = true
      · right
        have hq' : (asI (nthD l[i] 0) == id) = true := hq
        simp only [hq', if_true]
        simp only [hq, if_true, Option.map_some, Nat.zero_add] at hp
        simp only [atI, hp]
      · left
        have hq' : (asI (nthD l[i] 0) == id) = false := by simpa [idI] using hq
        simp only [hq', Bool.false_eq_true, if_false]
        refine ⟨(), (_, _), rfl, ?_⟩
        simp only [hq, Bool.false_eq_true, if_false, Option.map_map] at hp
        rw [hp]; congr 1; funext x; simp; omega) l.length 0 KK () (SV.undef, SV.undef) (by omega) (by rw [KK_eq]; omega) (by simp)
def boolR (f : Nat → Bool) (n : Nat) : List (List D) := (List.range n).map fun i => [D.b (f i)]
theorem boolR_len (f : Nat → Bool) (n : Nat) : (boolR f n).length = n := by simp [boolR]
theorem boolR_at {f : Nat → Bool} {n i : Nat} (h : i < n) : (boolR f n).getD i [] = [D.b (f i)] := by simp [boolR, List.getD, h]
theorem boolR_rep (n : Nat) : List.replicate n z4 = boolR (fun _ => false) n := by
  apply List.ext_getElem
  · simp [boolR]
  · intro i h1 h2; simp [boolR, z4]
theorem boolR_set {f : Nat → Bool} {n x : Nat} (h : x < n) : stR (boolR f n) x 0 [.b true] = boolR (Vq.updB f x) n := by
  apply List.ext_getElem
  · simp [stR, boolR]
  · intro i h1 h2
    have hi : i < n := by simpa [stR, boolR] using h1
    simp only [stR, boolR, List.getElem_modify, List.getElem_map, List.getElem_range, Vq.updB]
    by_cases e : x = i
    · subst e; simp
    · simp only [e, if_false, show ¬ i = x from fun q => e q.symm]
theorem boolR_congr {f g : Nat → Bool} {n : Nat} (h : ∀ i, i < n → f i = g i) : boolR f n = boolR g n := by
  unfold boolR
  apply List.map_congr_left
  intro i hi
  rw [h i (List.mem_range.1 hi)]
def adjV (l : List (List D)) (i : Nat) : List Nat := (idsOf (nmsL (l.getD i []))).filterMap (plc l)
theorem adjV_lt {l : List (List D)} {i : Nat} : ∀ x ∈ adjV l i, x < l.length := by
  intro x hx
  obtain ⟨d, -, hd⟩ := List.mem_filterMap.1 hx
  exact (plc_some hd).1
theorem nm_loop (n379 : Int) (l380 : List (List D)) (n381 n382 n383 : Int) (b387 b388 b389 b390 : Bool) (n393 : Int) (l : List (List D)) (hl : l.length ≤ 1048576) (ht : ∀ r ∈ l, typL shInode r) (i : Nat) (hi : i < l.length) (hk : (nmsL (l.getD i [])).length ≤ 1048576) (q1 : Int → SV → Bool → SV → List (List D) → List (List D) → Rs) (p : Vq.BB) (v w x : SV) :
    ∃ a b c d, la92o6 t126 n379 l380 n381 n382 n383 (i : Int) b387 b388 b389 b390 n393 l q1 KK 0 v w x (boolR p.2 l.length) (boolR p.1 l.length) = q1 a b c d (boolR (Vq.nmB p (adjV l i)).2 l.length) (boolR (Vq.nmB p (adjV l i)).1 l.length) := by
  have hri := row_in ht inode_row i hi
  refine walkQ (α := Vq.BB) (σ := SV × SV × SV) (fun m j p s' => la92o6 t126 n379 l380 n381 n382 n383 (i : Int) b387 b388 b389 b390 n393 l q1 m (j : Int) s'.1 s'.2.1 s'.2.2 (boolR p.2 l.length) (boolR p.1 l.length)) (nmsL (l.getD i [])).length (fun j p' => p' = Vq.nmB p ((idsOf ((nmsL (l.getD i [])).take j)).filterMap (plc l))) (fun y => ∃ a b c d, y = q1 a b c d (boolR (Vq.nmB p (adjV l i)).2 l.length) (boolR (Vq.nmB p (adjV l i)).1 l.length))
    ?_ ?_ (nmsL (l.getD i [])).length 0 KK p (v, w, x) (by omega) (by rw [KK_eq]; omega) (by simp [idsOf, Vq.nmB])
  · intro m p' s' hp
    rw [List.take_length] at hp
    have e : decide (((nmsL (l.getD i [])).length : Int) < ((asL (nthD (l.getD i []) 6)).length : Int)) = false := at_out _
    simp only [la92o6, Int.toNat_natCast, hri, e, chk_true, Bool.false_eq_true, if_false, hp]
    exact ⟨_, _, _, _, rfl⟩
  · intro j m p' s' hj hp
    left
    have e : decide ((j : Int) < ((asL (nthD (l.getD i []) 6)).length : Int)) = true := nat_in hj
    have hrj := row_at (nms_typ (getD_row ht hi)) dirent_row j hj
    have ew : ∀ y, okR zr126 zo126 (some ([.one (.i .i64 y)], [])) = true := fun _ => rfl
    have eb : ∀ y, asI (resC (some ([.one (.i .i64 y)], [])) 0 0) = y := fun _ => rfl
    have hg : (asL (nthD (l.getD i []) 6)).getD j [] = (nmsL (l.getD i []))[j] := getD_in hj
    have ht1 : (idsOf ((nmsL (l.getD i [])).take (j + 1))).filterMap (plc l) = (idsOf ((nmsL (l.getD i [])).take j)).filterMap (plc l) ++ [asI (nthD (nmsL (l.getD i []))[j] 1)].filterMap (plc l) := by
      rw [List.take_succ_eq_append_getElem hj]; simp only [idsOf, List.map_append, List.filterMap_append, List.map_cons, List.map_nil]; rfl
    simp only [la92o6, Int.toNat_natCast, hri, e, hg, hrj, at_ok n393 l _ hl ht, ew, eb, chk_true, if_true, w64_succ j (by omega)]
    cases hq : plc l (asI (nthD (nmsL (l.getD i []))[j] 1)) with
    | none =>
      have h1 : atI l (asI (nthD (nmsL (l.getD i []))[j] 1)) = -1 := by simp only [atI, hq]
      have m1 : decide ((-1 : Int) ≥ 0) = false := rfl
      simp only [h1, m1, Bool.false_eq_true, if_false]
      refine ⟨p', (_, _, _), rfl, ?_⟩
      rw [ht1, hp]; simp only [List.filterMap_cons, hq, List.filterMap_nil, List.append_nil]
    | some y =>
      have h1 : atI l (asI (nthD (nmsL (l.getD i []))[j] 1)) = (y : Int) := by simp only [atI, hq]
      have hy := (plc_some hq).1
      simp only [h1]
      have a1 : decide ((y : Int) ≥ 0) = true := by simp
      have a2 : ∀ f, decide ((y : Int) < ((boolR f l.length).length : Int)) = true := by intro f; rw [boolR_len, nat_in hy]
      have a3 : ∀ f, decide (1 ≤ 1 ∧ y < (boolR f l.length).length) = true := by intro f; rw [boolR_len]; simpa using hy
      simp only [a1, nat_pos, a2, a3, Bool.and_true, if_true, chk_true, Int.toNat_natCast, boolR_set hy]
      refine ⟨Vq.setB p' y, (_, _, _), rfl, ?_⟩
      rw [ht1, hp]; simp only [List.filterMap_cons, hq, List.filterMap_nil, Vq.nmB, List.foldl_append, List.foldl_cons, List.foldl_nil]
theorem rd_loop (n1 : Int) (l342 : List (List D)) (n343 n344 n345 : Int) (b349 b350 : Bool) (n355 : Int) (l : List (List D)) (hl : l.length ≤ 1048576) (ht : ∀ r ∈ l, typL shInode r) (hk : ∀ r ∈ l, (nmsL r).length ≤ 1048576) (q1 : Int → SV → SV → Bool → SV → SV → SV → List (List D) → List (List D) → Rs) (p : Vq.BB) (s : SV × SV × SV × SV × SV × SV) :
    ∃ a b c d e f g, la92o3 t126 n1 l342 n343 n344 n345 b349 b350 n355 l q1 KK 0 s.1 s.2.1 s.2.2.1 s.2.2.2.1 s.2.2.2.2.1 s.2.2.2.2.2 (boolR p.2 l.length) (boolR p.1 l.length) = q1 a b c d e f g (boolR (Vq.rdB (adjV l) l.length p).2 l.length) (boolR (Vq.rdB (adjV l) l.length p).1 l.length) := by
  refine walkQ (α := Vq.BB) (σ := SV × SV × SV × SV × SV × SV) (fun m j p s => la92o3 t126 n1 l342 n343 n344 n345 b349 b350 n355 l q1 m (j : Int) s.1 s.2.1 s.2.2.1 s.2.2.2.1 s.2.2.2.2.1 s.2.2.2.2.2 (boolR p.2 l.length) (boolR p.1 l.length)) l.length (fun j p' => p' = (List.range j).foldl (Vq.plB (adjV l)) p) (fun y => ∃ a b c d e f g, y = q1 a b c d e f g (boolR (Vq.rdB (adjV l) l.length p).2 l.length) (boolR (Vq.rdB (adjV l) l.length p).1 l.length))
    ?_ ?_ l.length 0 KK p s (by omega) (by rw [KK_eq]; omega) (by simp)
  · intro m p' s' hp
    have e := at_out l.length
    simp only [la92o3, e, Bool.false_eq_true, if_false, hp]
    exact ⟨_, _, _, _, _, _, _, rfl⟩
  · intro j m p' s' hj hp
    left
    have a2 : (decide ((0 : Int) ≤ (j : Int)) && decide ((j : Int) < ((boolR p'.1 l.length).length : Int))) = true := by rw [boolR_len, nat_pos, nat_in hj]; rfl
    have a4 : (decide (1 ≤ ([D.b (p'.1 j)] : List D).length) && isF z4 0 [D.b (p'.1 j)]) = true := rfl
    have a5 : asB (nthD [D.b (p'.1 j)] 0) = p'.1 j := rfl
    have hfold : (List.range (j + 1)).foldl (Vq.plB (adjV l)) p = Vq.plB (adjV l) p' j := by rw [List.range_succ, List.foldl_append, hp]; rfl
    simp only [la92o3, nat_in hj, a2, Int.toNat_natCast, boolR_at hj, a4, a5, chk_true, if_true, w64_succ j (by omega)]
    cases ho : p'.1 j with
    | false =>
      simp only [Bool.not_false, if_true]
      refine ⟨p', (_, _, _, _, _, _), rfl, ?_⟩
      rw [hfold, Vq.plB, ho]; rfl
    | true =>
      simp only [Bool.not_true, Bool.false_eq_true, if_false]
      obtain ⟨a, b, c, d, he⟩ := nm_loop n1 l342 n343 n344 n345 b349 b350 true false n355 l hl ht j hj (hk _ (mem_getD hj)) (fun (n423 : Int) (v424 : SV) (b425 : Bool) (v426 : SV) (l427 : List (List D)) (l428 : List (List D)) =>
        la92o3 t126 n1 l342 n343 n344 n345 b349 b350 n355 l q1 m ((j + 1 : Nat) : Int) (.d (.i .i64 n423)) (keepV [128, 960, 1216] v424) (.d (.b true)) (.d (.b false)) (.d (.b b425)) (keepV [128, 960, 1216] v426) l427 l428) p' s'.2.1 s'.2.2.2.2.1 s'.2.2.2.2.2
      refine ⟨Vq.nmB p' (adjV l j), (_, _, _, _, _, _), he, ?_⟩
      rw [hfold, Vq.plB, ho]; rfl
theorem it_loop (n1 : Int) (l342 : List (List D)) (n343 n344 : Int) (b349 : Bool) (n355 : Int) (l : List (List D)) (hl : l.length ≤ 1048576) (ht : ∀ r ∈ l, typL shInode r) (hk : ∀ r ∈ l, (nmsL r).length ≤ 1048576) (q1 : Int → SV → SV → SV → Bool → SV → SV → SV → SV → List (List D) → List (List D) → Rs) (h1 : ∀ a b c d e f g h i j k, q1 a b c d e f g h i j k = some ([.one (.l j)], [])) (p : Vq.BB) (s : SV × SV × SV × SV × SV × SV × SV × SV) :
    la92o1 t126 n1 l342 n343 n344 b349 n355 l q1 KK 0 s.1 s.2.1 s.2.2.1 s.2.2.2.1 s.2.2.2.2.1 s.2.2.2.2.2.1 s.2.2.2.2.2.2.1 s.2.2.2.2.2.2.2 (boolR p.2 l.length) (boolR p.1 l.length) = some ([.one (.l (boolR (Vq.itB (adjV l) l.length l.length p).2 l.length))], []) := by
  refine walkQ (α := Vq.BB) (σ := SV × SV × SV × SV × SV × SV × SV × SV) (fun m j p s => la92o1 t126 n1 l342 n343 n344 b349 n355 l q1 m (j : Int) s.1 s.2.1 s.2.2.1 s.2.2.2.1 s.2.2.2.2.1 s.2.2.2.2.2.1 s.2.2.2.2.2.2.1 s.2.2.2.2.2.2.2 (boolR p.2 l.length) (boolR p.1 l.length)) l.length (fun j p' => p' = Vq.itB (adjV l) l.length j p) (fun y => y = some ([.one (.l (boolR (Vq.itB (adjV l) l.length l.length p).2 l.length))], []))
    ?_ ?_ l.length 0 KK p s (by omega) (by rw [KK_eq]; omega) rfl
  · intro m p' s' hp
    simp only [la92o1, at_out, Bool.false_eq_true, if_false, hp, h1]
  · intro j m p' s' hj hp
    left
    simp only [la92o1, nat_in hj, if_true, w64_succ j (by omega)]
    obtain ⟨a, b, c, d, e, f, g, he⟩ := rd_loop n1 l342 n343 n344 (j : Int) b349 true n355 l hl ht hk (fun (n474 : Int) (v475 : SV) (v476 : SV) (b477 : Bool) (v478 : SV) (v479 : SV) (v480 : SV) (l481 : List (List D)) (l482 : List (List D)) =>
       la92o1 t126 n1 l342 n343 n344 b349 n355 l q1 m ((j + 1 : Nat) : Int) (.d (.i .i64 n474)) (keepV [128, 960, 1216] v475) (keepV [128, 960, 1216] v476) (.d (.b true)) (.d (.b b477)) (keepV [128, 960, 1216] v478) (keepV [128, 960, 1216] v479) (keepV [128, 960, 1216] v480) l481 l482) p' (s'.2.1, s'.2.2.1, s'.2.2.2.2.1, s'.2.2.2.2.2.1, s'.2.2.2.2.2.2.1, s'.2.2.2.2.2.2.2)
    exact ⟨Vq.rdB (adjV l) l.length p', (_, _, _, _, _, _, _, _), he, by rw [hp]; rfl⟩
/-- A volume whose first loop went through. -/
structure GoodV (l : List (List D)) : Prop extends Few l where
  up : ∀ i j, i < j → j < l.length → idI (l.getD i []) < idI (l.getD j [])
  all : ∀ r ∈ l, ∀ d ∈ idsOf (nmsL r), (fnd l d).isSome = true
  dat : ∀ r ∈ l, (asS (nthD r 5)).size ≤ 64
  pln : ∀ r ∈ l, asI (nthD r 1) ≠ 2 → asI (nthD r 7) = 0 ∧ asI (nthD r 8) = 0
theorem GoodV.inj {l : List (List D)} (h : GoodV l) : ∀ i j, i < l.length → j < l.length → idI (l.getD i []) = idI (l.getD j []) → i = j := by
  intro i j hi hj e
  rcases Nat.lt_trichotomy i j with g | g | g
  · have := h.up i j g hj; omega
  · exact g
  · have := h.up j i g hi; omega
theorem GoodV.place {l : List (List D)} (h : GoodV l) {i : Nat} (hi : i < l.length) : plc l (idI (l.getD i [])) = some i := by
  cases hq : plc l (idI (l.getD i [])) with
  | none =>
    have := plc_none hq
    have h2 : (fnd l (idI (l.getD i []))).isSome = true := by
      unfold fnd; rw [List.find?_isSome]; exact ⟨_, mem_getD hi, by simp [idI]⟩
    rw [this] at h2; simp at h2
  | some j =>
    obtain ⟨h1, h2, -⟩ := plc_some hq
    rw [h.inj j i h1 hi h2]
theorem GoodV.found {l : List (List D)} (h : GoodV l) {i : Nat} (hi : i < l.length) : fnd l (idI (l.getD i [])) = some (l.getD i []) := (plc_some (h.place hi)).2.2
theorem GoodV.adj {l : List (List D)} (h : GoodV l) : ∀ i, i < l.length → ∀ d, d ∈ tgV l (idI (l.getD i [])) ↔ ∃ x ∈ adjV l i, idI (l.getD x []) = d := by
  intro i hi d
  simp only [tgV, h.found hi]
  constructor
  · intro hd
    have := h.all _ (mem_getD hi) d hd
    rw [← plc_isSome, Option.isSome_iff_exists] at this
    obtain ⟨x, hx⟩ := this
    exact ⟨x, List.mem_filterMap.2 ⟨d, hd, hx⟩, (plc_some hx).2.1⟩
  · rintro ⟨x, hx, e⟩
    obtain ⟨d', hd, hx⟩ := List.mem_filterMap.1 hx
    rw [(plc_some hx).2.1] at e
    exact e ▸ hd
open Classical in
theorem below_spec (n1 : Int) (l : List (List D)) (h : GoodV l) (i : Nat) (hi : i < l.length) : t92 n1 l (idI (l.getD i [])) = some ([.one (.l (boolR (fun x => decide (Vq.Reach (tgV l) (idI (l.getD i [])) (idI (l.getD x [])))) l.length))], []) := by
  have hn := h.n
  have hl : l.length ≤ 1048576 := by omega
  have ew : ∀ y, okR zr126 zo126 (some ([.one (.i .i64 y)], [])) = true := fun _ => rfl
  have eb : ∀ y, asI (resC (some ([.one (.i .i64 y)], [])) 0 0) = y := fun _ => rfl
  have e1 : decide (0 ≤ (l.length : Int) ∧ (l.length : Int) ≤ lim ∧ True) = true := by unfold lim; simp; omega
  have e2 : atI l (idI (l.getD i [])) = (i : Int) := by simp only [atI, h.place hi]
  have e3 : decide ((i : Int) < 0) = false := by simp
  have a2 : ∀ f, (decide ((0 : Int) ≤ (i : Int)) && decide ((i : Int) < ((boolR f l.length).length : Int))) = true := by intro f; rw [boolR_len, nat_pos, nat_in hi]; rfl
  have a3 : ∀ f, decide (1 ≤ 1 ∧ i < (boolR f l.length).length) = true := by intro f; rw [boolR_len]; simpa using hi
  simp only [t92, ta92, at_ok n1 l _ hl h.t, ew, eb, e1, e2, e3, chk_true, Bool.false_eq_true, if_false, Int.toNat_natCast, boolR_rep, a2, a3, boolR_set hi]
  refine Eq.trans (it_loop n1 l (idI (l.getD i [])) (i : Int) false n1 l hl h.t (fun r hr => by have := h.k r hr; omega) _ (fun _ _ _ _ _ _ _ _ _ _ _ => rfl) (Vq.updB (fun _ => false) i, fun _ => false) (SV.undef, SV.undef, SV.undef, SV.undef, SV.undef, SV.undef, SV.undef, SV.undef)) ?_
  have : boolR (Vq.itB (adjV l) l.length l.length (Vq.updB (fun _ => false) i, fun _ => false)).2 l.length = boolR (fun x => decide (Vq.Reach (tgV l) (idI (l.getD i [])) (idI (l.getD x [])))) l.length := by
    apply boolR_congr
    intro x hx
    rw [Bool.eq_iff_iff, Vq.itB_reach (fun i => adjV_lt) hi, decide_eq_true_eq]
    exact Vq.reach_iff h.adj (fun i => adjV_lt) h.inj hi x hx
  rw [this]
end Go.Den.L9

/- What is used, who is over, how often a name leads there, how much there is. -/
namespace Go.Den.L9
open Go
theorem w64_add (a b : Nat) (h : a + b < 4611686018427387904) : w64 ((a : Int) + (b : Int)) = ((a + b : Nat) : Int) := by
  rw [w64_in _ (by omega)]; omega
theorem sum_le {α : Type} {f : α → Nat} {c : Nat} : ∀ (l : List α), (∀ x ∈ l, f x ≤ c) → (l.map f).sum ≤ l.length * c
  | [], _ => by simp
  | x :: l, h => by
    have h1 := sum_le l (fun x hx => h x (by simp [hx]))
    have h2 := h x (by simp)
    simp only [List.map_cons, List.sum_cons, List.length_cons, Nat.add_mul]; omega
theorem sum_take {α : Type} (f : α → Nat) {l : List α} {i : Nat} (hi : i < l.length) : ((l.take (i + 1)).map f).sum = ((l.take i).map f).sum + f l[i] := by
  rw [List.take_succ_eq_append_getElem hi, List.map_append, List.sum_append_nat]; simp
theorem sum_take_le {α : Type} {f : α → Nat} {c : Nat} {l : List α} (h : ∀ x ∈ l, f x ≤ c) {i n : Nat} (hn : l.length ≤ n) : ((l.take i).map f).sum ≤ n * c := by
  refine Nat.le_trans (sum_le _ fun x hx => h x (List.mem_of_mem_take hx)) ?_
  exact Nat.mul_le_mul_right _ (by simp; omega)
def datN (r : List D) : Nat := (asS (nthD r 5)).size
open Classical in
/-- The places below a directory. -/
noncomputable def blw (l : List (List D)) (s : Int) (n : Nat) : List Nat := (List.range n).filter fun x => decide (Vq.Reach (tgV l) s (idI (l.getD x [])))
noncomputable def usB (l : List (List D)) (s : Int) : Nat := ((blw l s l.length).map fun x => datN (l.getD x [])).sum
noncomputable def usN (l : List (List D)) (s : Int) : Nat := (blw l s l.length).length
theorem usage_impl (n1 : Int) (l : List (List D)) (h : GoodV l) (s : Int) : t135 n1 l s = some ([.one (.i .i64 (usB l s)), .one (.i .i64 (usN l s))], []) := by
  obtain ⟨o, hnd, hlen, hmem, hb⟩ := below_ok n1 l h.toFew s
  have hn := h.n
  let g : Int → Nat := fun x => match fnd l x with | some r => datN r | none => 0
  have hg : ∀ x ∈ o, g x ≤ 64 := by
    intro x hx
    simp only [g]
    cases hq : fnd l x with
    | none => simp
    | some r => exact h.dat r (fnd_mem hq).1
  have hperm : o.Perm ((blw l s l.length).map fun x => idI (l.getD x [])) := by
    refine Vq.perm_of hnd ?_ ?_
    · unfold blw List.Nodup
      rw [List.pairwise_map]
      refine List.Pairwise.imp_of_mem ?_ (List.nodup_range.filter _ : List.Pairwise _ _)
      intro a b ha hb2 hab e
      exact hab (h.inj a b (List.mem_range.1 (List.mem_filter.1 ha).1) (List.mem_range.1 (List.mem_filter.1 hb2).1) e)
    · intro a
      rw [hmem]
      simp only [List.mem_map, blw, List.mem_filter, List.mem_range, decide_eq_true_eq]
      constructor
      · intro hr
        have hu := reach_univ hr
        obtain ⟨r, hr1, hr2⟩ := List.mem_flatMap.1 hu
        have := h.all r hr1 a hr2
        rw [← plc_isSome, Option.isSome_iff_exists] at this
        obtain ⟨x, hx⟩ := this
        obtain ⟨h1, h2, -⟩ := plc_some hx
        exact ⟨x, ⟨h1, by rw [h2]; exact hr⟩, h2⟩
      · rintro ⟨x, ⟨_, h2⟩, rfl⟩; exact h2
  have hsum : (o.map g).sum = usB l s := by
    rw [(hperm.map g).sum_nat, List.map_map]
    unfold usB
    congr 1
    apply List.map_congr_left
    intro x hx
    have hx := List.mem_range.1 (List.mem_filter.1 hx).1
    simp only [Function.comp, g, h.found hx]
  have hl2 : o.length = usN l s := by rw [hperm.length_eq, List.length_map]; rfl
  have ew : ∀ y, okR zr100 zo100 (some ([.one (.l y)], [])) = true := fun _ => rfl
  have eb : ∀ y, asL (resC (some ([.one (.l y)], [])) 0 0) = y := fun _ => rfl
  have hlo := ints_len o
  have ew2 : ∀ b r, (r = [.i .i64 0, .i .i64 0, .i .i64 0, .i .i64 0, .i .i64 0, .s ⟨#[]⟩, .l [], .i .i64 0, .i .i64 0] ∨ typL shInode r) → okR zr132 zo132 (some ([.one (.b b), .agg r], [])) = true := by
    intro b r hr
    rcases hr with rfl | hr
    · rfl
    · obtain ⟨x1, x2, x3, x4, x5, x6, x7, x8, x9, rfl, -⟩ := Inode_row hr; rfl
  have eb2 : ∀ b r, asB (resC (some ([.one (.b b), .agg r], [])) 0 0) = b := fun _ _ => rfl
  simp only [t135, ta135, hb, ew, eb, chk_true]
  refine walkQ (α := Nat) (σ := SV × SV × SV × SV) (fun m i b s' => la135o0 t100 t132 n1 l s 0 0 ((ints o).length : Int) (ints o) (fun (n47 : Int) (v48 : SV) (v49 : SV) (n50 : Int) (b51 : Bool) (v52 : SV) => some ([.one (.i .i64 n47), .one (.i .i64 ((ints o).length : Int))], [])) m (b : Int) s'.1 s'.2.1 (i : Int) s'.2.2.1 s'.2.2.2) o.length (fun i b => b = ((o.take i).map g).sum) (fun y => y = some ([.one (.i .i64 (usB l s)), .one (.i .i64 (usN l s))], []))
    ?_ ?_ o.length 0 KK 0 (SV.undef, SV.undef, SV.undef, SV.undef) (by omega) (by rw [KK_eq]; omega) (by simp)
  · intro m b s' hp
    rw [List.take_length, hsum] at hp
    have e : decide ((o.length : Int) < ((ints o).length : Int)) = false := by rw [hlo]; simp
    simp only [la135o0, e, Bool.false_eq_true, if_false, hp]
    rw [hlo, hl2]
  · intro i m b s' hi hp
    left
    have e : decide ((i : Int) < ((ints o).length : Int)) = true := by rw [hlo]; exact nat_in hi
    have hbl : b ≤ 288 * 64 := by rw [hp]; exact sum_take_le hg hlen
    have a4 : (decide (1 ≤ ([D.i .i64 o[i]] : List D).length) && isF z3 0 [D.i .i64 o[i]]) = true := rfl
    have a5 : asI (nthD [D.i .i64 o[i]] 0) = o[i] := rfl
    have hst := sum_take g hi
    have hw := w64_succ i (by omega)
    have e6 := inode_ok n1 l o[i] (by omega) h.t
    cases hq : fnd l o[i] with
    | none =>
      rw [hq] at e6
      have hg0 : g o[i] = 0 := by simp only [g, hq]
      simp only [la135o0, e, nat_pos, Bool.and_true, Int.toNat_natCast, ints_at hi, a4, a5, e6, ew2 _ _ (.inl rfl), eb2, Option.isSome_none, Option.getD_none, chk_true, if_true, Bool.not_false, Bool.not_true, Bool.false_eq_true, if_false, hw]
      exact ⟨b, (_, _, _, _), rfl, by omega⟩
    | some r =>
      rw [hq] at e6
      have hr := (fnd_mem hq).1
      have hg0 : g o[i] = datN r := by simp only [g, hq]
      have hd := h.dat r hr
      have e7 : asS (resC (some ([.one (.b true), .agg r], [])) 1 5) = asS (nthD r 5) := by
        obtain ⟨x1, x2, x3, x4, x5, x6, x7, x8, x9, rfl, -⟩ := Inode_row (h.t r hr); rfl
      have hw2 : w64 ((b : Int) + ((asS (nthD r 5)).size : Int)) = ((b + datN r : Nat) : Int) := w64_add b (datN r) (by unfold datN; omega)
      simp only [la135o0, e, nat_pos, Bool.and_true, Int.toNat_natCast, ints_at hi, a4, a5, e6, ew2 _ _ (.inr (h.t r hr)), eb2, Option.isSome_some, Option.getD_some, chk_true, if_true, Bool.not_true, Bool.not_false, hw, e7, hw2]
      exact ⟨b + datN r, (_, _, _, _), rfl, by omega⟩
theorem usage_spec (n1 : Int) (l : List (List D)) (h : GoodV l) (j : Nat) (hj : j < l.length) : t127 n1 l (idI (l.getD j [])) = some ([.one (.i .i64 (usB l (idI (l.getD j [])))), .one (.i .i64 (usN l (idI (l.getD j []))))], []) := by
  have hn := h.n
  have hb := below_spec n1 l h j hj
  generalize idI (l.getD j []) = s at hb ⊢
  have ew : ∀ y, okR zr92 zo92 (some ([.one (.l y)], [])) = true := fun _ => rfl
  have eb : ∀ y, asL (resC (some ([.one (.l y)], [])) 0 0) = y := fun _ => rfl
  simp only [t127, ta127, hb, ew, eb, chk_true]
  have hbl : ∀ i, i ≤ l.length → (blw l s i).length ≤ 24 ∧ ((blw l s i).map fun x => datN (l.getD x [])).sum ≤ 1536 := by
    intro i hi
    have h1 : (blw l s i).length ≤ 24 := by
      unfold blw
      have := List.length_filter_le (fun x => @decide (Vq.Reach (tgV l) s (idI (l.getD x []))) (Classical.propDecidable _)) (List.range i)
      simp only [List.length_range] at this
      omega
    refine ⟨h1, ?_⟩
    have := sum_le (f := fun x => datN (l.getD x [])) (c := 64) (blw l s i) (fun x hx => by
      have hx := (List.mem_filter.1 hx).1
      exact h.dat _ (mem_getD (by have := List.mem_range.1 hx; omega)))
    omega
  refine walkQ (α := Nat × Nat) (σ := SV × SV) (fun m i b s' => la127o0 t92 n1 l s 0 0 n1 l (boolR (fun x => @decide (Vq.Reach (tgV l) s (idI (l.getD x []))) (Classical.propDecidable _)) l.length) (fun (n50 : Int) (n51 : Int) (n52 : Int) (b53 : Bool) (v54 : SV) => some ([.one (.i .i64 n50), .one (.i .i64 n51)], [])) m (b.1 : Int) (b.2 : Int) (i : Int) s'.1 s'.2) l.length (fun i b => b.1 = ((blw l s i).map fun x => datN (l.getD x [])).sum ∧ b.2 = (blw l s i).length) (fun y => y = some ([.one (.i .i64 (usB l s)), .one (.i .i64 (usN l s))], []))
    ?_ ?_ l.length 0 KK (0, 0) (SV.undef, SV.undef) (by omega) (by rw [KK_eq]; omega) (by simp [blw])
  · intro m b s' hp
    have e : ∀ f, decide ((l.length : Int) < ((boolR f l.length).length : Int)) = false := by intro f; rw [boolR_len]; simp
    simp only [la127o0, e, Bool.false_eq_true, if_false, hp.1, hp.2]
    rfl
  · intro i m b s' hi hp
    left
    have e : ∀ f, decide ((i : Int) < ((boolR f l.length).length : Int)) = true := by intro f; rw [boolR_len]; exact nat_in hi
    have hbb := hbl i (by omega)
    have a4 : ∀ b, (decide (1 ≤ ([D.b b] : List D).length) && isF z4 0 [D.b b]) = true := fun _ => rfl
    have a5 : ∀ b, asB (nthD [D.b b] 0) = b := fun _ => rfl
    have hw := w64_succ i (by omega)
    have hr := row_in h.t inode_row i hi
    have hd := h.dat _ (mem_getD hi)
    have hst : blw l s (i + 1) = blw l s i ++ if @decide (Vq.Reach (tgV l) s (idI (l.getD i []))) (Classical.propDecidable _) = true then [i] else [] := by
      unfold blw; rw [List.range_succ, List.filter_append]
      congr 1
      simp only [List.filter_cons, List.filter_nil]
    simp only [la127o0, e, nat_pos, Bool.and_true, Int.toNat_natCast, boolR_at hi, a4, a5, chk_true, if_true, hw]
    cases hc : @decide (Vq.Reach (tgV l) s (idI (l.getD i []))) (Classical.propDecidable _) with
    | false =>
      rw [hc] at hst
      simp only [Bool.false_eq_true, if_false, List.append_nil] at hst ⊢
      exact ⟨b, (_, _), rfl, by rw [hst]; exact hp⟩
    | true =>
      rw [hc] at hst
      simp only [if_true] at hst ⊢
      have hw2 : w64 ((b.1 : Int) + ((asS (nthD (l.getD i []) 5)).size : Int)) = ((b.1 + datN (l.getD i []) : Nat) : Int) := w64_add b.1 (datN (l.getD i [])) (by have hd' : datN (l.getD i []) ≤ 64 := hd; omega)
      have hw3 : w64 ((b.2 : Int) + 1) = ((b.2 + 1 : Nat) : Int) := w64_succ _ (by omega)
      rw [nat_pos, Bool.true_and] at hr
      simp only [Bool.true_and, hr, chk_true, hw2, hw3]
      refine ⟨(b.1 + datN (l.getD i []), b.2 + 1), (_, _), rfl, ?_⟩
      rw [hst]
      simp only [List.map_append, List.sum_append_nat, List.map_cons, List.map_nil, List.sum_cons, List.sum_nil, List.length_append, List.length_cons, List.length_nil]
      omega
end Go.Den.L9

/- Who is over, how often a name leads there, how much there is. -/
namespace Go.Den.L9
open Go
noncomputable def overB (l : List (List D)) (r : List D) : Bool := ((decide (asI (nthD r 7) > (0 : Int))) && (decide ((usB l (idI r) : Int) > asI (nthD r 7)))) || ((decide (asI (nthD r 8) > (0 : Int))) && (decide ((usN l (idI r) : Int) > asI (nthD r 8))))
noncomputable def overs (l : List (List D)) : Bool := !allW (fun i => !overB l (l.getD i [])) l.length 0
theorem isOver_ok (n1 : Int) (l : List (List D)) (h : GoodV l) (a1 a2 a3 a4 a5 : Int) (s6 : ByteArray) (l7 : List (List D)) (a8 a9 : Int) : t105 n1 l a1 a2 a3 a4 a5 s6 l7 a8 a9 = some ([.one (.b (overB l [.i .i64 a1, .i .i64 a2, .i .i64 a3, .i .i64 a4, .i .i64 a5, .s s6, .l l7, .i .i64 a8, .i .i64 a9]))], []) := by
  have ew : ∀ x y, okR zr135 zo135 (some ([.one (.i .i64 x), .one (.i .i64 y)], [])) = true := fun _ _ => rfl
  simp only [t105, ta105, usage_impl n1 l h, ew, chk_true]
  rfl
theorem cf_ok (n1 : Int) (l : List (List D)) (h : GoodV l) : t104 l n1 l = some ([.one (.b (overs l))], []) := by
  have hn := h.n
  have key : ∃ z : Int, t134 l n1 l = some ([.one (.i .i64 z)], []) ∧ decide (z ≥ 0) = overs l := by
    refine walkQ (α := Unit) (σ := SV × SV × SV) (fun m i _ s' => la134o0 t105 l n1 l 0 (l.length : Int) (fun (n35 : Int) (b36 : Bool) (b37 : Bool) => some ([.one (.i .i64 n35)], [])) (fun (v38 : SV) (n39 : Int) (b40 : Bool) (v41 : SV) => some ([.one (.i .i64 (-1 : Int))], [])) m s'.1 (i : Int) s'.2.1 s'.2.2) l.length (fun i _ => ∀ j, j < i → overB l (l.getD j []) = false) (fun y => ∃ z : Int, y = some ([.one (.i .i64 z)], []) ∧ decide (z ≥ 0) = overs l)
      ?_ ?_ l.length 0 KK () (SV.undef, SV.undef, SV.undef) (by omega) (by rw [KK_eq]; omega) (by intro j hj; omega)
    · intro m _ s' hp
      simp only [la134o0, at_out, Bool.false_eq_true, if_false]
      refine ⟨-1, rfl, ?_⟩
      have : allW (fun i => !overB l (l.getD i [])) l.length 0 = true := (allW_iff _ _).2 (fun j _ hj => by simp only [hp j (by omega), Bool.not_false])
      simp only [overs, this]
      rfl
    · intro i m _ s' hi hp
      have hr := row_in' h.t inode_row i hi
      have hg := mem_getD hi
      obtain ⟨x1, x2, x3, x4, x5, x6, x7, x8, x9, er, -⟩ := Inode_row (h.t _ hg)
      have ho := isOver_ok n1 l h x1 x2 x3 x4 x5 x6 x7 x8 x9
      rw [← er] at ho
      have eo : t105 n1 l (asI (nthD (l.getD i []) 0)) (asI (nthD (l.getD i []) 1)) (asI (nthD (l.getD i []) 2)) (asI (nthD (l.getD i []) 3)) (asI (nthD (l.getD i []) 4)) (asS (nthD (l.getD i []) 5)) (asL (nthD (l.getD i []) 6)) (asI (nthD (l.getD i []) 7)) (asI (nthD (l.getD i []) 8)) = some ([.one (.b (overB l (l.getD i [])))], []) := by
        rw [← ho, er]; rfl
      have ew : ∀ x, okR zr105 zo105 (some ([.one (.b x)], [])) = true := fun _ => rfl
      have eb : ∀ x, asB (resC (some ([.one (.b x)], [])) 0 0) = x := fun _ => rfl
      simp only [la134o0, nat_in hi, Int.toNat_natCast, hr, eo, ew, eb, chk_true, if_true, w64_succ i (by omega)]
      cases hc : overB l (l.getD i []) with
      | false =>
        left
        simp only [Bool.false_eq_true, if_false]
        refine ⟨(), (_, _, _), rfl, ?_⟩
        intro j hj
        by_cases e : j = i
        · rw [e]; exact hc
        · exact hp j (by omega)
      | true =>
        right
        simp only [if_true]
        refine ⟨i, rfl, ?_⟩
        have : allW (fun i => !overB l (l.getD i [])) l.length 0 = false := by
          rw [Bool.eq_false_iff]
          intro hq
          have := (allW_iff _ _).1 hq i (by omega) (by omega)
          simp only [hc, Bool.not_true] at this
          cases this
        simp only [overs, this]
        simp
  obtain ⟨z, hz, hd⟩ := key
  have ew : ∀ x, okR zr134 zo134 (some ([.one (.i .i64 x)], [])) = true := fun _ => rfl
  have eb : ∀ x, asI (resC (some ([.one (.i .i64 x)], [])) 0 0) = x := fun _ => rfl
  simp only [t104, ta104, hz, ew, eb, chk_true, hd]
theorem over_spec (n1 : Int) (l : List (List D)) (h : GoodV l) : t95 n1 l = some ([.one (.b (overs l))], []) := by
  have hn := h.n
  have key := walkA (σ := SV × SV × SV × SV × SV) (fun m i s' => la95o0 t127 n1 l false n1 l (fun _ _ _ _ _ _ _ _ _ _ _ _ _ _ _ => some ([.one (.b true)], [])) (fun _ _ _ _ _ _ => some ([.one (.b false)], [])) m (i : Int) s'.1 s'.2.1 s'.2.2.1 s'.2.2.2.1 s'.2.2.2.2) l.length (fun i => !overB l (l.getD i [])) (some ([.one (.b true)], [])) (some ([.one (.b false)], []))
    (by intro m s'; simp only [la95o0, at_out, Bool.false_eq_true, if_false])
    (by
      intro i m s' hi
      have hr := row_in' h.t inode_row i hi
      have hp := h.pln _ (mem_getD hi)
      have hu := usage_spec n1 l h i hi
      have hu : t127 n1 l (asI (nthD (l.getD i []) 0)) = some ([.one (.i .i64 (usB l (idI (l.getD i [])))), .one (.i .i64 (usN l (idI (l.getD i []))))], []) := hu
      have ew : ∀ x y, okR zr127 zo127 (some ([.one (.i .i64 x), .one (.i .i64 y)], [])) = true := fun _ _ => rfl
      have eb : ∀ x y, asI (resC (some ([.one (.i .i64 x), .one (.i .i64 y)], [])) 0 0) = x := fun _ _ => rfl
      have ec : ∀ x y, asI (resC (some ([.one (.i .i64 x), .one (.i .i64 y)], [])) 1 0) = y := fun _ _ => rfl
      simp only [la95o0, nat_in hi, Int.toNat_natCast, hr, hu, ew, eb, ec, chk_true, if_true, w64_succ i (by omega)]
      by_cases hc : ((asI (nthD (l.getD i []) 1) != 2) || ((asI (nthD (l.getD i []) 7) == 0) && (asI (nthD (l.getD i []) 8) == 0))) = true
      · left
        have hz : asI (nthD (l.getD i []) 7) = 0 ∧ asI (nthD (l.getD i []) 8) = 0 := by
          simp only [Bool.or_eq_true, Bool.and_eq_true, bne_iff_ne, beq_iff_eq] at hc
          rcases hc with hc | hc
          · exact hp hc
          · exact hc
        simp only [hc, if_true]
        refine ⟨?_, (_, _, _, _, _), rfl⟩
        simp only [overB, hz.1, hz.2]
        simp
      · rw [Bool.not_eq_true] at hc
        simp only [hc, Bool.false_eq_true, if_false]
        cases ho : overB l (l.getD i []) with
        | true =>
          right
          have ho' := ho
          unfold overB at ho'
          simp only [ho', if_true]
          exact ⟨rfl, trivial⟩
        | false =>
          left
          have ho' := ho
          unfold overB at ho'
          simp only [ho', Bool.false_eq_true, if_false]
          exact ⟨rfl, (_, _, _, _, _), rfl⟩) l.length 0 KK (SV.undef, SV.undef, SV.undef, SV.undef, SV.undef) (by omega) (by rw [KK_eq]; omega)
  refine Eq.trans key ?_
  unfold overs
  split
  · rename_i hq; rw [hq]; rfl
  · rename_i hq; rw [Bool.not_eq_true] at hq; rw [hq]; rfl
def cntN (id : Int) (r : List D) : Nat := ((nmsL r).filter fun e => idOf e == id).length
def nmdN (l : List (List D)) (id : Int) : Nat := (l.map (cntN id)).sum
def totN (l : List (List D)) : Nat := (l.map datN).sum
theorem cnt_le {l : List (List D)} (h : Few l) (id : Int) : ∀ r ∈ l, cntN id r ≤ 12 := by
  intro r hr
  have := h.k r hr
  have h2 := List.length_filter_le (fun e => idOf e == id) (nmsL r)
  unfold cntN; omega
theorem cnt_take {id : Int} {L : List (List D)} {j : Nat} (hj : j < L.length) : ((L.take (j + 1)).filter fun e => idOf e == id).length = ((L.take j).filter fun e => idOf e == id).length + if idOf L[j] == id then 1 else 0 := by
  rw [List.take_succ_eq_append_getElem hj, List.filter_append, List.length_append]
  congr 1
  simp only [List.filter_cons, List.filter_nil]
  split <;> rfl
theorem total_impl (n1 : Int) (l : List (List D)) (h : GoodV l) : t103 n1 l = some ([.one (.i .i64 (totN l))], []) := by
  have hn := h.n
  refine walkQ (α := Nat) (σ := SV) (fun m i b s' => l103o0 n1 l 0 l (l.length : Int) (fun n29 _ _ => some ([.one (.i .i64 n29)], [])) m (b : Int) (i : Int) s') l.length (fun i b => b = ((l.take i).map datN).sum) (fun y => y = some ([.one (.i .i64 (totN l))], []))
    ?_ ?_ l.length 0 KK 0 SV.undef (by omega) (by rw [KK_eq]; omega) (by simp)
  · intro m b s' hp
    rw [List.take_length] at hp
    simp only [l103o0, at_out, Bool.false_eq_true, if_false, hp]
    rfl
  · intro i m b s' hi hp
    left
    have hr := row_at h.t inode_row i hi
    have hb : b ≤ 24 * 64 := by rw [hp]; exact sum_take_le h.dat hn
    have hd : datN l[i] ≤ 64 := h.dat _ (List.getElem_mem hi)
    have hw2 : w64 ((b : Int) + ((asS (nthD l[i] 5)).size : Int)) = ((b + datN l[i] : Nat) : Int) := w64_add b (datN l[i]) (by omega)
    have hg : l.getD i [] = l[i] := getD_in hi
    simp only [l103o0, nat_in hi, Int.toNat_natCast, hg, hr, chk_true, if_true, w64_succ i (by omega), hw2]
    exact ⟨_, _, rfl, by rw [sum_take datN hi, hp]⟩
theorem total_spec (n1 : Int) (l : List (List D)) (h : GoodV l) : t94 n1 l = some ([.one (.i .i64 (totN l))], []) := by
  have hn := h.n
  refine walkQ (α := Nat) (σ := SV) (fun m i b s' => l94o0 n1 l 0 n1 l (fun n29 _ _ => some ([.one (.i .i64 n29)], [])) m (b : Int) (i : Int) s') l.length (fun i b => b = ((l.take i).map datN).sum) (fun y => y = some ([.one (.i .i64 (totN l))], []))
    ?_ ?_ l.length 0 KK 0 SV.undef (by omega) (by rw [KK_eq]; omega) (by simp)
  · intro m b s' hp
    rw [List.take_length] at hp
    simp only [l94o0, at_out, Bool.false_eq_true, if_false, hp]
    rfl
  · intro i m b s' hi hp
    left
    have hr := row_at h.t inode_row i hi
    have hb : b ≤ 24 * 64 := by rw [hp]; exact sum_take_le h.dat hn
    have hd : datN l[i] ≤ 64 := h.dat _ (List.getElem_mem hi)
    have hw2 : w64 ((b : Int) + ((asS (nthD l[i] 5)).size : Int)) = ((b + datN l[i] : Nat) : Int) := w64_add b (datN l[i]) (by omega)
    have hg : l.getD i [] = l[i] := getD_in hi
    simp only [l94o0, nat_in hi, Int.toNat_natCast, hg, hr, chk_true, if_true, w64_succ i (by omega), hw2]
    exact ⟨_, _, rfl, by rw [sum_take datN hi, hp]⟩
theorem named_impl (n1 : Int) (l : List (List D)) (h : GoodV l) (id : Int) : t102 n1 l id = some ([.one (.i .i64 (nmdN l id))], []) := by
  have hn := h.n
  refine walkQ (α := Nat) (σ := SV × SV × SV × SV × SV × SV) (fun m i b s' => l102o0 n1 l id 0 l (l.length : Int) (fun n204 _ _ _ _ _ _ _ => some ([.one (.i .i64 n204)], [])) m (b : Int) (i : Int) s'.1 s'.2.1 s'.2.2.1 s'.2.2.2.1 s'.2.2.2.2.1 s'.2.2.2.2.2) l.length (fun i b => b = ((l.take i).map (cntN id)).sum) (fun y => y = some ([.one (.i .i64 (nmdN l id))], []))
    ?_ ?_ l.length 0 KK 0 (SV.undef, SV.undef, SV.undef, SV.undef, SV.undef, SV.undef) (by omega) (by rw [KK_eq]; omega) (by simp)
  · intro m b s' hp
    rw [List.take_length] at hp
    simp only [l102o0, at_out, Bool.false_eq_true, if_false, hp]
    rfl
  · intro i m b s' hi hp
    left
    have hr := row_at h.t inode_row i hi
    have hb : b ≤ 24 * 12 := by rw [hp]; exact sum_take_le (cnt_le h.toFew id) hn
    have hg : l.getD i [] = l[i] := getD_in hi
    have hk : (nmsL l[i]).length ≤ 12 := h.k _ (List.getElem_mem hi)
    simp only [l102o0, nat_in hi, Int.toNat_natCast, hg, hr, chk_true, if_true, w64_succ i (by omega)]
    suffices hs : ∀ (q1 : Int → Int → Bool → SV → Rs) (n130 : Int) (l132 : List (List D)) (n133 n134 : Int) (b135 : Bool) (n141 n142 n143 n144 n145 : Int) (s146 : ByteArray) (l147 : List (List D)) (n148 n149 : Int) (v w : SV), ∃ x y z, l102o2 n1 l id n130 l132 n133 n134 b135 (nmsL l[i]) ((nmsL l[i]).length : Int) n141 n142 n143 n144 n145 s146 l147 n148 n149 q1 KK (b : Int) 0 v w = q1 ((b + cntN id l[i] : Nat) : Int) x y z by
      obtain ⟨x, y, z, e⟩ := hs (fun (n178 : Int) (n179 : Int) (b180 : Bool) (v181 : SV) =>
        l102o0 n1 l id 0 l (l.length : Int) (fun n204 _ _ _ _ _ _ _ => some ([.one (.i .i64 n204)], [])) m n178 ((i + 1 : Nat) : Int) (.d (.b true)) (.d (.l (asL (nthD l[i] 6)))) (.d (.i .i64 ((asL (nthD l[i] 6)).length : Int))) (.d (.i .i64 n179)) (.d (.b b180)) (keepV [] v181)) 0 l (l.length : Int) (i : Int) true (asI (nthD l[i] 0)) (asI (nthD l[i] 1)) (asI (nthD l[i] 2)) (asI (nthD l[i] 3)) (asI (nthD l[i] 4)) (asS (nthD l[i] 5)) (asL (nthD l[i] 6)) (asI (nthD l[i] 7)) (asI (nthD l[i] 8)) s'.2.2.2.2.1 s'.2.2.2.2.2
      exact ⟨b + cntN id l[i], (_, _, _, _, _, _), e, by rw [sum_take (cntN id) hi, hp]⟩
    intro q1 n130 l132 n133 n134 b135 n141 n142 n143 n144 n145 s146 l147 n148 n149 v w
    refine walkQ (α := Nat) (σ := SV × SV) (fun m j c s' => l102o2 n1 l id n130 l132 n133 n134 b135 (nmsL l[i]) ((nmsL l[i]).length : Int) n141 n142 n143 n144 n145 s146 l147 n148 n149 q1 m (c : Int) (j : Int) s'.1 s'.2) (nmsL l[i]).length (fun j c => c = b + (((nmsL l[i]).take j).filter fun e => idOf e == id).length) (fun y => ∃ x' y' z', y = q1 ((b + cntN id l[i] : Nat) : Int) x' y' z')
      ?_ ?_ (nmsL l[i]).length 0 KK b (v, w) (by omega) (by rw [KK_eq]; omega) (by simp)
    · intro m c s' hc
      rw [List.take_length] at hc
      simp only [l102o2, at_out, Bool.false_eq_true, if_false, hc]
      exact ⟨_, _, _, rfl⟩
    · intro j m c s' hj hc
      left
      have hrj := row_at (nms_typ (h.t _ (List.getElem_mem hi))) dirent_row j hj
      have hgj : (nmsL l[i]).getD j [] = (nmsL l[i])[j] := getD_in hj
      have hcl : c ≤ 24 * 12 + 12 := by
        have := List.length_filter_le (fun e => idOf e == id) ((nmsL l[i]).take j)
        simp only [List.length_take] at this
        omega
      have hct := cnt_take (id := id) hj
      simp only [l102o2, nat_in hj, Int.toNat_natCast, hgj, hrj, chk_true, if_true, w64_succ j (by omega), w64_succ c (by omega)]
      cases hq : (idOf (nmsL l[i])[j] == id) with
      | true =>
        have hq' : (asI (nthD (nmsL l[i])[j] 1) == id) = true := hq
        rw [hq] at hct
        simp only [hq', if_true] at hct ⊢
        exact ⟨c + 1, (_, _), rfl, by omega⟩
      | false =>
        have hq' : (asI (nthD (nmsL l[i])[j] 1) == id) = false := hq
        rw [hq] at hct
        simp only [hq', Bool.false_eq_true, if_false] at hct ⊢
        exact ⟨c, (_, _), rfl, by omega⟩
theorem named_spec (n1 : Int) (l : List (List D)) (h : GoodV l) (id : Int) : t93 n1 l id = some ([.one (.i .i64 (nmdN l id))], []) := by
  have hn := h.n
  refine walkQ (α := Nat) (σ := SV × SV × SV × SV) (fun m i b s' => l93o0 n1 l id 0 n1 l (fun n132 _ _ _ _ _ => some ([.one (.i .i64 n132)], [])) m (b : Int) (i : Int) s'.1 s'.2.1 s'.2.2.1 s'.2.2.2) l.length (fun i b => b = ((l.take i).map (cntN id)).sum) (fun y => y = some ([.one (.i .i64 (nmdN l id))], []))
    ?_ ?_ l.length 0 KK 0 (SV.undef, SV.undef, SV.undef, SV.undef) (by omega) (by rw [KK_eq]; omega) (by simp)
  · intro m b s' hp
    rw [List.take_length] at hp
    simp only [l93o0, at_out, Bool.false_eq_true, if_false, hp]
    rfl
  · intro i m b s' hi hp
    left
    have hri := row_in h.t inode_row i hi
    have hb : b ≤ 24 * 12 := by rw [hp]; exact sum_take_le (cnt_le h.toFew id) hn
    have hg : l.getD i [] = l[i] := getD_in hi
    have hk : (nmsL l[i]).length ≤ 12 := h.k _ (List.getElem_mem hi)
    simp only [l93o0, nat_in hi, if_true, w64_succ i (by omega)]
    suffices hs : ∀ (q1 : Int → Int → Bool → SV → Rs) (b88 : Bool) (v w : SV), ∃ x y z, l93o2 n1 l id 0 (i : Int) b88 n1 l q1 KK (b : Int) 0 v w = q1 ((b + cntN id l[i] : Nat) : Int) x y z by
      obtain ⟨x, y, z, e⟩ := hs (fun (n110 : Int) (n111 : Int) (b112 : Bool) (v113 : SV) =>
       l93o0 n1 l id 0 n1 l (fun n132 _ _ _ _ _ => some ([.one (.i .i64 n132)], [])) m n110 ((i + 1 : Nat) : Int) (.d (.i .i64 n111)) (.d (.b true)) (.d (.b b112)) (keepV [128] v113)) true s'.2.2.1 s'.2.2.2
      exact ⟨b + cntN id l[i], (_, _, _, _), e, by rw [sum_take (cntN id) hi, hp]⟩
    intro q1 b88 v w
    refine walkQ (α := Nat) (σ := SV × SV) (fun m j c s' => l93o2 n1 l id 0 (i : Int) b88 n1 l q1 m (c : Int) (j : Int) s'.1 s'.2) (nmsL l[i]).length (fun j c => c = b + (((nmsL l[i]).take j).filter fun e => idOf e == id).length) (fun y => ∃ x' y' z', y = q1 ((b + cntN id l[i] : Nat) : Int) x' y' z')
      ?_ ?_ (nmsL l[i]).length 0 KK b (v, w) (by omega) (by rw [KK_eq]; omega) (by simp)
    · intro m c s' hc
      rw [List.take_length] at hc
      have e : decide (((nmsL l[i]).length : Int) < ((asL (nthD l[i] 6)).length : Int)) = false := at_out _
      rw [hg] at hri
      simp only [l93o2, Int.toNat_natCast, hg, hri, e, chk_true, Bool.false_eq_true, if_false, hc]
      exact ⟨_, _, _, rfl⟩
    · intro j m c s' hj hc
      left
      have e : decide ((j : Int) < ((asL (nthD l[i] 6)).length : Int)) = true := nat_in hj
      have hrj := row_at (nms_typ (h.t _ (List.getElem_mem hi))) dirent_row j hj
      have hgj : (asL (nthD l[i] 6)).getD j [] = (nmsL l[i])[j] := getD_in hj
      have hcl : c ≤ 24 * 12 + 12 := by
        have := List.length_filter_le (fun e => idOf e == id) ((nmsL l[i]).take j)
        simp only [List.length_take] at this
        omega
      have hct := cnt_take (id := id) hj
      rw [hg] at hri
      simp only [l93o2, Int.toNat_natCast, hg, hri, e, hgj, hrj, chk_true, if_true, w64_succ j (by omega), w64_succ c (by omega)]
      cases hq : (idOf (nmsL l[i])[j] == id) with
      | true =>
        have hq' : (asI (nthD (nmsL l[i])[j] 1) == id) = true := hq
        rw [hq] at hct
        simp only [hq', if_true] at hct ⊢
        exact ⟨c + 1, (_, _), rfl, by omega⟩
      | false =>
        have hq' : (asI (nthD (nmsL l[i])[j] 1) == id) = false := hq
        rw [hq] at hct
        simp only [hq', Bool.false_eq_true, if_false] at hct ⊢
        exact ⟨c, (_, _), rfl, by omega⟩
end Go.Den.L9

/- Inodes, volumes: both agree which are right. -/
namespace Go.Den.L9
open Go
theorem w64_pred (j : Nat) (h : j < 4611686018427387904) : (w64 ((j : Int) - 1)).toNat = j - 1 := by
  rw [w64_in _ (by omega)]; omega
theorem prev_chk {es : List Sh} {z : List D} {l : List (List D)} (h : ∀ r ∈ l, typL es r) (hz : ∀ r, typL es r → isRow z r = true) {j : Nat} (hj : j < l.length) (hl : l.length < 4611686018427387904) (c : Bool) :
    ((decide ((0 : Int) ≤ w64 ((j : Int) - 1)) && decide (w64 ((j : Int) - 1) < (l.length : Int)) && isRow z (l.getD (j - 1) [])) || !(c && decide ((j : Int) > 0))) = true := by
  by_cases h0 : j = 0
  · subst h0
    have : decide (((0 : Nat) : Int) > 0) = false := rfl
    rw [this, Bool.and_false, Bool.not_false, Bool.or_true]
  · rw [w64_in _ (by omega), hz _ (getD_row h (by omega)), decide_eq_true (by omega : (0 : Int) ≤ (j : Int) - 1), decide_eq_true (by omega : (j : Int) - 1 < (l.length : Int))]
    rfl
def rngB (a b c : Int) : Bool := decide (b ≤ a) && decide (a ≤ c)
def nmOk (l L : List (List D)) (j : Nat) : Bool :=
  nameB (asS (nthD (L.getD j []) 0)) && !(idOf (L.getD j []) == 1) && (fnd l (idOf (L.getD j []))).isSome && !(decide ((j : Int) > 0) && !(Op.bytesLess (asS (nthD (L.getD (j - 1) []) 0)).toList (asS (nthD (L.getD j []) 0)).toList))
theorem dirent_size {L : List (List D)} (h : ∀ r ∈ L, szdL shDirent r) {j : Nat} (hj : j < L.length) : (asS (nthD (L.getD j []) 0)).size < 4611686018427387904 := by
  have h1 : (asS (nthD (L.getD j []) 0)).size ≤ 1048576 := (h _ (mem_getD hj)).1
  omega
theorem namesOk_impl (n1 : Int) (l : List (List D)) (hl : l.length ≤ 1048576) (ht : ∀ r ∈ l, typL shInode r) (L : List (List D)) (hL : ∀ r ∈ L, typL shDirent r) (hZ : ∀ r ∈ L, szdL shDirent r) (hLl : L.length < 4611686018427387904) (a1 a2 a3 a4 a5 : Int) (s6 : ByteArray) (a8 a9 : Int) :
    t131 n1 l a1 a2 a3 a4 a5 s6 L a8 a9 = some ([.one (.b (allW (nmOk l L) L.length 0 && decide ((L.length : Int) ≤ 12)))], []) := by
  have key := fun B => walkA (σ := SV × SV × SV) (fun m j s' => la131o0 t132 t142 n1 l a1 a2 a3 a4 a5 s6 L a8 a9 false L (L.length : Int) a1 a2 a3 a4 a5 s6 L a8 a9 (fun _ _ _ _ _ => some ([.one (.b false)], [])) (fun _ _ _ _ => B) m s'.1 (j : Int) s'.2.1 s'.2.2) L.length (nmOk l L) (some ([.one (.b false)], [])) B
    (by intro m s'; simp only [la131o0, at_out, Bool.false_eq_true, if_false])
    (by
      intro j m s' hj
      have hr := row_in' hL dirent_row j hj
      have hn := nameOk_impl _ (dirent_size hZ hj)
      have hi := inode_ok n1 l (asI (nthD (L.getD j []) 1)) hl ht
      have ew : ∀ x, okR zr142 zo142 (some ([.one (.b x)], [])) = true := fun _ => rfl
      have eb : ∀ x, asB (resC (some ([.one (.b x)], [])) 0 0) = x := fun _ => rfl
      have eb2 : ∀ x r, asB (resC (some ([.one (.b x), .agg r], [])) 0 0) = x := fun _ _ => rfl
      have ew2 : okR zr132 zo132 (some ([.one (.b (fnd l (asI (nthD (L.getD j []) 1))).isSome), .agg ((fnd l (asI (nthD (L.getD j []) 1))).getD [.i .i64 0, .i .i64 0, .i .i64 0, .i .i64 0, .i .i64 0, .s ⟨#[]⟩, .l [], .i .i64 0, .i .i64 0])], [])) = true := by
        cases hq : fnd l (asI (nthD (L.getD j []) 1)) with
        | none => rfl
        | some r =>
          obtain ⟨x1, x2, x3, x4, x5, x6, x7, x8, x9, rfl, -⟩ := Inode_row (ht r (fnd_mem hq).1); rfl
      have hp := prev_chk hL dirent_row hj hLl
      simp only [la131o0, nat_in hj, Int.toNat_natCast, hr, hn, hi, ew, eb, ew2, eb2, Bool.true_or, w64_pred j (by omega), hp, chk_true, if_true, w64_succ j (by omega)]
      have hc : (((!nameB (asS (nthD (L.getD j []) 0)) || asI (nthD (L.getD j []) 1) == 1) || !(fnd l (asI (nthD (L.getD j []) 1))).isSome) || (decide ((j : Int) > 0) && !(Op.bytesLess (asS (nthD (L.getD (j - 1) []) 0)).toList (asS (nthD (L.getD j []) 0)).toList))) = !nmOk l L j := by
        show _ = !(nameB _ && !(asI (nthD (L.getD j []) 1) == 1) && (fnd l (asI (nthD (L.getD j []) 1))).isSome && !(_ && _))
        generalize nameB _ = a
        generalize (asI _ == 1) = b
        generalize (fnd l _).isSome = c
        generalize decide ((j : Int) > 0) = d
        generalize Op.bytesLess _ _ = e
        revert a b c d e; decide
      rw [hc]
      cases hq : nmOk l L j
      · exact .inr ⟨rfl, rfl⟩
      · exact .inl ⟨rfl, (_, _, _), rfl⟩) L.length 0 KK (SV.undef, SV.undef, SV.undef) (by omega) (by rw [KK_eq]; omega)
  refine Eq.trans (key _) ?_
  cases allW (nmOk l L) L.length 0 <;> rfl
theorem atI_neg (l : List (List D)) (id : Int) : decide (atI l id < 0) = !(fnd l id).isSome := by
  rw [← plc_isSome]
  unfold atI
  cases plc l id with
  | none => rfl
  | some i => simp
def emS (s : ByteArray) : Bool := s.toList == (⟨#[]⟩ : ByteArray).toList
def inodeB (l : List (List D)) (kd md ud gd : Int) (s : ByteArray) (L : List (List D)) (mb mi : Int) : Bool :=
  ((rngB md 0 2047 && rngB ud 0 1000) && rngB gd 0 1000) &&
  (if kd = 2 then emS s && decide ((L.length : Int) ≤ 12) && rngB mb 0 400 && rngB mi 0 24 && allW (nmOk l L) L.length 0
   else ((decide ((L.length : Int) = 0) && mb == 0) && mi == 0) && (if kd = 1 then decide ((s.size : Int) ≤ 64) else if kd = 3 then targB s && md == 511 else false))
theorem not_gt0 (n : Nat) : decide ((n : Int) > 0) = !decide ((n : Int) = 0) := by
  rw [Bool.eq_iff_iff]; simp; omega
theorem inodeOk_impl (n1 : Int) (l : List (List D)) (hl : l.length ≤ 1048576) (ht : ∀ r ∈ l, typL shInode r) (id kd md ud gd : Int) (s : ByteArray) (hs : s.size < 4611686018427387904) (L : List (List D)) (hL : ∀ r ∈ L, typL shDirent r) (hZ : ∀ r ∈ L, szdL shDirent r) (hLl : L.length < 4611686018427387904) (mb mi : Int) :
    t99 n1 l id kd md ud gd s L mb mi = some ([.one (.b (inodeB l kd md ud gd s L mb mi))], []) := by
  have ew : ∀ x, okR zr63 zo63 (some ([.one (.b x)], [])) = true := fun _ => rfl
  have ew2 : ∀ x, okR zr131 zo131 (some ([.one (.b x)], [])) = true := fun _ => rfl
  have ew3 : ∀ x, okR zr130 zo130 (some ([.one (.b x)], [])) = true := fun _ => rfl
  have eb : ∀ x, asB (resC (some ([.one (.b x)], [])) 0 0) = x := fun _ => rfl
  have e1 : ∀ a b c, (decide (b ≤ a) && decide (a ≤ c)) = rngB a b c := fun _ _ _ => rfl
  simp only [t99, ta99, within_eq, namesOk_impl n1 l hl ht L hL hZ hLl, target_impl s hs, ew, ew2, ew3, eb, Bool.true_or, chk_true, e1, inodeB, not_gt0, bne]
  rw [show (s.toList == (⟨#[]⟩ : ByteArray).toList) = emS s from rfl]
  generalize rngB md 0 2047 = g1
  generalize rngB ud 0 1000 = g2
  generalize rngB gd 0 1000 = g3
  generalize rngB mb 0 400 = g4
  generalize rngB mi 0 24 = g5
  generalize emS s = g6
  generalize allW _ _ _ = g7
  generalize decide ((L.length : Int) ≤ 12) = g8
  generalize decide ((L.length : Int) = 0) = g9
  generalize (mb == 0) = g10
  generalize (mi == 0) = g11
  by_cases h2 : kd = 2
  · subst h2
    have c1 : ((2 : Int) == 1) = false := rfl
    have c2 : ((2 : Int) == 2) = true := rfl
    have c3 : ((2 : Int) == 3) = false := rfl
    simp only [c1, c2, c3, Bool.not_true, Bool.false_and, Bool.false_eq_true, if_false, if_true]
    cases g1 <;> cases g2 <;> cases g3 <;> simp
    rw [Bool.eq_iff_iff]; simp; constructor <;> (intro h; simp [h])
  · have c2 : (kd == 2) = false := by simpa using h2
    simp only [c2, if_neg h2, Bool.not_false, Bool.true_and, Bool.false_eq_true, if_false]
    by_cases h1 : kd = 1
    · subst h1
      have c1 : ((1 : Int) == 1) = true := rfl
      simp only [c1, if_true]
      cases g1 <;> cases g2 <;> cases g3 <;> cases g9 <;> cases g10 <;> cases g11 <;> rfl
    · have c1 : (kd == 1) = false := by simpa using h1
      simp only [c1, if_neg h1, Bool.false_eq_true, if_false]
      by_cases h3 : kd = 3
      · subst h3
        have c3 : ((3 : Int) == 3) = true := rfl
        simp only [c3, if_true]
        cases g1 <;> cases g2 <;> cases g3 <;> cases g9 <;> cases g10 <;> cases g11 <;> rfl
      · have c3 : (kd == 3) = false := by simpa using h3
        simp only [c3, if_neg h3, Bool.false_eq_true, if_false]
        cases g1 <;> cases g2 <;> cases g3 <;> cases g9 <;> cases g10 <;> cases g11 <;> rfl
theorem inodeOk_spec (n1 : Int) (l : List (List D)) (hl : l.length ≤ 1048576) (ht : ∀ r ∈ l, typL shInode r) (id kd md ud gd : Int) (s : ByteArray) (hs : s.size < 4611686018427387904) (L : List (List D)) (hL : ∀ r ∈ L, typL shDirent r) (hZ : ∀ r ∈ L, szdL shDirent r) (hLl : L.length < 4611686018427387904) (mb mi : Int) :
    t91 n1 l id kd md ud gd s L mb mi = some ([.one (.b (inodeB l kd md ud gd s L mb mi))], []) := by
  have key := fun b17 b6 b7 b9 b11 b16 b17' => walkA (σ := SV × SV) (fun m j s' => la91o5 t57 t124 t125 t126 n1 l id kd md ud gd s L mb mi b17 b6 b7 kd b9 b11 b16 b17' n1 l id kd md ud gd s L mb mi (fun _ _ _ _ _ => some ([.one (.b false)], [])) (fun _ _ _ => some ([.one (.b true)], [])) m (j : Int) s'.1 s'.2) L.length (nmOk l L) (some ([.one (.b false)], [])) (some ([.one (.b true)], []))
    (by intro m s'; simp only [la91o5, at_out, Bool.false_eq_true, if_false])
    (by
      intro j m s' hj
      have hr := row_in' hL dirent_row j hj
      have hn := nameOk_spec _ (dirent_size hZ hj)
      have hi := at_ok n1 l (asI (nthD (L.getD j []) 1)) hl ht
      have ew : ∀ x, okR zr125 zo125 (some ([.one (.b x)], [])) = true := fun _ => rfl
      have eb : ∀ x, asB (resC (some ([.one (.b x)], [])) 0 0) = x := fun _ => rfl
      have ew2 : ∀ x, okR zr126 zo126 (some ([.one (.i .i64 x)], [])) = true := fun _ => rfl
      have eb2 : ∀ x, asI (resC (some ([.one (.i .i64 x)], [])) 0 0) = x := fun _ => rfl
      have hp := prev_chk hL dirent_row hj hLl
      simp only [la91o5, nat_in hj, Int.toNat_natCast, hr, hn, hi, ew, eb, ew2, eb2, Bool.true_or, w64_pred j (by omega), hp, chk_true, if_true, w64_succ j (by omega), atI_neg]
      have hc : ((((!nameB (asS (nthD (L.getD j []) 0))) || (decide ((j : Int) > 0) && !(Op.bytesLess (asS (nthD (L.getD (j - 1) []) 0)).toList (asS (nthD (L.getD j []) 0)).toList))) || asI (nthD (L.getD j []) 1) == 1) || !(fnd l (asI (nthD (L.getD j []) 1))).isSome) = !nmOk l L j := by
        show _ = !(nameB _ && !(asI (nthD (L.getD j []) 1) == 1) && (fnd l (asI (nthD (L.getD j []) 1))).isSome && !(_ && _))
        generalize nameB _ = a
        generalize (asI _ == 1) = b
        generalize (fnd l _).isSome = c
        generalize decide ((j : Int) > 0) = d
        generalize Op.bytesLess _ _ = e
        revert a b c d e; decide
      rw [hc]
      cases hq : nmOk l L j
      · exact .inr ⟨rfl, rfl⟩
      · exact .inl ⟨rfl, (_, _), rfl⟩) L.length 0 KK (SV.undef, SV.undef) (by omega) (by rw [KK_eq]; omega)
  have ew : ∀ x, okR zr57 zo57 (some ([.one (.b x)], [])) = true := fun _ => rfl
  have ew3 : ∀ x, okR zr124 zo124 (some ([.one (.b x)], [])) = true := fun _ => rfl
  have eb : ∀ x, asB (resC (some ([.one (.b x)], [])) 0 0) = x := fun _ => rfl
  have e1 : ∀ a b c, (decide (b ≤ a) && decide (a ≤ c)) = rngB a b c := fun _ _ _ => rfl
  have e2 : decide ((L.length : Int) > 12) = !decide ((L.length : Int) ≤ 12) := by rw [Bool.eq_iff_iff]; simp
  have e3 : ((L.length : Int) == 0) = decide ((L.length : Int) = 0) := rfl
  simp only [t91, ta91, in_eq, target_spec s hs, ew, ew3, eb, Bool.true_or, chk_true, e1, e2, e3, inodeB]
  rw [show (s.toList == (⟨#[]⟩ : ByteArray).toList) = emS s from rfl]
  by_cases h2 : kd = 2
  · subst h2
    have c1 : ((2 : Int) == 1) = false := rfl
    have c2 : ((2 : Int) == 2) = true := rfl
    have c3 : ((2 : Int) == 3) = false := rfl
    simp only [c1, c2, c3, Bool.false_eq_true, if_false, if_true]
    by_cases hg : ((rngB md 0 2047 && rngB ud 0 1000) && rngB gd 0 1000) = true
    · rw [if_neg (by simp only [Bool.and_eq_true] at hg; simp [hg]), hg, Bool.true_and]
      by_cases hh : (((emS s && decide ((L.length : Int) ≤ 12)) && rngB mb 0 400) && rngB mi 0 24) = true
      · rw [if_neg (by simp only [Bool.and_eq_true] at hh; simp [hh]), hh, Bool.true_and]
        refine Eq.trans (key _ _ _ _ _ _ _) ?_
        cases allW (nmOk l L) L.length 0 <;> rfl
      · rw [if_pos (by
          generalize emS s = g1 at hh ⊢
          generalize decide ((L.length : Int) ≤ 12) = g2 at hh ⊢
          generalize rngB mb 0 400 = g3 at hh ⊢
          generalize rngB mi 0 24 = g4 at hh ⊢
          revert hh; revert g1 g2 g3 g4; decide)]
        rw [Bool.not_eq_true] at hh
        rw [hh, Bool.false_and]
    · rw [if_pos (by
        generalize rngB md 0 2047 = g1 at hg ⊢
        generalize rngB ud 0 1000 = g2 at hg ⊢
        generalize rngB gd 0 1000 = g3 at hg ⊢
        revert hg; revert g1 g2 g3; decide)]
      rw [Bool.not_eq_true] at hg
      rw [hg, Bool.false_and]
  · have c2 : (kd == 2) = false := by simpa using h2
    simp only [c2, if_neg h2, Bool.false_eq_true, if_false]
    generalize rngB md 0 2047 = g1
    generalize rngB ud 0 1000 = g2
    generalize rngB gd 0 1000 = g3
    generalize decide ((L.length : Int) = 0) = g9
    generalize (mb == 0) = g10
    generalize (mi == 0) = g11
    by_cases h1 : kd = 1
    · subst h1
      have c1 : ((1 : Int) == 1) = true := rfl
      simp only [c1, if_true]
      cases g1 <;> cases g2 <;> cases g3 <;> cases g9 <;> cases g10 <;> cases g11 <;> rfl
    · have c1 : (kd == 1) = false := by simpa using h1
      simp only [c1, if_neg h1, Bool.false_eq_true, if_false]
      by_cases h3 : kd = 3
      · subst h3
        have c3 : ((3 : Int) == 3) = true := rfl
        simp only [c3, if_true]
        cases g1 <;> cases g2 <;> cases g3 <;> cases g9 <;> cases g10 <;> cases g11 <;> rfl
      · have c3 : (kd == 3) = false := by simpa using h3
        simp only [c3, if_neg h3, Bool.false_eq_true, if_false]
        cases g1 <;> cases g2 <;> cases g3 <;> cases g9 <;> cases g10 <;> cases g11 <;> rfl
end Go.Den.L9

/- Volumes: both agree which are right. -/
namespace Go.Den.L9
open Go
theorem allW_shift (f : Nat → Bool) : ∀ (k i : Nat), allW (fun j => f (j + 1)) k i = allW f k (i + 1)
  | 0, _ => rfl
  | k + 1, i => by rw [allW, allW, allW_shift f k (i + 1)]
def rowB (l : List (List D)) (r : List D) : Bool := inodeB l (asI (nthD r 1)) (asI (nthD r 2)) (asI (nthD r 3)) (asI (nthD r 4)) (asS (nthD r 5)) (nmsL r) (asI (nthD r 7)) (asI (nthD r 8))
def frsB (n1 : Int) (l : List (List D)) (i : Nat) : Bool :=
  rngB (idI (l.getD i [])) 1 (w64 (n1 - 1)) && !(decide ((i : Int) > 0) && decide (idI (l.getD (i - 1) []) ≥ idI (l.getD i []))) && rowB l (l.getD i [])
open Classical in
noncomputable def sndB (l : List (List D)) (i : Nat) : Bool :=
  decide (Vq.Reach (tgV l) 1 (idI (l.getD i []))) && !((asI (nthD (l.getD i []) 1) == 2) && ((nmdN l (idI (l.getD i [])) : Int) != 1))
noncomputable def volB (n1 : Int) (l : List (List D)) : Bool :=
  ((rngB n1 2 100000 && rngB (l.length : Int) 1 24) && (idI (l.getD 0 []) == 1 && asI (nthD (l.getD 0 []) 1) == 2)) &&
  (allW (frsB n1 l) l.length 0 && (allW (sndB l) (l.length - 1) 1 && (decide ((totN l : Int) ≤ 400) && !overs l)))
theorem row_inv {l : List (List D)} (ht : ∀ r ∈ l, typL shInode r) (hz : ∀ r ∈ l, szdL shInode r) {r : List D} (hr : r ∈ l) :
    (asS (nthD r 5)).size < 4611686018427387904 ∧ (nmsL r).length < 4611686018427387904 ∧ (∀ e ∈ nmsL r, typL shDirent e) ∧ (∀ e ∈ nmsL r, szdL shDirent e) := by
  have h1 := hz r hr
  have h2 := nms_typ (ht r hr)
  obtain ⟨x1, x2, x3, x4, x5, x6, x7, x8, x9, rfl, -⟩ := Inode_row (ht r hr)
  obtain ⟨-, -, -, -, -, h5, ⟨h6, h7⟩, -⟩ := h1
  have h5 : x6.size ≤ 1048576 := h5
  have h6 : x7.length ≤ 1048576 := h6
  exact ⟨by show x6.size < _; omega, by show x7.length < _; omega, h2, h7⟩
/-- What the first loop tells. -/
theorem good_of {n1 : Int} {l : List (List D)} (ht : ∀ r ∈ l, typL shInode r) (hlen : l.length ≤ 24) (h : allW (frsB n1 l) l.length 0 = true) : GoodV l := by
  have hall : ∀ i, i < l.length → frsB n1 l i = true := fun i hi => (allW_iff _ _).1 h i (by omega) (by omega)
  have hrow : ∀ r ∈ l, rowB l r = true := by
    intro r hr
    obtain ⟨i, hi, rfl⟩ := List.mem_iff_getElem.1 hr
    have := hall i hi
    rw [frsB, Bool.and_eq_true, getD_in hi] at this
    exact this.2
  have hstep : ∀ i, i + 1 < l.length → idI (l.getD i []) < idI (l.getD (i + 1) []) := by
    intro i hi
    have := hall (i + 1) hi
    simp only [frsB, Bool.and_eq_true, Bool.not_eq_true', Bool.and_eq_false_iff, decide_eq_false_iff_not, Nat.add_sub_cancel] at this
    rcases this.1.2 with h | h
    · exact absurd (by omega : ((i + 1 : Nat) : Int) > 0) h
    · omega
  have hnm : ∀ r ∈ l, (nmsL r).length ≤ 12 ∧ allW (nmOk l (nmsL r)) (nmsL r).length 0 = true ∧ (asS (nthD r 5)).size ≤ 64 ∧ (asI (nthD r 1) ≠ 2 → asI (nthD r 7) = 0 ∧ asI (nthD r 8) = 0) := by
    intro r hr
    have h1 := hrow r hr
    simp only [rowB, inodeB, Bool.and_eq_true] at h1
    have h2 := h1.2
    by_cases hk : asI (nthD r 1) = 2
    · rw [if_pos hk] at h2
      simp only [Bool.and_eq_true, decide_eq_true_eq] at h2
      refine ⟨by omega, h2.2, ?_, fun q => absurd hk q⟩
      have h3 : emS (asS (nthD r 5)) = true := h2.1.1.1.1
      have h3 : (asS (nthD r 5)).toList = (⟨#[]⟩ : ByteArray).toList := by simpa [emS] using h3
      rw [nil_toList, toList_nil] at h3
      omega
    · rw [if_neg hk] at h2
      simp only [Bool.and_eq_true, decide_eq_true_eq, beq_iff_eq] at h2
      have h0 : (nmsL r).length = 0 := by have := h2.1.1.1; omega
      refine ⟨by omega, by rw [h0]; rfl, ?_, fun _ => ⟨h2.1.1.2, h2.1.2⟩⟩
      have h3 := h2.2
      by_cases h1 : asI (nthD r 1) = 1
      · rw [if_pos h1, decide_eq_true_eq] at h3; omega
      · rw [if_neg h1] at h3
        by_cases h4 : asI (nthD r 1) = 3
        · rw [if_pos h4] at h3
          simp only [targB, Bool.and_eq_true, decide_eq_true_eq] at h3
          have := h3.1.1.2; omega
        · rw [if_neg h4] at h3; cases h3
  constructor
  · exact ⟨hlen, ht, fun r hr => (hnm r hr).1⟩
  · intro i j hij hj
    induction j with
    | zero => omega
    | succ j ih =>
      have h1 := hstep j hj
      by_cases e : i = j
      · rw [e]; exact h1
      · have := ih (by omega) (by omega); omega
  · intro r hr d hd
    obtain ⟨e, he, rfl⟩ := List.mem_map.1 hd
    obtain ⟨j, hj, rfl⟩ := List.mem_iff_getElem.1 he
    have := (allW_iff _ _).1 (hnm r hr).2.1 j (by omega) (by omega)
    simp only [nmOk, Bool.and_eq_true, getD_in hj] at this
    exact this.1.2
  · exact fun r hr => (hnm r hr).2.2.1
  · exact fun r hr => (hnm r hr).2.2.2
theorem frs_not (a b c d : Bool) : ((!a || (b && c)) || !d) = !((a && !(b && c)) && d) := by revert a b c d; decide
theorem snd_not (a b c : Bool) : (!a || (b && c)) = !(a && !(b && c)) := by revert a b c; decide
theorem frs_fold (n1 : Int) (l : List (List D)) (i : Nat) : ((rngB (asI (nthD (l.getD i []) 0)) 1 (w64 (n1 - 1)) && !(decide ((i : Int) > 0) && decide (asI (nthD (l.getD (i - 1) []) 0) ≥ asI (nthD (l.getD i []) 0)))) && inodeB l (asI (nthD (l.getD i []) 1)) (asI (nthD (l.getD i []) 2)) (asI (nthD (l.getD i []) 3)) (asI (nthD (l.getD i []) 4)) (asS (nthD (l.getD i []) 5)) (asL (nthD (l.getD i []) 6)) (asI (nthD (l.getD i []) 7)) (asI (nthD (l.getD i []) 8))) = frsB n1 l i := rfl
theorem volOk_impl (n1 : Int) (l : List (List D)) (hl : l.length ≤ 1048576) (ht : ∀ r ∈ l, typL shInode r) (hz : ∀ r ∈ l, szdL shInode r) : t66 n1 l = some ([.one (.b (volB n1 l))], []) := by
  have ew : ∀ x, okR zr63 zo63 (some ([.one (.b x)], [])) = true := fun _ => rfl
  have eb : ∀ x, asB (resC (some ([.one (.b x)], [])) 0 0) = x := fun _ => rfl
  have e1 : ∀ a b c, (decide (b ≤ a) && decide (a ≤ c)) = rngB a b c := fun _ _ _ => rfl
  simp only [t66, ta66, within_eq, ew, eb, e1, Bool.true_or, chk_true]
  by_cases hA : (rngB n1 2 100000 && rngB (l.length : Int) 1 24) = true
  · have hA2 := hA
    rw [Bool.and_eq_true] at hA2
    have hlen : 1 ≤ l.length ∧ l.length ≤ 24 := by have := hA2.2; simp only [rngB, Bool.and_eq_true, decide_eq_true_eq] at this; omega
    have hr0 := row_in ht inode_row 0 (by omega)
    have hr0 : (decide ((0 : Int) ≤ 0) && decide ((0 : Int) < (l.length : Int)) && isRow z64 (l.getD ((0 : Int)).toNat [])) = true := hr0
    rw [hA2.1, hA2.2, hr0]
    simp only [Bool.not_true, Bool.true_or, Bool.or_false, Bool.false_or, chk_true]
    rw [show l.getD ((0 : Int)).toNat [] = l.getD 0 [] from rfl]
    unfold volB
    rw [hA, Bool.true_and]
    by_cases hB : (idI (l.getD 0 []) == 1 && asI (nthD (l.getD 0 []) 1) == 2) = true
    · have hB2 := hB
      rw [Bool.and_eq_true] at hB2
      have hB3 : ((asI (nthD (l.getD 0 []) 0) != 1) || (asI (nthD (l.getD 0 []) 1) != 2)) = false := by
        have h1 : (asI (nthD (l.getD 0 []) 0) == 1) = true := hB2.1
        rw [bne, bne, h1, hB2.2]; rfl
      rw [hB3, hB, Bool.true_and]
      simp only [Bool.false_eq_true, if_false]
      by_cases hC : allW (frsB n1 l) l.length 0 = true
      · have hG := good_of ht hlen.2 hC
        rw [hC, Bool.true_and]
        refine walkQ (α := Unit) (σ := SV × SV × SV) (fun m i _ s' => la66o1 t63 t99 t100 t101 t102 t103 t104 n1 l false false l (l.length : Int) n1 l _ _ m s'.1 (i : Int) s'.2.1 s'.2.2) l.length (fun _ _ => True) (fun x => x = some ([.one (.b (allW (sndB l) (l.length - 1) 1 && (decide ((totN l : Int) ≤ 400) && !overs l)))], []))
          ?_ ?_ l.length 0 KK () (SV.undef, SV.undef, SV.undef) (by omega) (by rw [KK_eq]; omega) trivial
        · intro m _ s' _
          obtain ⟨o, hnd, ho, hmem, hb⟩ := below_ok n1 l hG.toFew 1
          have ew5 : ∀ y, okR zr100 zo100 (some ([.one (.l y)], [])) = true := fun _ => rfl
          have eb5 : ∀ y, asL (resC (some ([.one (.l y)], [])) 0 0) = y := fun _ => rfl
          have ew6 : ∀ x, okR zr103 zo103 (some ([.one (.i .i64 x)], [])) = true := fun _ => rfl
          have eb6 : ∀ x, asI (resC (some ([.one (.i .i64 x)], [])) 0 0) = x := fun _ => rfl
          have ew7 : ∀ x, okR zr104 zo104 (some ([.one (.b x)], [])) = true := fun _ => rfl
          have e7 : decide (0 ≤ (1 : Int) ∧ (1 : Int) ≤ (l.length : Int) ∧ (l.getD 0 z64).length = z64.length) = true := by
            have h0 : l.getD 0 z64 = l[0]'(by omega) := by simp [List.getD, show 0 < l.length by omega]
            obtain ⟨x1, x2, x3, x4, x5, x6, x7, x8, x9, er, -⟩ := Inode_row (ht _ (List.getElem_mem (show 0 < l.length by omega)))
            rw [h0, er]
            simp [z64]; omega
          simp only [la66o1, at_out, Bool.false_eq_true, if_false, hb, ew5, eb5, e7, chk_true]
          have hdl : (l.drop (1 : Int).toNat) = l.drop 1 := rfl
          rw [hdl]
          have hlen2 : (l.drop 1).length = l.length - 1 := by simp
          have hgd : ∀ i, (l.drop 1).getD i [] = l.getD (i + 1) [] := by intro i; simp [List.getD, Nat.add_comm]
          have htd : ∀ r ∈ l.drop 1, typL shInode r := fun r hr => ht r (List.mem_of_mem_drop hr)
          refine Eq.trans (walkA (σ := SV × SV × SV × SV) (fun m i s'' => la66o4 t63 t99 t100 t101 t102 t103 t104 n1 l false false l (l.length : Int) (l.length : Int) false (l.drop 1) ((l.drop 1).length : Int) n1 l (ints o) (fun _ _ _ _ _ _ _ _ _ _ _ _ _ _ => some ([.one (.b false)], [])) (fun (v153 : SV) (v154 : SV) (n155 : Int) (b156 : Bool) (v157 : SV) => _) m s''.1 s''.2.1 (i : Int) s''.2.2.1 s''.2.2.2) (l.drop 1).length (fun i => sndB l (i + 1)) (some ([.one (.b false)], [])) (some ([.one (.b (decide ((totN l : Int) ≤ 400) && !overs l))], []))
            (by
              intro m s''
              simp only [la66o4, at_out, Bool.false_eq_true, if_false, total_impl n1 l hG, ew6, eb6, cf_ok n1 l hG, ew7, eb, Bool.true_or, chk_true])
            (by
              intro i m s'' hi
              have hr := row_in' htd inode_row i hi
              have hh := has_impl o (by omega) (asI (nthD ((l.drop 1).getD i []) 0))
              have hm : decide (asI (nthD ((l.drop 1).getD i []) 0) ∈ o) = @decide (Vq.Reach (tgV l) 1 (idI (l.getD (i + 1) []))) (Classical.propDecidable _) := by
                rw [Bool.eq_iff_iff]; simp only [decide_eq_true_eq]; rw [hmem, hgd]; exact Iff.rfl
              have hnm := named_impl n1 l hG (asI (nthD ((l.drop 1).getD i []) 0))
              have ew8 : ∀ x, okR zr101 zo101 (some ([.one (.b x)], [])) = true := fun _ => rfl
              have ew9 : ∀ x, okR zr102 zo102 (some ([.one (.i .i64 x)], [])) = true := fun _ => rfl
              simp only [la66o4, nat_in hi, Int.toNat_natCast, hr, hh, hnm, ew8, ew9, eb, eb6, Bool.true_or, chk_true, if_true, w64_succ i (by omega), hm, snd_not]
              have hs : (@decide (Vq.Reach (tgV l) 1 (idI (l.getD (i + 1) []))) (Classical.propDecidable _) && !((asI (nthD ((l.drop 1).getD i []) 1) == 2) && ((nmdN l (asI (nthD ((l.drop 1).getD i []) 0)) : Int) != 1))) = sndB l (i + 1) := by rw [hgd]; rfl
              rw [hs]
              cases hq : sndB l (i + 1)
              · exact .inr ⟨rfl, rfl⟩
              · exact .inl ⟨rfl, (_, _, _, _), rfl⟩) (l.drop 1).length 0 KK (_, _, SV.undef, SV.undef) (by omega) (by rw [KK_eq]; omega)) ?_
          rw [allW_shift, hlen2]
          cases allW (sndB l) (l.length - 1) 1 <;> rfl
        · intro i m _ s' hi _
          left
          have hr := row_in' ht inode_row i hi
          have hq := (allW_iff _ _).1 hC i (by omega) (by omega)
          have hv := row_inv ht hz (mem_getD hi)
          have hin := inodeOk_impl n1 l hl ht (asI (nthD (l.getD i []) 0)) (asI (nthD (l.getD i []) 1)) (asI (nthD (l.getD i []) 2)) (asI (nthD (l.getD i []) 3)) (asI (nthD (l.getD i []) 4)) (asS (nthD (l.getD i []) 5)) hv.1 (asL (nthD (l.getD i []) 6)) hv.2.2.1 hv.2.2.2 hv.2.1 (asI (nthD (l.getD i []) 7)) (asI (nthD (l.getD i []) 8))
          have ew8 : ∀ x, okR zr99 zo99 (some ([.one (.b x)], [])) = true := fun _ => rfl
          have hp := prev_chk ht inode_row hi (by omega)
          simp only [la66o1, nat_in hi, Int.toNat_natCast, hr, within_eq, hin, ew, ew8, eb, e1, Bool.true_or, w64_pred i (by omega), hp, chk_true, if_true, w64_succ i (by omega), frs_not, frs_fold, hq, Bool.not_true, Bool.false_eq_true, if_false]
          exact ⟨(), (_, _, _), rfl, trivial⟩
      · rw [Bool.not_eq_true] at hC
        rw [hC, Bool.false_and]
        have hC' : ∃ j, j < l.length ∧ frsB n1 l j = false := by
          apply Classical.byContradiction
          intro hq
          have : allW (frsB n1 l) l.length 0 = true := (allW_iff _ _).2 fun j _ hj => by
            cases hb : frsB n1 l j with
            | true => rfl
            | false => exact absurd ⟨j, by omega, hb⟩ hq
          rw [this] at hC; cases hC
        obtain ⟨j, hj, hjf⟩ := hC'
        refine walkQ (α := Unit) (σ := SV × SV × SV) (fun m i _ s' => la66o1 t63 t99 t100 t101 t102 t103 t104 n1 l false false l (l.length : Int) n1 l _ _ m s'.1 (i : Int) s'.2.1 s'.2.2) l.length (fun i _ => i ≤ j) (fun x => x = some ([.one (.b false)], []))
          ?_ ?_ l.length 0 KK () (SV.undef, SV.undef, SV.undef) (by omega) (by rw [KK_eq]; omega) (by omega)
        · intro m _ s' hp; omega
        · intro i m _ s' hi hp
          have hr := row_in' ht inode_row i hi
          have hv := row_inv ht hz (mem_getD hi)
          have hin := inodeOk_impl n1 l hl ht (asI (nthD (l.getD i []) 0)) (asI (nthD (l.getD i []) 1)) (asI (nthD (l.getD i []) 2)) (asI (nthD (l.getD i []) 3)) (asI (nthD (l.getD i []) 4)) (asS (nthD (l.getD i []) 5)) hv.1 (asL (nthD (l.getD i []) 6)) hv.2.2.1 hv.2.2.2 hv.2.1 (asI (nthD (l.getD i []) 7)) (asI (nthD (l.getD i []) 8))
          have ew8 : ∀ x, okR zr99 zo99 (some ([.one (.b x)], [])) = true := fun _ => rfl
          have hpc := prev_chk ht inode_row hi (by omega)
          simp only [la66o1, nat_in hi, Int.toNat_natCast, hr, within_eq, hin, ew, ew8, eb, e1, Bool.true_or, w64_pred i (by omega), hpc, chk_true, if_true, w64_succ i (by omega), frs_not, frs_fold]
          cases hq : frsB n1 l i
          · exact .inr rfl
          · left
            refine ⟨(), (_, _, _), rfl, ?_⟩
            have : i ≠ j := by rintro rfl; rw [hq] at hjf; cases hjf
            omega
    · rw [Bool.not_eq_true] at hB
      have hB3 : ((asI (nthD (l.getD 0 []) 0) != 1) || (asI (nthD (l.getD 0 []) 1) != 2)) = true := by
        have h1 : (asI (nthD (l.getD 0 []) 0) == 1 && asI (nthD (l.getD 0 []) 1) == 2) = false := hB
        rw [bne, bne, ← Bool.not_and, h1]; rfl
      rw [hB3, hB, Bool.false_and]
      rfl
  · have hA1 : (!rngB n1 2 100000 || !rngB (l.length : Int) 1 24) = true := by rw [← Bool.not_and]; rw [Bool.not_eq_true] at hA; rw [hA]; rfl
    rw [hA1]
    simp only [Bool.true_or, Bool.not_true, Bool.not_false, Bool.or_true, chk_true, if_true]
    rw [Bool.not_eq_true] at hA
    unfold volB
    rw [hA, Bool.false_and, Bool.false_and]
theorem volOk_spec (n1 : Int) (l : List (List D)) (hl : l.length ≤ 1048576) (ht : ∀ r ∈ l, typL shInode r) (hz : ∀ r ∈ l, szdL shInode r) : t56 n1 l = some ([.one (.b (volB n1 l))], []) := by
  have ew : ∀ x, okR zr57 zo57 (some ([.one (.b x)], [])) = true := fun _ => rfl
  have eb : ∀ x, asB (resC (some ([.one (.b x)], [])) 0 0) = x := fun _ => rfl
  have e1 : ∀ a b c, (decide (b ≤ a) && decide (a ≤ c)) = rngB a b c := fun _ _ _ => rfl
  simp only [t56, ta56, in_eq, ew, eb, e1, Bool.true_or, chk_true]
  by_cases hA : (rngB n1 2 100000 && rngB (l.length : Int) 1 24) = true
  · have hA2 := hA
    rw [Bool.and_eq_true] at hA2
    have hlen : 1 ≤ l.length ∧ l.length ≤ 24 := by have := hA2.2; simp only [rngB, Bool.and_eq_true, decide_eq_true_eq] at this; omega
    have hr0 := row_in ht inode_row 0 (by omega)
    have hr0 : (decide ((0 : Int) ≤ 0) && decide ((0 : Int) < (l.length : Int)) && isRow z64 (l.getD ((0 : Int)).toNat [])) = true := hr0
    rw [hA2.1, hA2.2, hr0]
    simp only [Bool.not_true, Bool.true_or, Bool.or_false, Bool.false_or, chk_true]
    rw [show l.getD ((0 : Int)).toNat [] = l.getD 0 [] from rfl]
    unfold volB
    rw [hA, Bool.true_and]
    by_cases hB : (idI (l.getD 0 []) == 1 && asI (nthD (l.getD 0 []) 1) == 2) = true
    · have hB2 := hB
      rw [Bool.and_eq_true] at hB2
      have hB3 : ((asI (nthD (l.getD 0 []) 0) != 1) || (asI (nthD (l.getD 0 []) 1) != 2)) = false := by
        have h1 : (asI (nthD (l.getD 0 []) 0) == 1) = true := hB2.1
        rw [bne, bne, h1, hB2.2]; rfl
      have h01 : idI (l.getD 0 []) = 1 := by simpa using hB2.1
      rw [hB3, hB, Bool.true_and]
      simp only [Bool.false_eq_true, if_false]
      by_cases hC : allW (frsB n1 l) l.length 0 = true
      · have hG := good_of ht hlen.2 hC
        rw [hC, Bool.true_and]
        refine walkQ (α := Unit) (σ := SV × SV) (fun m i _ s' => la56o1 t57 t91 t92 t93 t94 t95 n1 l false false n1 l _ _ m (i : Int) s'.1 s'.2) l.length (fun _ _ => True) (fun x => x = some ([.one (.b (allW (sndB l) (l.length - 1) 1 && (decide ((totN l : Int) ≤ 400) && !overs l)))], []))
          ?_ ?_ l.length 0 KK () (SV.undef, SV.undef) (by omega) (by rw [KK_eq]; omega) trivial
        · intro m _ s' _
          have hb := below_spec n1 l hG 0 (by omega)
          rw [h01] at hb
          have ew5 : ∀ y, okR zr92 zo92 (some ([.one (.l y)], [])) = true := fun _ => rfl
          have eb5 : ∀ y, asL (resC (some ([.one (.l y)], [])) 0 0) = y := fun _ => rfl
          have ew6 : ∀ x, okR zr94 zo94 (some ([.one (.i .i64 x)], [])) = true := fun _ => rfl
          have eb6 : ∀ x, asI (resC (some ([.one (.i .i64 x)], [])) 0 0) = x := fun _ => rfl
          have ew7 : ∀ x, okR zr95 zo95 (some ([.one (.b x)], [])) = true := fun _ => rfl
          simp only [la56o1, at_out, Bool.false_eq_true, if_false, hb, ew5, eb5, chk_true]
          refine Eq.trans (walkA (σ := SV × SV × SV) (fun m i s'' => la56o4 t57 t91 t92 t93 t94 t95 n1 l false (l.length : Int) false false n1 l (boolR (fun x => @decide (Vq.Reach (tgV l) 1 (idI (l.getD x []))) (Classical.propDecidable _)) l.length) (fun _ _ _ _ => some ([.one (.b false)], [])) (fun (n107 : Int) (v108 : SV) (b109 : Bool) (v110 : SV) => _) m (i : Int) s''.1 s''.2.1 s''.2.2) l.length (sndB l) (some ([.one (.b false)], [])) (some ([.one (.b (decide ((totN l : Int) ≤ 400) && !overs l))], []))
            (by
              intro m s''
              simp only [la56o4, at_out, Bool.false_eq_true, if_false, total_spec n1 l hG, ew6, eb6, over_spec n1 l hG, ew7, eb, Bool.true_or, chk_true])
            (by
              intro i m s'' hi
              have hr := row_in' ht inode_row i hi
              have a2 : ∀ f, decide ((i : Int) < ((boolR f l.length).length : Int)) = true := by intro f; rw [boolR_len, nat_in hi]
              have a4 : ∀ b, (decide (1 ≤ ([D.b b] : List D).length) && isF z4 0 [D.b b]) = true := fun _ => rfl
              have a5 : ∀ b, asB (nthD [D.b b] 0) = b := fun _ => rfl
              have hnm := named_spec n1 l hG (asI (nthD (l.getD i []) 0))
              have ew9 : ∀ x, okR zr93 zo93 (some ([.one (.i .i64 x)], [])) = true := fun _ => rfl
              have hr' : isRow z64 (l.getD i []) = true := inode_row _ (getD_row ht hi)
              simp only [la56o4, nat_in hi, a2, nat_pos, Bool.and_true, Bool.true_and, Int.toNat_natCast, boolR_at hi, a4, a5, hr', hnm, ew9, eb6, Bool.true_or, chk_true, if_true, w64_succ i (by omega), snd_not]
              have hs : (@decide (Vq.Reach (tgV l) 1 (idI (l.getD i []))) (Classical.propDecidable _) && !((asI (nthD (l.getD i []) 1) == 2) && ((nmdN l (asI (nthD (l.getD i []) 0)) : Int) != 1))) = sndB l i := rfl
              rw [hs]
              cases hq : sndB l i
              · exact .inr ⟨rfl, rfl⟩
              · exact .inl ⟨rfl, (_, _, _), rfl⟩) (l.length - 1) 1 KK (_, SV.undef, SV.undef) (by omega) (by rw [KK_eq]; omega)) ?_
          cases allW (sndB l) (l.length - 1) 1 <;> rfl
        · intro i m _ s' hi _
          left
          have hr := row_in' ht inode_row i hi
          have hq := (allW_iff _ _).1 hC i (by omega) (by omega)
          have hv := row_inv ht hz (mem_getD hi)
          have hin := inodeOk_spec n1 l hl ht (asI (nthD (l.getD i []) 0)) (asI (nthD (l.getD i []) 1)) (asI (nthD (l.getD i []) 2)) (asI (nthD (l.getD i []) 3)) (asI (nthD (l.getD i []) 4)) (asS (nthD (l.getD i []) 5)) hv.1 (asL (nthD (l.getD i []) 6)) hv.2.2.1 hv.2.2.2 hv.2.1 (asI (nthD (l.getD i []) 7)) (asI (nthD (l.getD i []) 8))
          have ew8 : ∀ x, okR zr91 zo91 (some ([.one (.b x)], [])) = true := fun _ => rfl
          have hp := prev_chk ht inode_row hi (by omega)
          simp only [la56o1, nat_in hi, Int.toNat_natCast, hr, in_eq, hin, ew, ew8, eb, e1, Bool.true_or, w64_pred i (by omega), hp, chk_true, if_true, w64_succ i (by omega), frs_not, frs_fold, hq, Bool.not_true, Bool.false_eq_true, if_false]
          exact ⟨(), (_, _), rfl, trivial⟩
      · rw [Bool.not_eq_true] at hC
        rw [hC, Bool.false_and]
        have hC' : ∃ j, j < l.length ∧ frsB n1 l j = false := by
          apply Classical.byContradiction
          intro hq
          have : allW (frsB n1 l) l.length 0 = true := (allW_iff _ _).2 fun j _ hj => by
            cases hb : frsB n1 l j with
            | true => rfl
            | false => exact absurd ⟨j, by omega, hb⟩ hq
          rw [this] at hC; cases hC
        obtain ⟨j, hj, hjf⟩ := hC'
        refine walkQ (α := Unit) (σ := SV × SV) (fun m i _ s' => la56o1 t57 t91 t92 t93 t94 t95 n1 l false false n1 l _ _ m (i : Int) s'.1 s'.2) l.length (fun i _ => i ≤ j) (fun x => x = some ([.one (.b false)], []))
          ?_ ?_ l.length 0 KK () (SV.undef, SV.undef) (by omega) (by rw [KK_eq]; omega) (by omega)
        · intro m _ s' hp; omega
        · intro i m _ s' hi hp
          have hr := row_in' ht inode_row i hi
          have hv := row_inv ht hz (mem_getD hi)
          have hin := inodeOk_spec n1 l hl ht (asI (nthD (l.getD i []) 0)) (asI (nthD (l.getD i []) 1)) (asI (nthD (l.getD i []) 2)) (asI (nthD (l.getD i []) 3)) (asI (nthD (l.getD i []) 4)) (asS (nthD (l.getD i []) 5)) hv.1 (asL (nthD (l.getD i []) 6)) hv.2.2.1 hv.2.2.2 hv.2.1 (asI (nthD (l.getD i []) 7)) (asI (nthD (l.getD i []) 8))
          have ew8 : ∀ x, okR zr91 zo91 (some ([.one (.b x)], [])) = true := fun _ => rfl
          have hpc := prev_chk ht inode_row hi (by omega)
          simp only [la56o1, nat_in hi, Int.toNat_natCast, hr, in_eq, hin, ew, ew8, eb, e1, Bool.true_or, w64_pred i (by omega), hpc, chk_true, if_true, w64_succ i (by omega), frs_not, frs_fold]
          cases hq : frsB n1 l i
          · exact .inr rfl
          · left
            refine ⟨(), (_, _), rfl, ?_⟩
            have : i ≠ j := by rintro rfl; rw [hq] at hjf; cases hjf
            omega
    · rw [Bool.not_eq_true] at hB
      have hB3 : ((asI (nthD (l.getD 0 []) 0) != 1) || (asI (nthD (l.getD 0 []) 1) != 2)) = true := by
        have h1 : (asI (nthD (l.getD 0 []) 0) == 1 && asI (nthD (l.getD 0 []) 1) == 2) = false := hB
        rw [bne, bne, ← Bool.not_and, h1]; rfl
      rw [hB3, hB, Bool.false_and]
      rfl
  · have hA1 : (!rngB n1 2 100000 || !rngB (l.length : Int) 1 24) = true := by rw [← Bool.not_and]; rw [Bool.not_eq_true] at hA; rw [hA]; rfl
    rw [hA1]
    simp only [Bool.true_or, Bool.not_true, Bool.not_false, Bool.or_true, chk_true, if_true]
    rw [Bool.not_eq_true] at hA
    unfold volB
    rw [hA, Bool.false_and, Bool.false_and]
end Go.Den.L9

/- Audits, sessions, tenants: both agree which are right. -/
namespace Go.Den.L9
open Go
theorem note_row : ∀ r, typL shNote r → isRow z90 r = true := fun r h => by
  obtain ⟨x1, x2, x3, x4, x5, rfl⟩ := Note_row h; rfl
theorem session_row : ∀ r, typL shSession r → isRow z81 r = true := fun r h => by
  obtain ⟨x1, x2, x3, x4, x5, rfl, -⟩ := Session_row h; rfl
theorem six_not (a b c d e f g : Bool) : (((((!a || (b && c)) || !d) || !e) || !f) || !g) = !(((((a && !(b && c)) && d) && e) && f) && g) := by revert a b c d e f g; decide
theorem five_not (a b c d e f : Bool) : ((((!a || (b && c)) || !d) || !e) || !f) = !((((a && !(b && c)) && d) && e) && f) := by revert a b c d e f; decide
def nteB (l : List (List D)) (i : Nat) : Bool :=
  ((((rngB (asI (nthD (l.getD i []) 0)) 1 100000 && !(decide ((i : Int) > 0) && decide (asI (nthD (l.getD (i - 1) []) 0) > asI (nthD (l.getD i []) 0)))) && rngB (asI (nthD (l.getD i []) 1)) 1 3) && rngB (asI (nthD (l.getD i []) 2)) 1 1000000) && rngB (asI (nthD (l.getD i []) 3)) 1 22) && rngB (asI (nthD (l.getD i []) 4)) 0 200
def audB (l : List (List D)) : Bool := decide ((l.length : Int) ≤ 20) && allW (nteB l) l.length 0
theorem nte_fold (l : List (List D)) (i : Nat) : (((((rngB (asI (nthD (l.getD i []) 0)) 1 100000 && !(decide ((i : Int) > 0) && decide (asI (nthD (l.getD (i - 1) []) 0) > asI (nthD (l.getD i []) 0)))) && rngB (asI (nthD (l.getD i []) 1)) 1 3) && rngB (asI (nthD (l.getD i []) 2)) 1 1000000) && rngB (asI (nthD (l.getD i []) 3)) 1 22) && rngB (asI (nthD (l.getD i []) 4)) 0 200) = nteB l i := rfl
theorem auditOk_spec (l : List (List D)) (hl : l.length ≤ 1048576) (ht : ∀ r ∈ l, typL shNote r) : t58 l = some ([.one (.b (audB l))], []) := by
  have ew : ∀ x, okR zr57 zo57 (some ([.one (.b x)], [])) = true := fun _ => rfl
  have eb : ∀ x, asB (resC (some ([.one (.b x)], [])) 0 0) = x := fun _ => rfl
  have e1 : ∀ a b c, (decide (b ≤ a) && decide (a ≤ c)) = rngB a b c := fun _ _ _ => rfl
  have key := fun b => walkA (σ := SV × SV) (fun m i s' => la58o1 t57 l false b (fun _ _ _ _ _ _ _ _ => some ([.one (.b false)], [])) (fun _ _ _ => some ([.one (.b true)], [])) m (i : Int) s'.1 s'.2) l.length (nteB l) (some ([.one (.b false)], [])) (some ([.one (.b true)], []))
    (by intro m s'; simp only [la58o1, at_out, Bool.false_eq_true, if_false])
    (by
      intro i m s' hi
      have hr := row_in' ht note_row i hi
      have hp := prev_chk ht note_row hi (by omega)
      simp only [la58o1, nat_in hi, Int.toNat_natCast, hr, in_eq, ew, eb, e1, Bool.true_or, w64_pred i (by omega), hp, chk_true, if_true, w64_succ i (by omega), six_not, nte_fold]
      cases hq : nteB l i
      · exact .inr ⟨rfl, rfl⟩
      · exact .inl ⟨rfl, (_, _), rfl⟩) l.length 0 KK (SV.undef, SV.undef) (by omega) (by rw [KK_eq]; omega)
  have e2 : decide ((l.length : Int) > 20) = !decide ((l.length : Int) ≤ 20) := by rw [Bool.eq_iff_iff]; simp
  simp only [t58, ta58, e2, audB]
  cases decide ((l.length : Int) ≤ 20)
  · rfl
  · simp only [Bool.not_true, Bool.false_eq_true, if_false, Bool.true_and]
    refine Eq.trans (key _) ?_
    cases allW (nteB l) l.length 0 <;> rfl
theorem auditOk_impl (l : List (List D)) (hl : l.length ≤ 1048576) (ht : ∀ r ∈ l, typL shNote r) : t65 l = some ([.one (.b (audB l))], []) := by
  have ew : ∀ x, okR zr63 zo63 (some ([.one (.b x)], [])) = true := fun _ => rfl
  have eb : ∀ x, asB (resC (some ([.one (.b x)], [])) 0 0) = x := fun _ => rfl
  have e1 : ∀ a b c, (decide (b ≤ a) && decide (a ≤ c)) = rngB a b c := fun _ _ _ => rfl
  have key := walkA (σ := SV × SV × SV) (fun m i s' => la65o0 t63 l false l (l.length : Int) (fun _ _ _ _ _ _ _ _ => some ([.one (.b false)], [])) (fun _ _ _ _ => some ([.one (.b (decide ((l.length : Int) ≤ (20 : Int))))], [])) m s'.1 (i : Int) s'.2.1 s'.2.2) l.length (nteB l) (some ([.one (.b false)], [])) (some ([.one (.b (decide ((l.length : Int) ≤ (20 : Int))))], []))
    (by intro m s'; simp only [la65o0, at_out, Bool.false_eq_true, if_false])
    (by
      intro i m s' hi
      have hr := row_in' ht note_row i hi
      have hp := prev_chk ht note_row hi (by omega)
      simp only [la65o0, nat_in hi, Int.toNat_natCast, hr, within_eq, ew, eb, e1, Bool.true_or, w64_pred i (by omega), hp, chk_true, if_true, w64_succ i (by omega), six_not, nte_fold]
      cases hq : nteB l i
      · exact .inr ⟨rfl, rfl⟩
      · exact .inl ⟨rfl, (_, _, _), rfl⟩) l.length 0 KK (SV.undef, SV.undef, SV.undef) (by omega) (by rw [KK_eq]; omega)
  refine Eq.trans key ?_
  unfold audB
  cases allW (nteB l) l.length 0 <;> cases decide ((l.length : Int) ≤ 20) <;> rfl
def resB (c : Int) (s : ByteArray) : Bool := rngB c 0 200 && decide ((s.size : Int) ≤ 400)
theorem resultOk_spec (c : Int) (s : ByteArray) : t59 c s = some ([.one (.b (resB c s))], []) := rfl
theorem resultOk_impl (c : Int) (s : ByteArray) : t64 c s = some ([.one (.b (resB c s))], []) := rfl
def sesB (l : List (List D)) (i : Nat) : Bool :=
  (((rngB (asI (nthD (l.getD i []) 0)) 1 3 && !(decide ((i : Int) > 0) && decide (asI (nthD (l.getD (i - 1) []) 0) ≥ asI (nthD (l.getD i []) 0)))) && rngB (asI (nthD (l.getD i []) 1)) 1 1000000) && rngB (asI (nthD (l.getD i []) 2)) 1 100000) && resB (asI (nthD (l.getD i []) 3)) (asS (nthD (l.getD i []) 4))
theorem ses_fold (l : List (List D)) (i : Nat) : ((((rngB (asI (nthD (l.getD i []) 0)) 1 3 && !(decide ((i : Int) > 0) && decide (asI (nthD (l.getD (i - 1) []) 0) ≥ asI (nthD (l.getD i []) 0)))) && rngB (asI (nthD (l.getD i []) 1)) 1 1000000) && rngB (asI (nthD (l.getD i []) 2)) 1 100000) && resB (asI (nthD (l.getD i []) 3)) (asS (nthD (l.getD i []) 4))) = sesB l i := rfl
theorem ses_len {l : List (List D)} (h : allW (sesB l) l.length 0 = true) : l.length ≤ 3 := by
  have hall : ∀ i, i < l.length → sesB l i = true := fun i hi => (allW_iff _ _).1 h i (by omega) (by omega)
  have key : ∀ i, i < l.length → (i : Int) + 1 ≤ asI (nthD (l.getD i []) 0) := by
    intro i
    induction i with
    | zero =>
      intro hi
      have := hall 0 hi
      simp only [sesB, rngB, Bool.and_eq_true, decide_eq_true_eq] at this
      have := this.1.1.1.1.1
      omega
    | succ i ih =>
      intro hi
      have h1 := ih (by omega)
      have := hall (i + 1) hi
      simp only [sesB, Bool.and_eq_true, Bool.not_eq_true', Bool.and_eq_false_iff, decide_eq_false_iff_not, Nat.add_sub_cancel] at this
      rcases this.1.1.1.2 with h2 | h2
      · exact absurd (by omega : ((i + 1 : Nat) : Int) > 0) h2
      · omega
  apply Classical.byContradiction
  intro hq
  have h1 := key 3 (by omega)
  have := hall 3 (by omega)
  simp only [sesB, rngB, Bool.and_eq_true, decide_eq_true_eq] at this
  have := this.1.1.1.1.2
  omega
noncomputable def tenB (n1 : Int) (l2 : List (List D)) (n3 : Int) (l4 l5 : List (List D)) : Bool := allW (sesB l5) l5.length 0 && ((rngB n3 0 30 && audB l4) && volB n1 l2)
theorem tenantOk_spec (n1 : Int) (l2 : List (List D)) (n3 : Int) (l4 l5 : List (List D)) (hl : l2.length ≤ 1048576) (ht : ∀ r ∈ l2, typL shInode r) (hz : ∀ r ∈ l2, szdL shInode r) (hl4 : l4.length ≤ 1048576) (ht4 : ∀ r ∈ l4, typL shNote r) (hl5 : l5.length ≤ 1048576) (ht5 : ∀ r ∈ l5, typL shSession r) :
    t23 n1 l2 n3 l4 l5 = some ([.one (.b (tenB n1 l2 n3 l4 l5))], []) := by
  have ew : ∀ x, okR zr57 zo57 (some ([.one (.b x)], [])) = true := fun _ => rfl
  have ew2 : ∀ x, okR zr56 zo56 (some ([.one (.b x)], [])) = true := fun _ => rfl
  have ew3 : ∀ x, okR zr58 zo58 (some ([.one (.b x)], [])) = true := fun _ => rfl
  have ew4 : ∀ x, okR zr59 zo59 (some ([.one (.b x)], [])) = true := fun _ => rfl
  have eb : ∀ x, asB (resC (some ([.one (.b x)], [])) 0 0) = x := fun _ => rfl
  have e1 : ∀ a b c, (decide (b ≤ a) && decide (a ≤ c)) = rngB a b c := fun _ _ _ => rfl
  have key := fun b => walkA (σ := SV × SV) (fun m i s' => la23o1 t56 t57 t58 t59 n1 l2 n3 l4 l5 false b n1 l2 n3 l4 l5 (fun _ _ _ _ _ _ _ _ => some ([.one (.b false)], [])) (fun _ _ _ => some ([.one (.b true)], [])) m (i : Int) s'.1 s'.2) l5.length (sesB l5) (some ([.one (.b false)], [])) (some ([.one (.b true)], []))
    (by intro m s'; simp only [la23o1, at_out, Bool.false_eq_true, if_false])
    (by
      intro i m s' hi
      have hr := row_in' ht5 session_row i hi
      have hp := prev_chk ht5 session_row hi (by omega)
      simp only [la23o1, nat_in hi, Int.toNat_natCast, hr, in_eq, resultOk_spec, ew, ew4, eb, e1, Bool.true_or, w64_pred i (by omega), hp, chk_true, if_true, w64_succ i (by omega), five_not, ses_fold]
      cases hq : sesB l5 i
      · exact .inr ⟨rfl, rfl⟩
      · exact .inl ⟨rfl, (_, _), rfl⟩) l5.length 0 KK (SV.undef, SV.undef) (by omega) (by rw [KK_eq]; omega)
  have e2 : decide ((l5.length : Int) > 3) = !decide ((l5.length : Int) ≤ 3) := by rw [Bool.eq_iff_iff]; simp
  simp only [t23, ta23, volOk_spec n1 l2 hl ht hz, auditOk_spec l4 hl4 ht4, in_eq, ew, ew2, ew3, eb, e1, e2, Bool.true_or, chk_true, tenB]
  cases hv : volB n1 l2 <;> cases ha : audB l4 <;> cases hi : rngB n3 0 30 <;> cases h3 : decide ((l5.length : Int) ≤ 3)
  case true.true.true.true =>
    simp only [Bool.not_true, Bool.or_self, Bool.false_eq_true, if_false, Bool.and_true]
    refine Eq.trans (key _) ?_
    cases allW (sesB l5) l5.length 0 <;> rfl
  case true.true.true.false =>
    have : allW (sesB l5) l5.length 0 = false := by
      rw [Bool.eq_false_iff]
      intro hq
      have := ses_len hq
      rw [decide_eq_false_iff_not] at h3
      omega
    rw [this]
    simp
  all_goals simp
theorem tenantOk_impl (n1 : Int) (l2 : List (List D)) (n3 : Int) (l4 l5 : List (List D)) (hl : l2.length ≤ 1048576) (ht : ∀ r ∈ l2, typL shInode r) (hz : ∀ r ∈ l2, szdL shInode r) (hl4 : l4.length ≤ 1048576) (ht4 : ∀ r ∈ l4, typL shNote r) (hl5 : l5.length ≤ 1048576) (ht5 : ∀ r ∈ l5, typL shSession r) :
    t25 n1 l2 n3 l4 l5 = some ([.one (.b (tenB n1 l2 n3 l4 l5))], []) := by
  have ew : ∀ x, okR zr63 zo63 (some ([.one (.b x)], [])) = true := fun _ => rfl
  have ew2 : ∀ x, okR zr66 zo66 (some ([.one (.b x)], [])) = true := fun _ => rfl
  have ew3 : ∀ x, okR zr65 zo65 (some ([.one (.b x)], [])) = true := fun _ => rfl
  have ew4 : ∀ x, okR zr64 zo64 (some ([.one (.b x)], [])) = true := fun _ => rfl
  have eb : ∀ x, asB (resC (some ([.one (.b x)], [])) 0 0) = x := fun _ => rfl
  have e1 : ∀ a b c, (decide (b ≤ a) && decide (a ≤ c)) = rngB a b c := fun _ _ _ => rfl
  simp only [t25, ta25, volOk_impl n1 l2 hl ht hz, auditOk_impl l4 hl4 ht4, within_eq, ew, ew2, ew3, eb, e1, Bool.true_or, chk_true, tenB]
  refine Eq.trans (walkA (σ := SV × SV × SV) (fun m i s' => la25o0 t63 t64 t65 t66 n1 l2 n3 l4 l5 false l5 (l5.length : Int) n1 l2 n3 l4 l5 (fun _ _ _ _ _ _ _ _ => some ([.one (.b false)], [])) (fun _ _ _ _ => some ([.one (.b ((rngB n3 0 30 && audB l4) && volB n1 l2))], [])) m s'.1 (i : Int) s'.2.1 s'.2.2) l5.length (sesB l5) (some ([.one (.b false)], [])) (some ([.one (.b ((rngB n3 0 30 && audB l4) && volB n1 l2))], []))
    (by intro m s'; simp only [la25o0, at_out, Bool.false_eq_true, if_false])
    (by
      intro i m s' hi
      have hr := row_in' ht5 session_row i hi
      have hp := prev_chk ht5 session_row hi (by omega)
      simp only [la25o0, nat_in hi, Int.toNat_natCast, hr, within_eq, resultOk_impl, ew, ew4, eb, e1, Bool.true_or, w64_pred i (by omega), hp, chk_true, if_true, w64_succ i (by omega), five_not, ses_fold]
      cases hq : sesB l5 i
      · exact .inr ⟨rfl, rfl⟩
      · exact .inl ⟨rfl, (_, _, _), rfl⟩) l5.length 0 KK (SV.undef, SV.undef, SV.undef) (by omega) (by rw [KK_eq]; omega)) ?_
  cases allW (sesB l5) l5.length 0 <;> rfl
end Go.Den.L9

/- A tenant's tick. -/
namespace Go.Den.L9
open Go
theorem flatW {n : Nat} {l : List (List D)} (h : ∀ r ∈ l, (decide (r.length = n) && allSc r) = true) : flatR n l = true := by
  induction l with
  | nil => rfl
  | cons r l ih => simp only [flatR, h r (by simp), ih (fun r hr => h r (by simp [hr])), Bool.and_true]
theorem dir_flat {l : List (List D)} (h : ∀ r ∈ l, typL shDirent r) : flatR 2 l = true := flatW fun r hr => by
  obtain ⟨a, b, rfl, _⟩ := Dirent_row (h r hr); rfl
theorem nte_flat {l : List (List D)} (h : ∀ r ∈ l, typL shNote r) : flatR 5 l = true := flatW fun r hr => by
  obtain ⟨a, b, c, d, e, rfl⟩ := Note_row (h r hr); rfl
theorem ses_flat {l : List (List D)} (h : ∀ r ∈ l, typL shSession r) : flatR 5 l = true := flatW fun r hr => by
  obtain ⟨a, b, c, d, e, rfl, _⟩ := Session_row (h r hr); rfl
theorem len_lim {n : Nat} (h : n ≤ 1048577) : decide (n ≤ lim) = true := decide_eq_true (by unfold lim; omega)
theorem nms_len {l : List (List D)} (ht : ∀ r ∈ l, typL shInode r) (hz : ∀ r ∈ l, szdL shInode r) {r : List D} (hr : r ∈ l) : (asL (nthD r 6)).length ≤ 1048576 := by
  have h1 := hz r hr
  obtain ⟨x1, x2, x3, x4, x5, x6, x7, x8, x9, rfl, -⟩ := Inode_row (ht r hr)
  exact h1.2.2.2.2.2.2.1.1
theorem ino_back {r : List D} (h : typL shInode r) : ([.i .i64 (asI (nthD r 0)), .i .i64 (asI (nthD r 1)), .i .i64 (asI (nthD r 2)), .i .i64 (asI (nthD r 3)), .i .i64 (asI (nthD r 4)), .s (asS (nthD r 5)), .l (asL (nthD r 6)), .i .i64 (asI (nthD r 7)), .i .i64 (asI (nthD r 8))] : List D) = r := by
  obtain ⟨x1, x2, x3, x4, x5, x6, x7, x8, x9, rfl, -⟩ := Inode_row h; rfl
theorem copyVol_spec (n1 : Int) (l : List (List D)) (hl : l.length ≤ 1048576) (ht : ∀ r ∈ l, typL shInode r) (hz : ∀ r ∈ l, szdL shInode r) : t111 n1 l = some ([.agg [.i .i64 n1, .l l]], []) := by
  refine walkQ (α := List (List D)) (σ := SV) (fun m i t v => l111o0 n1 l n1 l 0 n1 (fun _ _ l34 => some ([.agg [.i .i64 n1, .l l34]], [])) m (i : Int) v t) l.length (fun i t => t = l.take i) (fun y => y = some ([.agg [.i .i64 n1, .l l]], []))
    ?_ ?_ l.length 0 KK [] SV.undef (by omega) (by rw [KK_eq]; omega) (by simp)
  · intro m t v hp
    rw [List.take_length] at hp
    simp only [l111o0, at_out, Bool.false_eq_true, if_false, hp]
  · intro i m t v hi hp
    left
    have hrow := getD_row ht hi
    have hr := inode_row _ hrow
    have hf : flatR 2 (asL (nthD (l.getD i []) 6)) = true := dir_flat (nms_typ hrow)
    have hn := nms_len ht hz (mem_getD hi)
    have hb := ino_back hrow
    have h0 : ∀ n : Nat, ([] : List (List D)).length + n = n := fun n => by simp
    have h1 : ∀ r : List D, ([r] : List (List D)).length = 1 := fun _ => rfl
    have htl : t.length ≤ 1048576 := by rw [hp, List.length_take]; omega
    simp only [l111o0, nat_in hi, Int.toNat_natCast, nat_pos, hr, hf, h0, h1, len_lim (n := (asL (nthD (l.getD i []) 6)).length) (by omega), len_lim (n := t.length + 1) (by omega), List.nil_append, hb, Bool.and_true, Bool.true_and, chk_true, if_true, w64_succ i (by omega)]
    refine ⟨_, _, rfl, ?_⟩
    rw [hp, List.take_succ_eq_append_getElem hi, getD_in hi]
theorem copyVol_impl (n1 : Int) (l : List (List D)) (hl : l.length ≤ 1048576) (ht : ∀ r ∈ l, typL shInode r) (hz : ∀ r ∈ l, szdL shInode r) : t112 n1 l = some ([.agg [.i .i64 n1, .l l]], []) := by
  refine walkQ (α := List (List D)) (σ := SV) (fun m i t v => l112o0 n1 l l (l.length : Int) n1 l 0 n1 (fun _ _ l34 => some ([.agg [.i .i64 n1, .l l34]], [])) m (i : Int) v t) l.length (fun i t => t = l.take i) (fun y => y = some ([.agg [.i .i64 n1, .l l]], []))
    ?_ ?_ l.length 0 KK [] SV.undef (by omega) (by rw [KK_eq]; omega) (by simp)
  · intro m t v hp
    rw [List.take_length] at hp
    simp only [l112o0, at_out, Bool.false_eq_true, if_false, hp]
  · intro i m t v hi hp
    left
    have hrow := getD_row ht hi
    have hr := inode_row _ hrow
    have hf : flatR 2 (asL (nthD (l.getD i []) 6)) = true := dir_flat (nms_typ hrow)
    have hn := nms_len ht hz (mem_getD hi)
    have hb := ino_back hrow
    have h1 : ∀ r : List D, ([r] : List (List D)).length = 1 := fun _ => rfl
    have htl : t.length ≤ 1048576 := by rw [hp, List.length_take]; omega
    simp only [l112o0, nat_in hi, Int.toNat_natCast, nat_pos, hr, hf, h1, len_lim (n := (asL (nthD (l.getD i []) 6)).length) (by omega), len_lim (n := t.length + 1) (by omega), hb, Bool.and_true, Bool.true_and, chk_true, if_true, w64_succ i (by omega)]
    refine ⟨_, _, rfl, ?_⟩
    rw [hp, List.take_succ_eq_append_getElem hi, getD_in hi]
theorem copyTen_spec (n1 : Int) (l2 : List (List D)) (n3 : Int) (l4 l5 : List (List D)) (hl : l2.length ≤ 1048576) (ht : ∀ r ∈ l2, typL shInode r) (hz : ∀ r ∈ l2, szdL shInode r) (hl4 : l4.length ≤ 1048576) (ht4 : ∀ r ∈ l4, typL shNote r) (hl5 : l5.length ≤ 1048576) (ht5 : ∀ r ∈ l5, typL shSession r) :
    t73 n1 l2 n3 l4 l5 = some ([.agg [.i .i64 n1, .l l2, .i .i64 n3, .l l4, .l l5]], []) := by
  have ew : ∀ x l, okR zr111 zo111 (some ([.agg [.i .i64 x, .l l]], [])) = true := fun _ _ => rfl
  have h0 : ∀ n : Nat, ([] : List (List D)).length + n = n := fun n => by simp
  simp only [t73, ta73, copyVol_spec n1 l2 hl ht hz, ew, nte_flat ht4, ses_flat ht5, h0, len_lim (n := l4.length) (by omega), len_lim (n := l5.length) (by omega), List.nil_append, Bool.and_true, chk_true]
  rfl
theorem copyTen_impl (n1 : Int) (l2 : List (List D)) (n3 : Int) (l4 l5 : List (List D)) (hl : l2.length ≤ 1048576) (ht : ∀ r ∈ l2, typL shInode r) (hz : ∀ r ∈ l2, szdL shInode r) (hl4 : l4.length ≤ 1048576) (ht4 : ∀ r ∈ l4, typL shNote r) (hl5 : l5.length ≤ 1048576) (ht5 : ∀ r ∈ l5, typL shSession r) :
    t75 n1 l2 n3 l4 l5 = some ([.agg [.i .i64 n1, .l l2, .i .i64 n3, .l l4, .l l5]], []) := by
  have ew : ∀ x l, okR zr112 zo112 (some ([.agg [.i .i64 x, .l l]], [])) = true := fun _ _ => rfl
  simp only [t75, ta75, copyVol_impl n1 l2 hl ht hz, ew, nte_flat ht4, ses_flat ht5, len_lim (n := l4.length) (by omega), len_lim (n := l5.length) (by omega), Bool.and_true, chk_true]
  rfl
def refI (n : Int) : Int := if n < 0 then 4 else if n ≥ 26 then 30 else w64 (n + 4)
theorem refill_spec (n : Int) : t74 n = some ([.one (.i .i64 (refI n))], []) := by
  unfold t74 refI
  by_cases h : n < 0
  · simp only [h, decide_true, if_true]
  · by_cases h2 : n ≥ 26
    · simp only [h, h2, decide_true, decide_false, if_true, if_false, Bool.false_eq_true]
    · simp only [h, h2, decide_false, if_false, Bool.false_eq_true]
theorem refill_impl (n : Int) : t76 n = some ([.one (.i .i64 (refI n))], []) := by
  unfold t76 refI
  by_cases h : n < 0
  · simp only [h, decide_true, if_true]
  · by_cases h2 : n > 26
    · have h3 : n ≥ 26 := by omega
      simp only [h, h2, h3, decide_true, decide_false, if_true, if_false, Bool.false_eq_true]
    · by_cases h3 : n = 26
      · subst h3; rfl
      · have h4 : ¬ n ≥ 26 := by omega
        simp only [h, h2, h4, decide_false, if_false, Bool.false_eq_true]
theorem both_TenantTick (x1 : Int) (x2 : List (List D)) (x3 : Int) (x4 x5 : List (List D)) (w2 : x2.length ≤ 1048576) (t2 : ∀ r ∈ x2, typL shInode r) (z2 : ∀ r ∈ x2, szdL shInode r) (w4 : x4.length ≤ 1048576) (t4 : ∀ r ∈ x4, typL shNote r) (z4 : ∀ r ∈ x4, szdL shNote r) (w5 : x5.length ≤ 1048576) (t5 : ∀ r ∈ x5, typL shSession r) (z5 : ∀ r ∈ x5, szdL shSession r) :
    ∃ (r1 : Int) (r2 : List (List D)) (r3 : Int) (r4 r5 : List (List D)), t34 x1 x2 x3 x4 x5 = some ([.agg [.i .i64 r1, .l r2, .i .i64 r3, .l r4, .l r5]], []) ∧ t35 x1 x2 x3 x4 x5 = some ([.agg [.i .i64 r1, .l r2, .i .i64 r3, .l r4, .l r5]], []) ∧
    r2.length ≤ 1048576 ∧ (∀ r ∈ r2, typL shInode r) ∧ (∀ r ∈ r2, szdL shInode r) ∧ r4.length ≤ 1048576 ∧ (∀ r ∈ r4, typL shNote r) ∧ r5.length ≤ 1048576 ∧ (∀ r ∈ r5, typL shSession r) ∧ True := by
  have ew1 : ∀ x, okR zr23 zo23 (some ([.one (.b x)], [])) = true := fun _ => rfl
  have ew2 : ∀ x, okR zr25 zo25 (some ([.one (.b x)], [])) = true := fun _ => rfl
  have ew3 : ∀ x, okR zr74 zo74 (some ([.one (.i .i64 x)], [])) = true := fun _ => rfl
  have ew4 : ∀ x, okR zr76 zo76 (some ([.one (.i .i64 x)], [])) = true := fun _ => rfl
  have ew5 : ∀ a b c d e, okR zr73 zo73 (some ([.agg [.i .i64 a, .l b, .i .i64 c, .l d, .l e]], [])) = true := fun _ _ _ _ _ => rfl
  have ew6 : ∀ a b c d e, okR zr75 zo75 (some ([.agg [.i .i64 a, .l b, .i .i64 c, .l d, .l e]], [])) = true := fun _ _ _ _ _ => rfl
  have eB : ∀ x, asB (resC (some ([.one (.b x)], [])) 0 0) = x := fun _ => rfl
  have eI : ∀ x, asI (resC (some ([.one (.i .i64 x)], [])) 0 0) = x := fun _ => rfl
  have e0 : ∀ a b c d e, asI (resC (some ([.agg [.i .i64 a, .l b, .i .i64 c, .l d, .l e]], [])) 0 0) = a := fun _ _ _ _ _ => rfl
  have e1 : ∀ a b c d e, asL (resC (some ([.agg [.i .i64 a, .l b, .i .i64 c, .l d, .l e]], [])) 0 1) = b := fun _ _ _ _ _ => rfl
  have e2 : ∀ a b c d e, asI (resC (some ([.agg [.i .i64 a, .l b, .i .i64 c, .l d, .l e]], [])) 0 2) = c := fun _ _ _ _ _ => rfl
  have e3 : ∀ a b c d e, asL (resC (some ([.agg [.i .i64 a, .l b, .i .i64 c, .l d, .l e]], [])) 0 3) = d := fun _ _ _ _ _ => rfl
  have e4 : ∀ a b c d e, asL (resC (some ([.agg [.i .i64 a, .l b, .i .i64 c, .l d, .l e]], [])) 0 4) = e := fun _ _ _ _ _ => rfl
  cases hv : tenB x1 x2 x3 x4 x5
  · refine ⟨0, [], 0, [], [], ?_, ?_, by simp, by simp, by simp, by simp, by simp, by simp, by simp, trivial⟩
    · simp only [t34, ta34, tenantOk_spec x1 x2 x3 x4 x5 w2 t2 z2 w4 t4 w5 t5, ew1, eB, hv, chk_true]; rfl
    · simp only [t35, ta35, tenantOk_impl x1 x2 x3 x4 x5 w2 t2 z2 w4 t4 w5 t5, ew2, eB, hv, chk_true]; rfl
  · refine ⟨x1, x2, refI x3, x4, x5, ?_, ?_, w2, t2, z2, w4, t4, w5, t5, trivial⟩
    · simp only [t34, ta34, tenantOk_spec x1 x2 x3 x4 x5 w2 t2 z2 w4 t4 w5 t5, copyTen_spec x1 x2 x3 x4 x5 w2 t2 z2 w4 t4 w5 t5, refill_spec, ew1, ew3, ew5, eB, eI, e0, e1, e2, e3, e4, hv, chk_true, Bool.not_true, Bool.false_eq_true, if_false]
    · simp only [t35, ta35, tenantOk_impl x1 x2 x3 x4 x5 w2 t2 z2 w4 t4 w5 t5, copyTen_impl x1 x2 x3 x4 x5 w2 t2 z2 w4 t4 w5 t5, refill_impl, ew2, ew4, ew6, eB, eI, e0, e1, e2, e3, e4, hv, chk_true, Bool.not_true, Bool.false_eq_true, if_false]
end Go.Den.L9

/- The law FnExactTenantTick. Printed by lawgen.py. -/
namespace Go.Den.L9
open Go
theorem law9 (x1 : Int) (x2 : List (List D)) (wx2 : x2.length ≤ maxLen) (tx2 : ∀ r ∈ x2, typL shInode r) (x3 : Int) (x4 : List (List D)) (wx4 : x4.length ≤ maxLen) (tx4 : ∀ r ∈ x4, typL shNote r) (x5 : List (List D)) (wx5 : x5.length ≤ maxLen) (tx5 : ∀ r ∈ x5, typL shSession r) : t9 x1 x2 x3 x4 x5 = some ([.one (.b true)], []) := by
  obtain ⟨y1, e1, a1, z1⟩ := szTenant_ok x1 x2 x3 x4 x5 wx2 tx2 wx4 tx4 wx5 tx5 1048576 (by omega) (by omega)
  by_cases n1 : y1 < 0
  · simp only [t9, ta9, e1, n1, zr14, zo14, zr15, zo15, zr16, zo16, zr22, zo22, zr24, zo24, zr34, zo34, zr35, zo35, okR, isVs, isV, isD, isDs, isOs, resC, outC, nthR, nthO, cellsDV, nthD, asB, asI, asS, asL, Bool.and_true, Bool.true_and, Bool.true_or, BEq.rfl, chk_true, bne_self_eq_false, Bool.not_true, Bool.not_false, Bool.or_self, Bool.or_false, Bool.false_or, decide_true, decide_false, Bool.false_eq_true, if_false, if_true]
  have u1 := z1 (by omega)
  have sx2 := u1.2.1
  have sx4 := u1.2.2.2.1
  have sx5 := u1.2.2.2.2.1
  have qx2 : x2.length ≤ 1048576 := sx2.1
  have qx4 : x4.length ≤ 1048576 := sx4.1
  have qx5 : x5.length ≤ 1048576 := sx5.1
  obtain ⟨r1, r2, r3, r4, r5, k1, k2, qr2, tr2, szr2, qr4, tr4, qr5, tr5, _⟩ := both_TenantTick x1 x2 x3 x4 x5 sx2.1 tx2 sx2.2 sx4.1 tx4 sx4.2 sx5.1 tx5 sx5.2
  have bx2 := cntInodeS_le x2 tx2 (sx2.2)
  have nx2 := cntInodeS_nn x2
  have mx4 : ∀ r ∈ x4, r.length = 5 := fun r hr => typL_len _ r (tx4 r hr)
  have mx5 : ∀ r ∈ x5, r.length = 5 := fun r hr => typL_len _ r (tx5 r hr)
  have br2 := cntInodeS_le r2 tr2 szr2
  have nr2 := cntInodeS_nn r2
  have mr4 : ∀ r ∈ r4, r.length = 5 := fun r hr => typL_len _ r (tr4 r hr)
  have mr5 : ∀ r ∈ r5, r.length = 5 := fun r hr => typL_len _ r (tr5 r hr)
  have f1 := markTenant_eq x1 x2 x3 x4 x5 tx2 (sx2.2) qx2 mx4 qx4 mx5 qx5 (1) (by omega) (by omega)
  have f2 : decide (1 + cntInodeS x2 + 5 * (x4.length : Int) + 5 * (x5.length : Int) < 0) = false := decide_eq_false (by omega)
  have f3 := markTenant_eq r1 r2 r3 r4 r5 tr2 szr2 qr2 mr4 qr4 mr5 qr5 (1) (by omega) (by omega)
  have f4 : decide (1 + cntInodeS r2 + 5 * (r4.length : Int) + 5 * (r5.length : Int) < 0) = false := decide_eq_false (by omega)
  have f5 := heldTenant_eq r1 r2 r3 r4 r5 tr2 szr2 qr2 mr4 qr4 mr5 qr5 (1) (by omega) (by omega)
  have f6 : decide (1 + cntInodeS r2 + 5 * (r4.length : Int) + 5 * (r5.length : Int) < 0) = false := decide_eq_false (by omega)
  simp only [t9, ta9, e1, n1, toTenant_eq x1 x2 x3 x4 x5 sx2.1 tx2 sx2.2 sx4.1 tx4 sx4.2 sx5.1 tx5 sx5.2, k1, k2, eqTenant_self r1 r2 r3 r4 r5 qr2 tr2 szr2 qr4 tr4 qr5 tr5, eqTenant_self x1 x2 x3 x4 x5 qx2 tx2 sx2.2 qx4 tx4 qx5 tx5, f1, f2, f3, f4, f5, f6, zr14, zo14, zr15, zo15, zr16, zo16, zr22, zo22, zr24, zo24, zr34, zo34, zr35, zo35, okR, isVs, isV, isD, isDs, isOs, resC, outC, nthR, nthO, cellsDV, nthD, asB, asI, asS, asL, Bool.and_true, Bool.true_and, Bool.true_or, BEq.rfl, chk_true, bne_self_eq_false, Bool.not_true, Bool.not_false, Bool.or_self, Bool.or_false, Bool.false_or, decide_true, decide_false, Bool.false_eq_true, if_false, if_true]
end Go.Den.L9
