/- Plain laws about what the functions compute; no condition. -/
import Derived.Test.YthnpflcemooaeaaL4Tw
import Derived.IntWalk
set_option linter.unusedVariables false
set_option linter.unusedSimpArgs false
/- How twins are taken apart. -/
namespace Go.Den.L4
open Go Go.IntWalk
theorem chk_true (x : Rs) : chk true x = x := rfl
theorem chk_ok {b : Bool} (h : b = true) (x : Rs) : chk b x = x := by rw [h]; rfl
attribute [simp] chk_true okR isVs isV isD isDs isOs resC outC nthR nthO cellsDV nthD asB asI asS asL
theorem ite_not {α : Type} (a b : Bool) (h : a = !b) (x y : α) : (if a = true then x else y) = (if b = true then y else x) := by
  subst h; cases b <;> rfl
theorem bool_some (a b : Bool) (h : a = b) : (some ([DV.one (.b a)], ([] : List (List D))) : Rs) = some ([.one (.b b)], []) := by rw [h]
theorem nil_toList : (⟨#[]⟩ : ByteArray).toList = [] := by rw [ByteArray.toList_eq]
theorem toList_nil (s : ByteArray) : s.toList = [] ↔ (s.size : Int) = 0 := by
  have e : s.size = s.data.toList.length := by rw [Array.length_toList]; rfl
  rw [ByteArray.toList_eq, e]
  cases s.data.toList <;> simp <;> omega
theorem toList_isEmpty (s : ByteArray) : s.toList.isEmpty = decide ((s.size : Int) = 0) := by
  rw [Bool.eq_iff_iff, List.isEmpty_iff, toList_nil]; simp
attribute [simp] nil_toList toList_nil toList_isEmpty
theorem KK_eq : KK = 18446744073709551616 := Classical.choose_spec (⟨2 ^ 64, rfl⟩ : ∃ n : Nat, n = 2 ^ 64)
theorem w64_in (n : Int) (h : -9223372036854775808 ≤ n ∧ n ≤ 9223372036854775807) : w64 n = n := i64_in n h
theorem getD_in {l : List (List D)} {i : Nat} (hi : i < l.length) : l.getD i [] = l[i] := by simp [List.getD, hi]
theorem getD_row {l : List (List D)} {es : List Sh} (h : ∀ r ∈ l, typL es r) {i : Nat} (hi : i < l.length) : typL es (l.getD i []) := by
  rw [getD_in hi]; exact h _ (List.getElem_mem hi)
theorem w64_succ (i : Nat) (h : i < 4611686018427387904) : w64 ((i : Int) + 1) = ((i + 1 : Nat) : Int) := by
  rw [w64_in _ (by omega)]; rfl
end Go.Den.L4

/- Sizes; copies of rows. -/
namespace Go.Den.L4
open Go
mutual
/-- What was found small enough. -/
def szdD : Sh → D → Prop
  | .b, _ => True
  | .i _, _ => True
  | .s, d => (asS d).size ≤ 1048576
  | .l es, d => (asL d).length ≤ 1048576 ∧ ∀ r ∈ asL d, szdL es r
def szdL : List Sh → List D → Prop
  | [], _ => True
  | e :: es, ds => szdD e (nthD ds 0) ∧ szdL es ds.tail
end
theorem mem_getD {l : List (List D)} {i : Nat} (h : i < l.length) : l.getD i [] ∈ l := by rw [getD_in h]; exact List.getElem_mem h
theorem all_getD {l : List (List D)} {P : List D → Prop} (h : ∀ j, j < l.length → P (l.getD j [])) : ∀ r ∈ l, P r := by
  intro r hr
  obtain ⟨j, hj, rfl⟩ := List.mem_iff_getElem.1 hr
  rw [← getD_in hj]; exact h j hj
theorem nat_in {i n : Nat} (h : i < n) : decide ((i : Int) < (n : Int)) = true := by simp; omega
theorem nat_pos (i : Nat) : decide ((0 : Int) ≤ (i : Int)) = true := by simp
theorem modify_mid {α : Type} (f : α → α) : ∀ (a : List α) (x : α) (b : List α), (a ++ x :: b).modify a.length f = a ++ f x :: b
  | [], x, b => by simp
  | y :: a, x, b => by simp [modify_mid f a x b]
theorem stR_at (l : List (List D)) (i k : Nat) (z ys : List D) (hz : z.length ≤ ys.length) (e : i + (k + 1) = l.length) (hy : l.getD i [] = ys) : stR (l.take i ++ List.replicate (k + 1) z) i 0 ys = l.take (i + 1) ++ List.replicate k z := by
  have hi : i < l.length := by omega
  rw [getD_in hi] at hy
  have hl : (l.take i).length = i := by simp; omega
  have key := modify_mid (fun r => r.take 0 ++ ys ++ r.drop (0 + ys.length)) (l.take i) z (List.replicate k z)
  rw [hl] at key
  unfold stR
  rw [List.replicate_succ, key, List.take_succ_eq_append_getElem hi, hy]
  simp [List.drop_eq_nil_of_le hz]
end Go.Den.L4

/- Types Snap Entry EntryS Kept Rec RecS Store Dirent DirentS Inode InodeS Vol IntS Cred Call Result Note NoteS Session SessionS Tenant TenantS Slot SlotS Msg MsgS Core: sizes, copies, likeness (printed by fam.py). -/
namespace Go.Den.L4
open Go
abbrev shSnap : List Sh := [.i .i64, .i .i64, .s]
theorem Snap_row {r : List D} (h : typL shSnap r) : ∃ x1 x2 x3, r = [.i .i64 x1, .i .i64 x2, .s x3] ∧ x3.size ≤ maxLen := by
  obtain ⟨_, _, rfl, ⟨x1, rfl, _⟩, ⟨_, _, rfl, ⟨x2, rfl, _⟩, ⟨_, _, rfl, ⟨x3, rfl, wx3⟩, rfl⟩⟩⟩ := h
  exact ⟨x1, x2, x3, rfl, wx3⟩
abbrev shEntry : List Sh := [.i .i64, .s]
theorem Entry_row {r : List D} (h : typL shEntry r) : ∃ x1 x2, r = [.i .i64 x1, .s x2] ∧ x2.size ≤ maxLen := by
  obtain ⟨_, _, rfl, ⟨x1, rfl, _⟩, ⟨_, _, rfl, ⟨x2, rfl, wx2⟩, rfl⟩⟩ := h
  exact ⟨x1, x2, rfl, wx2⟩
abbrev shKept : List Sh := [.i .i64, .i .i64, .i .i64, .i .i64, .s, .l [.i .i64, .s]]
theorem Kept_row {r : List D} (h : typL shKept r) : ∃ x1 x2 x3 x4 x5 x6, r = [.i .i64 x1, .i .i64 x2, .i .i64 x3, .i .i64 x4, .s x5, .l x6] ∧ x5.size ≤ maxLen ∧ x6.length ≤ maxLen ∧ (∀ r ∈ x6, typL shEntry r) := by
  obtain ⟨_, _, rfl, ⟨x1, rfl, _⟩, ⟨_, _, rfl, ⟨x2, rfl, _⟩, ⟨_, _, rfl, ⟨x3, rfl, _⟩, ⟨_, _, rfl, ⟨x4, rfl, _⟩, ⟨_, _, rfl, ⟨x5, rfl, wx5⟩, ⟨_, _, rfl, ⟨x6, rfl, wx6, tx6⟩, rfl⟩⟩⟩⟩⟩⟩ := h
  exact ⟨x1, x2, x3, x4, x5, x6, rfl, wx5, wx6, tx6⟩
abbrev shRec : List Sh := [.i .i64, .i .i64, .i .i64, .i .i64, .s]
theorem Rec_row {r : List D} (h : typL shRec r) : ∃ x1 x2 x3 x4 x5, r = [.i .i64 x1, .i .i64 x2, .i .i64 x3, .i .i64 x4, .s x5] ∧ x5.size ≤ maxLen := by
  obtain ⟨_, _, rfl, ⟨x1, rfl, _⟩, ⟨_, _, rfl, ⟨x2, rfl, _⟩, ⟨_, _, rfl, ⟨x3, rfl, _⟩, ⟨_, _, rfl, ⟨x4, rfl, _⟩, ⟨_, _, rfl, ⟨x5, rfl, wx5⟩, rfl⟩⟩⟩⟩⟩ := h
  exact ⟨x1, x2, x3, x4, x5, rfl, wx5⟩
abbrev shStore : List Sh := [.i .i64, .i .i64, .i .i64, .i .i64, .s, .l [.i .i64, .s], .l [.i .i64, .i .i64, .i .i64, .i .i64, .s]]
theorem Store_row {r : List D} (h : typL shStore r) : ∃ x1 x2 x3 x4 x5 x6 x7, r = [.i .i64 x1, .i .i64 x2, .i .i64 x3, .i .i64 x4, .s x5, .l x6, .l x7] ∧ x5.size ≤ maxLen ∧ x6.length ≤ maxLen ∧ (∀ r ∈ x6, typL shEntry r) ∧ x7.length ≤ maxLen ∧ (∀ r ∈ x7, typL shRec r) := by
  obtain ⟨_, _, rfl, ⟨x1, rfl, _⟩, ⟨_, _, rfl, ⟨x2, rfl, _⟩, ⟨_, _, rfl, ⟨x3, rfl, _⟩, ⟨_, _, rfl, ⟨x4, rfl, _⟩, ⟨_, _, rfl, ⟨x5, rfl, wx5⟩, ⟨_, _, rfl, ⟨x6, rfl, wx6, tx6⟩, ⟨_, _, rfl, ⟨x7, rfl, wx7, tx7⟩, rfl⟩⟩⟩⟩⟩⟩⟩ := h
  exact ⟨x1, x2, x3, x4, x5, x6, x7, rfl, wx5, wx6, tx6, wx7, tx7⟩
abbrev shDirent : List Sh := [.s, .i .i64]
theorem Dirent_row {r : List D} (h : typL shDirent r) : ∃ x1 x2, r = [.s x1, .i .i64 x2] ∧ x1.size ≤ maxLen := by
  obtain ⟨_, _, rfl, ⟨x1, rfl, wx1⟩, ⟨_, _, rfl, ⟨x2, rfl, _⟩, rfl⟩⟩ := h
  exact ⟨x1, x2, rfl, wx1⟩
theorem eqDirent_self (x1 : ByteArray) (x2 : Int)  : t143 x1 x2 x1 x2 = some ([.one (.b true)], []) := by
  simp only [t143, bne_self_eq_false, Bool.not_true, Bool.false_eq_true, if_false, okR, isVs, isV, isD, isDs, isOs, resC, outC, nthR, nthO, cellsDV, nthD, asB, asI, asS, asL, Bool.and_true, Bool.true_and, BEq.rfl, chk_true, decide_true]
theorem eqDirentS_loop (b0 b1 : Bool) (q1 : Int → Bool → Bool → Rs) (q2 : Int → Bool → SV → Rs) (h2 : ∀ a b c, q2 a b c = some ([.one (.b true)], [])) (l : List (List D)) (h : ∀ r ∈ l, typL shDirent r) (hl : l.length < 4611686018427387904) : ∀ (k i m : Nat) (v w : SV), i + k = l.length → k < m →
    l137o1 l l b0 b1 q1 q2 m i v w = some ([.one (.b true)], []) := by
  intro k
  induction k with
  | zero =>
    intro i m v w e hm
    obtain ⟨m, rfl⟩ : ∃ m', m = m' + 1 := ⟨m - 1, by omega⟩
    have ei : decide ((i : Int) < (l.length : Int)) = false := by simp; omega
    simp only [l137o1, ei, h2]
    simp
  | succ k ih =>
    intro i m v w e hm
    obtain ⟨m, rfl⟩ : ∃ m', m = m' + 1 := ⟨m - 1, by omega⟩
    have hr := getD_row h (i := i) (by omega)
    obtain ⟨c1, c2, er, wc1⟩ := Dirent_row hr
    have e1 : decide ((i : Int) < (l.length : Int)) = true := by simp; omega
    have e2 : decide ((0 : Int) ≤ (i : Int)) = true := by simp
    have ez : isRow z129 [.s c1, .i .i64 c2] = true := rfl
    have ew : okR zr143 zo143 (some ([.one (.b true)], [])) = true := rfl
    simp only [l137o1, e1, e2, Int.toNat_natCast, er, ez, nthD, asI, asS, asB, asL, eqDirent_self c1 c2, resC, nthR, cellsDV, ew, Bool.and_true, chk_true, if_true, Bool.not_true, Bool.false_eq_true, if_false]
    rw [w64_succ i (by omega)]
    exact ih (i + 1) m _ _ (by omega) (by omega)
theorem eqDirentS_self (l : List (List D)) (hl : l.length ≤ 1048576) (h : ∀ r ∈ l, typL shDirent r) : t137 l l = some ([.one (.b true)], []) := by
  have := eqDirentS_loop false false (fun _ _ _ => some ([.one (.b false)], [])) (fun _ _ _ => some ([.one (.b true)], [])) (fun _ _ _ => rfl) l h (by omega) l.length 0 KK .undef .undef (by omega) (by rw [KK_eq]; omega)
  simpa [t137] using this
abbrev shInode : List Sh := [.i .i64, .i .i64, .i .i64, .i .i64, .i .i64, .s, .l [.s, .i .i64], .i .i64, .i .i64]
theorem Inode_row {r : List D} (h : typL shInode r) : ∃ x1 x2 x3 x4 x5 x6 x7 x8 x9, r = [.i .i64 x1, .i .i64 x2, .i .i64 x3, .i .i64 x4, .i .i64 x5, .s x6, .l x7, .i .i64 x8, .i .i64 x9] ∧ x6.size ≤ maxLen ∧ x7.length ≤ maxLen ∧ (∀ r ∈ x7, typL shDirent r) := by
  obtain ⟨_, _, rfl, ⟨x1, rfl, _⟩, ⟨_, _, rfl, ⟨x2, rfl, _⟩, ⟨_, _, rfl, ⟨x3, rfl, _⟩, ⟨_, _, rfl, ⟨x4, rfl, _⟩, ⟨_, _, rfl, ⟨x5, rfl, _⟩, ⟨_, _, rfl, ⟨x6, rfl, wx6⟩, ⟨_, _, rfl, ⟨x7, rfl, wx7, tx7⟩, ⟨_, _, rfl, ⟨x8, rfl, _⟩, ⟨_, _, rfl, ⟨x9, rfl, _⟩, rfl⟩⟩⟩⟩⟩⟩⟩⟩⟩ := h
  exact ⟨x1, x2, x3, x4, x5, x6, x7, x8, x9, rfl, wx6, wx7, tx7⟩
theorem eqInode_self (x1 : Int) (x2 : Int) (x3 : Int) (x4 : Int) (x5 : Int) (x6 : ByteArray) (x7 : List (List D)) (x8 : Int) (x9 : Int) (wx7 : x7.length ≤ 1048576) (tx7 : ∀ r ∈ x7, typL shDirent r) : t120 x1 x2 x3 x4 x5 x6 x7 x8 x9 x1 x2 x3 x4 x5 x6 x7 x8 x9 = some ([.one (.b true)], []) := by
  simp only [t120, bne_self_eq_false, Bool.not_true, Bool.false_eq_true, if_false, eqDirentS_self x7 wx7 tx7, zr137, zo137, okR, isVs, isV, isD, isDs, isOs, resC, outC, nthR, nthO, cellsDV, nthD, asB, asI, asS, asL, Bool.and_true, Bool.true_and, BEq.rfl, chk_true, decide_true]
theorem eqInodeS_loop (b0 b1 : Bool) (q1 : Int → Bool → Bool → Rs) (q2 : Int → Bool → SV → Rs) (h2 : ∀ a b c, q2 a b c = some ([.one (.b true)], [])) (l : List (List D)) (h : ∀ r ∈ l, typL shInode r) (hs : ∀ r ∈ l, szdL shInode r) (hl : l.length < 4611686018427387904) : ∀ (k i m : Nat) (v w : SV), i + k = l.length → k < m →
    l83o1 l l b0 b1 q1 q2 m i v w = some ([.one (.b true)], []) := by
  intro k
  induction k with
  | zero =>
    intro i m v w e hm
    obtain ⟨m, rfl⟩ : ∃ m', m = m' + 1 := ⟨m - 1, by omega⟩
    have ei : decide ((i : Int) < (l.length : Int)) = false := by simp; omega
    simp only [l83o1, ei, h2]
    simp
  | succ k ih =>
    intro i m v w e hm
    obtain ⟨m, rfl⟩ : ∃ m', m = m' + 1 := ⟨m - 1, by omega⟩
    have hr := getD_row h (i := i) (by omega)
    obtain ⟨c1, c2, c3, c4, c5, c6, c7, c8, c9, er, wc6, wc7, tc7⟩ := Inode_row hr
    have hso := hs _ (mem_getD (l := l) (i := i) (by omega))
    rw [er] at hso
    have e1 : decide ((i : Int) < (l.length : Int)) = true := by simp; omega
    have e2 : decide ((0 : Int) ≤ (i : Int)) = true := by simp
    have ez : isRow z64 [.i .i64 c1, .i .i64 c2, .i .i64 c3, .i .i64 c4, .i .i64 c5, .s c6, .l c7, .i .i64 c8, .i .i64 c9] = true := rfl
    have ew : okR zr120 zo120 (some ([.one (.b true)], [])) = true := rfl
    simp only [l83o1, e1, e2, Int.toNat_natCast, er, ez, nthD, asI, asS, asB, asL, eqInode_self c1 c2 c3 c4 c5 c6 c7 c8 c9 hso.2.2.2.2.2.2.1.1 tc7, resC, nthR, cellsDV, ew, Bool.and_true, chk_true, if_true, Bool.not_true, Bool.false_eq_true, if_false]
    rw [w64_succ i (by omega)]
    exact ih (i + 1) m _ _ (by omega) (by omega)
theorem eqInodeS_self (l : List (List D)) (hl : l.length ≤ 1048576) (h : ∀ r ∈ l, typL shInode r) (hs : ∀ r ∈ l, szdL shInode r) : t83 l l = some ([.one (.b true)], []) := by
  have := eqInodeS_loop false false (fun _ _ _ => some ([.one (.b false)], [])) (fun _ _ _ => some ([.one (.b true)], [])) (fun _ _ _ => rfl) l h hs (by omega) l.length 0 KK .undef .undef (by omega) (by rw [KK_eq]; omega)
  simpa [t83] using this
abbrev shVol : List Sh := [.i .i64, .l [.i .i64, .i .i64, .i .i64, .i .i64, .i .i64, .s, .l [.s, .i .i64], .i .i64, .i .i64]]
theorem Vol_row {r : List D} (h : typL shVol r) : ∃ x1 x2, r = [.i .i64 x1, .l x2] ∧ x2.length ≤ maxLen ∧ (∀ r ∈ x2, typL shInode r) := by
  obtain ⟨_, _, rfl, ⟨x1, rfl, _⟩, ⟨_, _, rfl, ⟨x2, rfl, wx2, tx2⟩, rfl⟩⟩ := h
  exact ⟨x1, x2, rfl, wx2, tx2⟩
theorem eqVol_self (x1 : Int) (x2 : List (List D)) (wx2 : x2.length ≤ 1048576) (tx2 : ∀ r ∈ x2, typL shInode r) (sx2 : ∀ r ∈ x2, szdL shInode r) : t42 x1 x2 x1 x2 = some ([.one (.b true)], []) := by
  simp only [t42, bne_self_eq_false, Bool.not_true, Bool.false_eq_true, if_false, eqInodeS_self x2 wx2 tx2 sx2, zr83, zo83, okR, isVs, isV, isD, isDs, isOs, resC, outC, nthR, nthO, cellsDV, nthD, asB, asI, asS, asL, Bool.and_true, Bool.true_and, BEq.rfl, chk_true, decide_true]
abbrev shInt : List Sh := [.i .i64]
theorem Int_row {r : List D} (h : typL shInt r) : ∃ x1, r = [.i .i64 x1] := by
  obtain ⟨_, _, rfl, ⟨x1, rfl, _⟩, rfl⟩ := h
  exact ⟨x1, rfl⟩
abbrev shCred : List Sh := [.i .i64, .i .i64, .l [.i .i64]]
theorem Cred_row {r : List D} (h : typL shCred r) : ∃ x1 x2 x3, r = [.i .i64 x1, .i .i64 x2, .l x3] ∧ x3.length ≤ maxLen ∧ (∀ r ∈ x3, typL shInt r) := by
  obtain ⟨_, _, rfl, ⟨x1, rfl, _⟩, ⟨_, _, rfl, ⟨x2, rfl, _⟩, ⟨_, _, rfl, ⟨x3, rfl, wx3, tx3⟩, rfl⟩⟩⟩ := h
  exact ⟨x1, x2, x3, rfl, wx3, tx3⟩
abbrev shCall : List Sh := [.i .i64, .s, .s, .i .i64, .i .i64, .s]
theorem Call_row {r : List D} (h : typL shCall r) : ∃ x1 x2 x3 x4 x5 x6, r = [.i .i64 x1, .s x2, .s x3, .i .i64 x4, .i .i64 x5, .s x6] ∧ x2.size ≤ maxLen ∧ x3.size ≤ maxLen ∧ x6.size ≤ maxLen := by
  obtain ⟨_, _, rfl, ⟨x1, rfl, _⟩, ⟨_, _, rfl, ⟨x2, rfl, wx2⟩, ⟨_, _, rfl, ⟨x3, rfl, wx3⟩, ⟨_, _, rfl, ⟨x4, rfl, _⟩, ⟨_, _, rfl, ⟨x5, rfl, _⟩, ⟨_, _, rfl, ⟨x6, rfl, wx6⟩, rfl⟩⟩⟩⟩⟩⟩ := h
  exact ⟨x1, x2, x3, x4, x5, x6, rfl, wx2, wx3, wx6⟩
abbrev shResult : List Sh := [.i .i64, .s]
theorem Result_row {r : List D} (h : typL shResult r) : ∃ x1 x2, r = [.i .i64 x1, .s x2] ∧ x2.size ≤ maxLen := by
  obtain ⟨_, _, rfl, ⟨x1, rfl, _⟩, ⟨_, _, rfl, ⟨x2, rfl, wx2⟩, rfl⟩⟩ := h
  exact ⟨x1, x2, rfl, wx2⟩
theorem eqResult_self (x1 : Int) (x2 : ByteArray)  : t121 x1 x2 x1 x2 = some ([.one (.b true)], []) := by
  simp only [t121, bne_self_eq_false, Bool.not_true, Bool.false_eq_true, if_false, okR, isVs, isV, isD, isDs, isOs, resC, outC, nthR, nthO, cellsDV, nthD, asB, asI, asS, asL, Bool.and_true, Bool.true_and, BEq.rfl, chk_true, decide_true]
abbrev shNote : List Sh := [.i .i64, .i .i64, .i .i64, .i .i64, .i .i64]
theorem Note_row {r : List D} (h : typL shNote r) : ∃ x1 x2 x3 x4 x5, r = [.i .i64 x1, .i .i64 x2, .i .i64 x3, .i .i64 x4, .i .i64 x5] := by
  obtain ⟨_, _, rfl, ⟨x1, rfl, _⟩, ⟨_, _, rfl, ⟨x2, rfl, _⟩, ⟨_, _, rfl, ⟨x3, rfl, _⟩, ⟨_, _, rfl, ⟨x4, rfl, _⟩, ⟨_, _, rfl, ⟨x5, rfl, _⟩, rfl⟩⟩⟩⟩⟩ := h
  exact ⟨x1, x2, x3, x4, x5, rfl⟩
theorem eqNote_self (x1 : Int) (x2 : Int) (x3 : Int) (x4 : Int) (x5 : Int)  : t84 x1 x2 x3 x4 x5 x1 x2 x3 x4 x5 = some ([.one (.b true)], []) := by
  simp only [t84, bne_self_eq_false, Bool.not_true, Bool.false_eq_true, if_false, okR, isVs, isV, isD, isDs, isOs, resC, outC, nthR, nthO, cellsDV, nthD, asB, asI, asS, asL, Bool.and_true, Bool.true_and, BEq.rfl, chk_true, decide_true]
theorem eqNoteS_loop (b0 b1 : Bool) (q1 : Int → Bool → Bool → Rs) (q2 : Int → Bool → SV → Rs) (h2 : ∀ a b c, q2 a b c = some ([.one (.b true)], [])) (l : List (List D)) (h : ∀ r ∈ l, typL shNote r) (hl : l.length < 4611686018427387904) : ∀ (k i m : Nat) (v w : SV), i + k = l.length → k < m →
    l43o1 l l b0 b1 q1 q2 m i v w = some ([.one (.b true)], []) := by
  intro k
  induction k with
  | zero =>
    intro i m v w e hm
    obtain ⟨m, rfl⟩ : ∃ m', m = m' + 1 := ⟨m - 1, by omega⟩
    have ei : decide ((i : Int) < (l.length : Int)) = false := by simp; omega
    simp only [l43o1, ei, h2]
    simp
  | succ k ih =>
    intro i m v w e hm
    obtain ⟨m, rfl⟩ : ∃ m', m = m' + 1 := ⟨m - 1, by omega⟩
    have hr := getD_row h (i := i) (by omega)
    obtain ⟨c1, c2, c3, c4, c5, er⟩ := Note_row hr
    have e1 : decide ((i : Int) < (l.length : Int)) = true := by simp; omega
    have e2 : decide ((0 : Int) ≤ (i : Int)) = true := by simp
    have ez : isRow z90 [.i .i64 c1, .i .i64 c2, .i .i64 c3, .i .i64 c4, .i .i64 c5] = true := rfl
    have ew : okR zr84 zo84 (some ([.one (.b true)], [])) = true := rfl
    simp only [l43o1, e1, e2, Int.toNat_natCast, er, ez, nthD, asI, asS, asB, asL, eqNote_self c1 c2 c3 c4 c5, resC, nthR, cellsDV, ew, Bool.and_true, chk_true, if_true, Bool.not_true, Bool.false_eq_true, if_false]
    rw [w64_succ i (by omega)]
    exact ih (i + 1) m _ _ (by omega) (by omega)
theorem eqNoteS_self (l : List (List D)) (hl : l.length ≤ 1048576) (h : ∀ r ∈ l, typL shNote r) : t43 l l = some ([.one (.b true)], []) := by
  have := eqNoteS_loop false false (fun _ _ _ => some ([.one (.b false)], [])) (fun _ _ _ => some ([.one (.b true)], [])) (fun _ _ _ => rfl) l h (by omega) l.length 0 KK .undef .undef (by omega) (by rw [KK_eq]; omega)
  simpa [t43] using this
abbrev shSession : List Sh := [.i .i64, .i .i64, .i .i64, .i .i64, .s]
theorem Session_row {r : List D} (h : typL shSession r) : ∃ x1 x2 x3 x4 x5, r = [.i .i64 x1, .i .i64 x2, .i .i64 x3, .i .i64 x4, .s x5] ∧ x5.size ≤ maxLen := by
  obtain ⟨_, _, rfl, ⟨x1, rfl, _⟩, ⟨_, _, rfl, ⟨x2, rfl, _⟩, ⟨_, _, rfl, ⟨x3, rfl, _⟩, ⟨_, _, rfl, ⟨x4, rfl, _⟩, ⟨_, _, rfl, ⟨x5, rfl, wx5⟩, rfl⟩⟩⟩⟩⟩ := h
  exact ⟨x1, x2, x3, x4, x5, rfl, wx5⟩
theorem eqSession_self (x1 : Int) (x2 : Int) (x3 : Int) (x4 : Int) (x5 : ByteArray)  : t85 x1 x2 x3 x4 x5 x1 x2 x3 x4 x5 = some ([.one (.b true)], []) := by
  simp only [t85, bne_self_eq_false, Bool.not_true, Bool.false_eq_true, if_false, eqResult_self x4 x5 , zr121, zo121, okR, isVs, isV, isD, isDs, isOs, resC, outC, nthR, nthO, cellsDV, nthD, asB, asI, asS, asL, Bool.and_true, Bool.true_and, BEq.rfl, chk_true, decide_true]
theorem eqSessionS_loop (b0 b1 : Bool) (q1 : Int → Bool → Bool → Rs) (q2 : Int → Bool → SV → Rs) (h2 : ∀ a b c, q2 a b c = some ([.one (.b true)], [])) (l : List (List D)) (h : ∀ r ∈ l, typL shSession r) (hl : l.length < 4611686018427387904) : ∀ (k i m : Nat) (v w : SV), i + k = l.length → k < m →
    l44o1 l l b0 b1 q1 q2 m i v w = some ([.one (.b true)], []) := by
  intro k
  induction k with
  | zero =>
    intro i m v w e hm
    obtain ⟨m, rfl⟩ : ∃ m', m = m' + 1 := ⟨m - 1, by omega⟩
    have ei : decide ((i : Int) < (l.length : Int)) = false := by simp; omega
    simp only [l44o1, ei, h2]
    simp
  | succ k ih =>
    intro i m v w e hm
    obtain ⟨m, rfl⟩ : ∃ m', m = m' + 1 := ⟨m - 1, by omega⟩
    have hr := getD_row h (i := i) (by omega)
    obtain ⟨c1, c2, c3, c4, c5, er, wc5⟩ := Session_row hr
    have e1 : decide ((i : Int) < (l.length : Int)) = true := by simp; omega
    have e2 : decide ((0 : Int) ≤ (i : Int)) = true := by simp
    have ez : isRow z81 [.i .i64 c1, .i .i64 c2, .i .i64 c3, .i .i64 c4, .s c5] = true := rfl
    have ew : okR zr85 zo85 (some ([.one (.b true)], [])) = true := rfl
    simp only [l44o1, e1, e2, Int.toNat_natCast, er, ez, nthD, asI, asS, asB, asL, eqSession_self c1 c2 c3 c4 c5, resC, nthR, cellsDV, ew, Bool.and_true, chk_true, if_true, Bool.not_true, Bool.false_eq_true, if_false]
    rw [w64_succ i (by omega)]
    exact ih (i + 1) m _ _ (by omega) (by omega)
theorem eqSessionS_self (l : List (List D)) (hl : l.length ≤ 1048576) (h : ∀ r ∈ l, typL shSession r) : t44 l l = some ([.one (.b true)], []) := by
  have := eqSessionS_loop false false (fun _ _ _ => some ([.one (.b false)], [])) (fun _ _ _ => some ([.one (.b true)], [])) (fun _ _ _ => rfl) l h (by omega) l.length 0 KK .undef .undef (by omega) (by rw [KK_eq]; omega)
  simpa [t44] using this
abbrev shTenant : List Sh := [.i .i64, .l [.i .i64, .i .i64, .i .i64, .i .i64, .i .i64, .s, .l [.s, .i .i64], .i .i64, .i .i64], .i .i64, .l [.i .i64, .i .i64, .i .i64, .i .i64, .i .i64], .l [.i .i64, .i .i64, .i .i64, .i .i64, .s]]
theorem Tenant_row {r : List D} (h : typL shTenant r) : ∃ x1 x2 x3 x4 x5, r = [.i .i64 x1, .l x2, .i .i64 x3, .l x4, .l x5] ∧ x2.length ≤ maxLen ∧ (∀ r ∈ x2, typL shInode r) ∧ x4.length ≤ maxLen ∧ (∀ r ∈ x4, typL shNote r) ∧ x5.length ≤ maxLen ∧ (∀ r ∈ x5, typL shSession r) := by
  obtain ⟨_, _, rfl, ⟨x1, rfl, _⟩, ⟨_, _, rfl, ⟨x2, rfl, wx2, tx2⟩, ⟨_, _, rfl, ⟨x3, rfl, _⟩, ⟨_, _, rfl, ⟨x4, rfl, wx4, tx4⟩, ⟨_, _, rfl, ⟨x5, rfl, wx5, tx5⟩, rfl⟩⟩⟩⟩⟩ := h
  exact ⟨x1, x2, x3, x4, x5, rfl, wx2, tx2, wx4, tx4, wx5, tx5⟩
theorem eqTenant_self (x1 : Int) (x2 : List (List D)) (x3 : Int) (x4 : List (List D)) (x5 : List (List D)) (wx2 : x2.length ≤ 1048576) (tx2 : ∀ r ∈ x2, typL shInode r) (sx2 : ∀ r ∈ x2, szdL shInode r) (wx4 : x4.length ≤ 1048576) (tx4 : ∀ r ∈ x4, typL shNote r) (wx5 : x5.length ≤ 1048576) (tx5 : ∀ r ∈ x5, typL shSession r) : t14 x1 x2 x3 x4 x5 x1 x2 x3 x4 x5 = some ([.one (.b true)], []) := by
  simp only [t14, bne_self_eq_false, Bool.not_true, Bool.false_eq_true, if_false, eqVol_self x1 x2 wx2 tx2 sx2, eqNoteS_self x4 wx4 tx4, eqSessionS_self x5 wx5 tx5, zr42, zo42, zr43, zo43, zr44, zo44, okR, isVs, isV, isD, isDs, isOs, resC, outC, nthR, nthO, cellsDV, nthD, asB, asI, asS, asL, Bool.and_true, Bool.true_and, BEq.rfl, chk_true, decide_true]
theorem eqTenantS_loop (b0 b1 : Bool) (q1 : Int → Bool → Bool → Rs) (q2 : Int → Bool → SV → Rs) (h2 : ∀ a b c, q2 a b c = some ([.one (.b true)], [])) (l : List (List D)) (h : ∀ r ∈ l, typL shTenant r) (hs : ∀ r ∈ l, szdL shTenant r) (hl : l.length < 4611686018427387904) : ∀ (k i m : Nat) (v w : SV), i + k = l.length → k < m →
    l19o1 l l b0 b1 q1 q2 m i v w = some ([.one (.b true)], []) := by
  intro k
  induction k with
  | zero =>
    intro i m v w e hm
    obtain ⟨m, rfl⟩ : ∃ m', m = m' + 1 := ⟨m - 1, by omega⟩
    have ei : decide ((i : Int) < (l.length : Int)) = false := by simp; omega
    simp only [l19o1, ei, h2]
    simp
  | succ k ih =>
    intro i m v w e hm
    obtain ⟨m, rfl⟩ : ∃ m', m = m' + 1 := ⟨m - 1, by omega⟩
    have hr := getD_row h (i := i) (by omega)
    obtain ⟨c1, c2, c3, c4, c5, er, wc2, tc2, wc4, tc4, wc5, tc5⟩ := Tenant_row hr
    have hso := hs _ (mem_getD (l := l) (i := i) (by omega))
    rw [er] at hso
    have e1 : decide ((i : Int) < (l.length : Int)) = true := by simp; omega
    have e2 : decide ((0 : Int) ≤ (i : Int)) = true := by simp
    have ez : isRow z28 [.i .i64 c1, .l c2, .i .i64 c3, .l c4, .l c5] = true := rfl
    have ew : okR zr14 zo14 (some ([.one (.b true)], [])) = true := rfl
    simp only [l19o1, e1, e2, Int.toNat_natCast, er, ez, nthD, asI, asS, asB, asL, eqTenant_self c1 c2 c3 c4 c5 hso.2.1.1 tc2 hso.2.1.2 hso.2.2.2.1.1 tc4 hso.2.2.2.2.1.1 tc5, resC, nthR, cellsDV, ew, Bool.and_true, chk_true, if_true, Bool.not_true, Bool.false_eq_true, if_false]
    rw [w64_succ i (by omega)]
    exact ih (i + 1) m _ _ (by omega) (by omega)
theorem eqTenantS_self (l : List (List D)) (hl : l.length ≤ 1048576) (h : ∀ r ∈ l, typL shTenant r) (hs : ∀ r ∈ l, szdL shTenant r) : t19 l l = some ([.one (.b true)], []) := by
  have := eqTenantS_loop false false (fun _ _ _ => some ([.one (.b false)], [])) (fun _ _ _ => some ([.one (.b true)], [])) (fun _ _ _ => rfl) l h hs (by omega) l.length 0 KK .undef .undef (by omega) (by rw [KK_eq]; omega)
  simpa [t19] using this
abbrev shSlot : List Sh := [.i .i64, .i .i64, .i .i64, .i .i64, .s, .s, .i .i64, .i .i64, .s]
theorem Slot_row {r : List D} (h : typL shSlot r) : ∃ x1 x2 x3 x4 x5 x6 x7 x8 x9, r = [.i .i64 x1, .i .i64 x2, .i .i64 x3, .i .i64 x4, .s x5, .s x6, .i .i64 x7, .i .i64 x8, .s x9] ∧ x5.size ≤ maxLen ∧ x6.size ≤ maxLen ∧ x9.size ≤ maxLen := by
  obtain ⟨_, _, rfl, ⟨x1, rfl, _⟩, ⟨_, _, rfl, ⟨x2, rfl, _⟩, ⟨_, _, rfl, ⟨x3, rfl, _⟩, ⟨_, _, rfl, ⟨x4, rfl, _⟩, ⟨_, _, rfl, ⟨x5, rfl, wx5⟩, ⟨_, _, rfl, ⟨x6, rfl, wx6⟩, ⟨_, _, rfl, ⟨x7, rfl, _⟩, ⟨_, _, rfl, ⟨x8, rfl, _⟩, ⟨_, _, rfl, ⟨x9, rfl, wx9⟩, rfl⟩⟩⟩⟩⟩⟩⟩⟩⟩ := h
  exact ⟨x1, x2, x3, x4, x5, x6, x7, x8, x9, rfl, wx5, wx6, wx9⟩
abbrev shMsg : List Sh := [.i .i64, .i .i64, .i .i64, .i .i64, .i .i64, .i .i64, .i .i64, .b, .l [.i .i64, .s], .s]
theorem Msg_row {r : List D} (h : typL shMsg r) : ∃ x1 x2 x3 x4 x5 x6 x7 x8 x9 x10, r = [.i .i64 x1, .i .i64 x2, .i .i64 x3, .i .i64 x4, .i .i64 x5, .i .i64 x6, .i .i64 x7, .b x8, .l x9, .s x10] ∧ x9.length ≤ maxLen ∧ (∀ r ∈ x9, typL shEntry r) ∧ x10.size ≤ maxLen := by
  obtain ⟨_, _, rfl, ⟨x1, rfl, _⟩, ⟨_, _, rfl, ⟨x2, rfl, _⟩, ⟨_, _, rfl, ⟨x3, rfl, _⟩, ⟨_, _, rfl, ⟨x4, rfl, _⟩, ⟨_, _, rfl, ⟨x5, rfl, _⟩, ⟨_, _, rfl, ⟨x6, rfl, _⟩, ⟨_, _, rfl, ⟨x7, rfl, _⟩, ⟨_, _, rfl, ⟨x8, rfl⟩, ⟨_, _, rfl, ⟨x9, rfl, wx9, tx9⟩, ⟨_, _, rfl, ⟨x10, rfl, wx10⟩, rfl⟩⟩⟩⟩⟩⟩⟩⟩⟩⟩ := h
  exact ⟨x1, x2, x3, x4, x5, x6, x7, x8, x9, x10, rfl, wx9, tx9, wx10⟩
abbrev shCore : List Sh := [.i .i64, .i .i64, .i .i64, .i .i64, .i .i64, .i .i64, .i .i64, .i .i64, .l [.i .i64, .s], .i .i64, .l [.i .i64], .l [.i .i64], .l [.i .i64]]
theorem Core_row {r : List D} (h : typL shCore r) : ∃ x1 x2 x3 x4 x5 x6 x7 x8 x9 x10 x11 x12 x13, r = [.i .i64 x1, .i .i64 x2, .i .i64 x3, .i .i64 x4, .i .i64 x5, .i .i64 x6, .i .i64 x7, .i .i64 x8, .l x9, .i .i64 x10, .l x11, .l x12, .l x13] ∧ x9.length ≤ maxLen ∧ (∀ r ∈ x9, typL shEntry r) ∧ x11.length ≤ maxLen ∧ (∀ r ∈ x11, typL shInt r) ∧ x12.length ≤ maxLen ∧ (∀ r ∈ x12, typL shInt r) ∧ x13.length ≤ maxLen ∧ (∀ r ∈ x13, typL shInt r) := by
  obtain ⟨_, _, rfl, ⟨x1, rfl, _⟩, ⟨_, _, rfl, ⟨x2, rfl, _⟩, ⟨_, _, rfl, ⟨x3, rfl, _⟩, ⟨_, _, rfl, ⟨x4, rfl, _⟩, ⟨_, _, rfl, ⟨x5, rfl, _⟩, ⟨_, _, rfl, ⟨x6, rfl, _⟩, ⟨_, _, rfl, ⟨x7, rfl, _⟩, ⟨_, _, rfl, ⟨x8, rfl, _⟩, ⟨_, _, rfl, ⟨x9, rfl, wx9, tx9⟩, ⟨_, _, rfl, ⟨x10, rfl, _⟩, ⟨_, _, rfl, ⟨x11, rfl, wx11, tx11⟩, ⟨_, _, rfl, ⟨x12, rfl, wx12, tx12⟩, ⟨_, _, rfl, ⟨x13, rfl, wx13, tx13⟩, rfl⟩⟩⟩⟩⟩⟩⟩⟩⟩⟩⟩⟩⟩ := h
  exact ⟨x1, x2, x3, x4, x5, x6, x7, x8, x9, x10, x11, x12, x13, rfl, wx9, tx9, wx11, tx11, wx12, tx12, wx13, tx13⟩
end Go.Den.L4

/- Marks. -/
namespace Go.Den.L4
open Go
theorem markText_loop (s7 : ByteArray) (b9 : Bool) (q1 : Int → ByteArray → Bool → Rs) (h1 : ∀ n (s : ByteArray) b, s.size ≤ 1000 → ∃ x, q1 n s b = some ([.one (.s x)], [])) : ∀ (k m : Nat) (n : Int) (s : ByteArray) (v : SV), 0 ≤ n → n < 10 ^ k → n < 4611686018427387904 → k < m → s.size + k ≤ 1000 →
    ∃ x, l86o1 s7 b9 q1 m n s v = some ([.one (.s x)], []) := by
  intro k
  induction k with
  | zero =>
    intro m n s v h0 hn h2 hm hs
    obtain ⟨m, rfl⟩ : ∃ m', m = m' + 1 := ⟨m - 1, by omega⟩
    have e : decide (n > 0) = false := by simp; omega
    simp only [l86o1, e, Bool.false_eq_true, if_false]
    exact h1 _ _ _ (by omega)
  | succ k ih =>
    intro m n s v h0 hn h2 hm hs
    obtain ⟨m, rfl⟩ : ∃ m', m = m' + 1 := ⟨m - 1, by omega⟩
    by_cases e : n > 0
    · have e' : decide (n > 0) = true := decide_eq_true e
      have hb : ∀ x : Int, isBytes [[D.i .u8 x]] = true := fun _ => rfl
      have hz : ∀ x : Int, (⟨(bytesD [[D.i .u8 x]]).toArray⟩ : ByteArray).size = 1 := fun _ => rfl
      simp only [l86o1, e', if_true, hb, chk_true, hz]
      rw [chk_ok (decide_eq_true (by unfold lim; omega)), Int.tdiv_eq_ediv_of_nonneg h0, w64_in (n / 10) (by omega)]
      refine ih m (n / 10) _ _ (by omega) ?_ (by omega) (by omega) (by rw [ByteArray.size_append, hz]; omega)
      rw [Int.ediv_lt_iff_lt_mul (by omega)]
      rw [Int.pow_succ] at hn
      exact hn
    · have e' : decide (n > 0) = false := decide_eq_false e
      simp only [l86o1, e', Bool.false_eq_true, if_false]
      exact h1 _ _ _ (by omega)
noncomputable def mkT (k : Int) : ByteArray := asS (resC (t86 k) 0 0)
theorem markText_eq (k : Int) (h : k < 4611686018427387904) : t86 k = some ([.one (.s (mkT k))], []) := by
  have : ∃ x, t86 k = some ([.one (.s x)], []) := by
    unfold t86
    by_cases e : k ≤ 0
    · have e' : decide (k ≤ 0) = true := decide_eq_true e
      simp only [e', if_true]; exact ⟨_, rfl⟩
    · have e' : decide (k ≤ 0) = false := decide_eq_false e
      simp only [e', Bool.false_eq_true, if_false]
      refine markText_loop _ _ _ ?_ 20 KK k _ _ (by omega) (by omega) h (by rw [KK_eq]; omega) (by show 0 + 20 ≤ 1000; omega)
      intro n s b hs
      have e0 : (⟨#[109]⟩ : ByteArray).size = 1 := rfl
      simp only [e0]
      rw [chk_ok (decide_eq_true (by unfold lim; omega))]
      exact ⟨_, rfl⟩
  obtain ⟨x, hx⟩ := this
  have : mkT k = x := by unfold mkT; rw [hx]; rfl
  rw [this, hx]
theorem markText_w {x : ByteArray} : okR zr86 zo86 (some ([.one (.s x)], [])) = true := rfl
theorem markText_r {x : ByteArray} : asS (resC (some ([.one (.s x)], [])) 0 0) = x := rfl
theorem stR_mid (a b : List (List D)) (r ys : List D) (i off : Nat) (h : i = a.length) : stR (a ++ r :: b) i off ys = a ++ (r.take off ++ ys ++ r.drop (off + ys.length)) :: b := by
  subst h; unfold stR; exact modify_mid _ a r b
theorem getD_mid (a b : List (List D)) (r : List D) (i : Nat) (h : i = a.length) : (a ++ r :: b).getD i [] = r := by
  subst h; simp [List.getD]
theorem typL_len : ∀ (es : List Sh) (r : List D), typL es r → r.length = es.length
  | [], r, h => by rw [show r = [] from h]; rfl
  | e :: es, r, h => by
    obtain ⟨d, r', rfl, _, h⟩ := h
    simp only [List.length_cons, typL_len es r' h]
theorem fst_ok {n : Nat} {xs : List (List D)} (h : ∀ r ∈ xs, r.length = n) : fstSz n xs = true := by
  unfold fstSz
  cases xs with
  | nil => simp
  | cons r b => simpa using h r (by simp)
theorem snoc_app (a b : List (List D)) (r : List D) : a ++ r :: b = (a ++ [r]) ++ b := by simp
end Go.Den.L4

/- Marks laid and held. Printed by mark.py. -/
namespace Go.Den.L4
open Go
theorem st2_0 (a b : List (List D)) (i : Nat) (h : i = a.length) (c1 c2 d : D) : stR (a ++ [c1, c2] :: b) i 0 [d] = a ++ [d, c2] :: b := stR_mid a b _ _ i 0 h
theorem st2_1 (a b : List (List D)) (i : Nat) (h : i = a.length) (c1 c2 d : D) : stR (a ++ [c1, c2] :: b) i 1 [d] = a ++ [c1, d] :: b := stR_mid a b _ _ i 1 h
theorem len2 {r : List D} (h : r.length = 2) : ∃ c1 c2, r = [c1, c2] := by
  match r, h with
  | [c1, c2], _ => exact ⟨c1, c2, rfl⟩
noncomputable def rowMDirentS (k : Int) : List D := [.s (mkT (k)), .i .i64 (k + 1)]
noncomputable def markedDirentS : Int → List (List D) → List (List D)
  | _, [] => []
  | k, _ :: b => rowMDirentS k :: markedDirentS (k + 1 + 1) b
theorem markedDirentS_len : ∀ (b : List (List D)) (k : Int), (markedDirentS k b).length = b.length
  | [], _ => rfl
  | _ :: b, k => by simp only [markedDirentS, List.length_cons, markedDirentS_len b]
theorem markDirentS_loop (n8 : Int) (q : Int → Int → Bool → List (List D) → Rs) (hq : ∀ a b c d, q a b c d = some ([.one (.i .i64 a)], [[.l d]])) : ∀ (b a : List (List D)) (m : Nat) (k : Int) (v10 : SV), (∀ r ∈ b, r.length = 2) → b.length < m → a.length + b.length ≤ 4000000 → 0 ≤ k → k + 2 * (b.length : Int) ≤ 4000000000000000000 →
    l87o0 n8 q m k (a.length : Int) v10 (a ++ b) = some ([.one (.i .i64 (k + 2 * (b.length : Int)))], [[.l (a ++ markedDirentS k b)]]) := by
  intro b
  induction b with
  | nil =>
    intro a m k v10 h hm hl h0 hk
    obtain ⟨m, rfl⟩ : ∃ m', m = m' + 1 := ⟨m - 1, by omega⟩
    have e : decide ((a.length : Int) < ((a ++ ([] : List (List D))).length : Int)) = false := by simp
    have e2 : k + 2 * ((([] : List (List D)).length : Nat) : Int) = k := by simp
    simp only [l87o0, e, Bool.false_eq_true, if_false, hq, e2, markedDirentS]
  | cons r b ih =>
    intro a m k v10 h hm hl h0 hk
    obtain ⟨m, rfl⟩ : ∃ m', m = m' + 1 := ⟨m - 1, by omega⟩
    simp only [List.length_cons] at hm hl hk
    obtain ⟨c1, c2, rfl⟩ := len2 (h r (List.mem_cons_self ..))
    have hb : ∀ r ∈ b, r.length = 2 := fun r hr => h r (List.mem_cons_of_mem _ hr)
    have e1 : ∀ r : List D, decide ((a.length : Int) < ((a ++ r :: b).length : Int)) = true := fun r => decide_eq_true (by simp; omega)
    have e0 : decide (0 ≤ (a.length : Int)) = true := decide_eq_true (by omega)
    have p1 : ∀ r : List D, decide (1 ≤ 2 ∧ a.length < (a ++ r :: b).length) = true := fun r => decide_eq_true (by simp)
    have p2 : ∀ r : List D, decide (2 ≤ 2 ∧ a.length < (a ++ r :: b).length) = true := fun r => decide_eq_true (by simp)
    have u1 : w64 (k + 1) = k + 1 := w64_in _ (by omega)
    have u2 : w64 (k + 1 + 1) = k + 1 + 1 := w64_in _ (by omega)
    have t0 := markText_eq (k) (by omega)
    have hw := w64_succ a.length (by omega)
    simp only [l87o0, e1, e0, if_true, Int.toNat_natCast, p1, p2, u1, u2, t0, markText_w, markText_r, st2_0 a b _ rfl, st2_1 a b _ rfl, Bool.and_true, chk_true, hw]
    have := fun (z0 : SV) => ih (a ++ [rowMDirentS k]) m (k + 1 + 1) z0 hb (by omega) (by simp; omega) (by omega) (by omega)
    have e3 : (a ++ [rowMDirentS k]).length = a.length + 1 := by simp
    simp only [e3, List.append_assoc] at this
    have e4 : k + 2 * ((([c1, c2] :: b).length : Nat) : Int) = k + 1 + 1 + 2 * (b.length : Int) := by simp only [List.length_cons]; omega
    have e5 : a ++ markedDirentS k ([c1, c2] :: b) = (a ++ [rowMDirentS k]) ++ markedDirentS (k + 1 + 1) b := by simp [markedDirentS]
    rw [e4, e5, List.append_assoc]
    exact this _
theorem markDirentS_eq (l : List (List D)) (h : ∀ r ∈ l, r.length = 2) (hl : l.length ≤ 4000000) (k : Int) (h0 : 0 ≤ k) (hk : k + 2 * (l.length : Int) ≤ 4000000000000000000) : t87 l k = some ([.one (.i .i64 (k + 2 * (l.length : Int)))], [[.l (markedDirentS k l)]]) := by
  unfold t87
  exact markDirentS_loop _ _ (fun _ _ _ _ => rfl) l [] KK k _ h (by rw [KK_eq]; omega) (by simpa using hl) h0 hk
theorem heldDirentS_loop (n9 : Int) (q1 : Int → Int → Bool → Bool → SV → Rs) (q2 : Int → Int → Bool → Bool → Bool → Rs) (q3 : Int → Int → Bool → SV → SV → Rs) (hq : ∀ x0 x1 x2 x3 x4, q3 x0 x1 x2 x3 x4 = some ([.one (.i .i64 x0)], [])) : ∀ (b a : List (List D)) (m : Nat) (k : Int) (v11 v12 v13 : SV) (L : List (List D)) (i : Int), L = a ++ markedDirentS k b → i = (a.length : Int) → b.length < m → a.length + b.length ≤ 4000000 → 0 ≤ k → k + 2 * (b.length : Int) ≤ 4000000000000000000 →
    l88o0 L n9 q1 q2 q3 m k i v11 v12 v13 = some ([.one (.i .i64 (k + 2 * (b.length : Int)))], []) := by
  intro b
  induction b with
  | nil =>
    intro a m k v11 v12 v13 L i hL hi hm hl h0 hk
    subst hL hi
    obtain ⟨m, rfl⟩ : ∃ m', m = m' + 1 := ⟨m - 1, by omega⟩
    have e : decide ((a.length : Int) < ((a ++ ([] : List (List D))).length : Int)) = false := by simp
    have e2 : k + 2 * ((([] : List (List D)).length : Nat) : Int) = k := by simp
    rw [show markedDirentS k [] = [] from rfl]
    simp only [l88o0, e, Bool.false_eq_true, if_false, hq, e2]
  | cons r b ih =>
    intro a m k v11 v12 v13 L i hL hi hm hl h0 hk
    subst hL hi
    obtain ⟨m, rfl⟩ : ∃ m', m = m' + 1 := ⟨m - 1, by omega⟩
    simp only [List.length_cons] at hm hl hk
    have e1 : ∀ (r : List D) (b : List (List D)), decide ((a.length : Int) < ((a ++ r :: b).length : Int)) = true := fun r b => decide_eq_true (by simp; omega)
    have e0 : decide (0 ≤ (a.length : Int)) = true := decide_eq_true (by omega)
    have eg : ∀ (r : List D) (b : List (List D)), (a ++ r :: b).getD a.length [] = r := fun r b => getD_mid a b r _ rfl
    have u1 : w64 (k + 1) = k + 1 := w64_in _ (by omega)
    have u2 : w64 (k + 1 + 1) = k + 1 + 1 := w64_in _ (by omega)
    have t0 := markText_eq (k) (by omega)
    have hw := w64_succ a.length (by omega)
    have this := fun (z0 : SV) (z1 : SV) (z2 : SV) => ih (a ++ [rowMDirentS k]) m (k + 1 + 1) z0 z1 z2 _ _ rfl rfl (by omega) (by simp; omega) (by omega) (by omega)
    have e3 : (a ++ [rowMDirentS k]).length = a.length + 1 := by simp
    simp only [e3, List.append_assoc] at this
    have e4 : k + 2 * (((r :: b).length : Nat) : Int) = k + 1 + 1 + 2 * (b.length : Int) := by simp only [List.length_cons]; omega
    have e5 : a ++ markedDirentS k (r :: b) = a ++ rowMDirentS k :: markedDirentS (k + 1 + 1) b := rfl
    rw [e5]
    have ez : isRow z129 (rowMDirentS k) = true := rfl
    have d0 : asS (nthD (rowMDirentS k) 0) = mkT (k) := rfl
    have d1 : asI (nthD (rowMDirentS k) 1) = k + 1 := rfl
    simp only [l88o0, e1, e0, if_true, Int.toNat_natCast, eg, ez, d0, d1, u1, u2, t0, markText_w, markText_r, bne_self_eq_false, beq_self_eq_true, Bool.not_true, Bool.false_eq_true, if_false, Bool.and_true, chk_true, hw]
    rw [e4]
    exact this _ _ _
theorem heldDirentS_eq (l : List (List D)) (hl : l.length ≤ 4000000) (k : Int) (h0 : 0 ≤ k) (hk : k + 2 * (l.length : Int) ≤ 4000000000000000000) : t88 (markedDirentS k l) k = some ([.one (.i .i64 (k + 2 * (l.length : Int)))], []) := by
  unfold t88
  exact heldDirentS_loop _ _ _ _ (fun _ _ _ _ _ => rfl) l [] KK k _ _ _ _ _ rfl rfl (by rw [KK_eq]; omega) (by simpa using hl) h0 hk
noncomputable def rowMInodeS (k : Int) (r : List D) : List D := [.i .i64 (k), .i .i64 (k + 1), .i .i64 (k + 1 + 1), .i .i64 (k + 1 + 1 + 1), .i .i64 (k + 1 + 1 + 1 + 1), .s (mkT (k + 1 + 1 + 1 + 1 + 1)), .l (markedDirentS (k + 1 + 1 + 1 + 1 + 1 + 1) (asL (nthD r 6))), .i .i64 (k + 1 + 1 + 1 + 1 + 1 + 1 + 2 * (((asL (nthD r 6))).length : Int)), .i .i64 (k + 1 + 1 + 1 + 1 + 1 + 1 + 2 * (((asL (nthD r 6))).length : Int) + 1)]
def cntRInodeS (r : List D) : Int := 8 + 2 * (((asL (nthD r 6))).length : Int)
noncomputable def markedInodeS : Int → List (List D) → List (List D)
  | _, [] => []
  | k, r :: b => rowMInodeS k r :: markedInodeS (k + cntRInodeS r) b
def cntInodeS : List (List D) → Int
  | [] => 0
  | r :: b => cntRInodeS r + cntInodeS b
theorem markedInodeS_len : ∀ (b : List (List D)) (k : Int), (markedInodeS k b).length = b.length
  | [], _ => rfl
  | _ :: b, k => by simp only [markedInodeS, List.length_cons, markedInodeS_len b]
theorem cntInodeS_nn : ∀ (b : List (List D)), 0 ≤ cntInodeS b
  | [] => by simp [cntInodeS]
  | r :: b => by
    have h := cntInodeS_nn b
    simp only [cntInodeS, cntRInodeS]
    omega
theorem cntInodeS_le : ∀ (b : List (List D)), (∀ r ∈ b, typL shInode r) → (∀ r ∈ b, szdL shInode r) → cntInodeS b ≤ 2097160 * (b.length : Int)
  | [], _, _ => by simp [cntInodeS]
  | r :: b, h, hs => by
    have ih := cntInodeS_le b (fun r hr => h r (List.mem_cons_of_mem _ hr)) (fun r hr => hs r (List.mem_cons_of_mem _ hr))
    have hz := hs r (List.mem_cons_self ..)
    obtain ⟨x1, x2, x3, x4, x5, x6, x7, x8, x9, rfl, wx6, wx7, tx7⟩ := Inode_row (h r (List.mem_cons_self ..))
    have sx7 : x7.length ≤ 1048576 ∧ ∀ r ∈ x7, szdL shDirent r := hz.2.2.2.2.2.2.1
    have lx7 := sx7.1
    simp only [cntInodeS, cntRInodeS, nthD, asL, List.length_cons]
    omega
theorem st9_0 (a b : List (List D)) (i : Nat) (h : i = a.length) (c1 c2 c3 c4 c5 c6 c7 c8 c9 d : D) : stR (a ++ [c1, c2, c3, c4, c5, c6, c7, c8, c9] :: b) i 0 [d] = a ++ [d, c2, c3, c4, c5, c6, c7, c8, c9] :: b := stR_mid a b _ _ i 0 h
theorem st9_1 (a b : List (List D)) (i : Nat) (h : i = a.length) (c1 c2 c3 c4 c5 c6 c7 c8 c9 d : D) : stR (a ++ [c1, c2, c3, c4, c5, c6, c7, c8, c9] :: b) i 1 [d] = a ++ [c1, d, c3, c4, c5, c6, c7, c8, c9] :: b := stR_mid a b _ _ i 1 h
theorem st9_2 (a b : List (List D)) (i : Nat) (h : i = a.length) (c1 c2 c3 c4 c5 c6 c7 c8 c9 d : D) : stR (a ++ [c1, c2, c3, c4, c5, c6, c7, c8, c9] :: b) i 2 [d] = a ++ [c1, c2, d, c4, c5, c6, c7, c8, c9] :: b := stR_mid a b _ _ i 2 h
theorem st9_3 (a b : List (List D)) (i : Nat) (h : i = a.length) (c1 c2 c3 c4 c5 c6 c7 c8 c9 d : D) : stR (a ++ [c1, c2, c3, c4, c5, c6, c7, c8, c9] :: b) i 3 [d] = a ++ [c1, c2, c3, d, c5, c6, c7, c8, c9] :: b := stR_mid a b _ _ i 3 h
theorem st9_4 (a b : List (List D)) (i : Nat) (h : i = a.length) (c1 c2 c3 c4 c5 c6 c7 c8 c9 d : D) : stR (a ++ [c1, c2, c3, c4, c5, c6, c7, c8, c9] :: b) i 4 [d] = a ++ [c1, c2, c3, c4, d, c6, c7, c8, c9] :: b := stR_mid a b _ _ i 4 h
theorem st9_5 (a b : List (List D)) (i : Nat) (h : i = a.length) (c1 c2 c3 c4 c5 c6 c7 c8 c9 d : D) : stR (a ++ [c1, c2, c3, c4, c5, c6, c7, c8, c9] :: b) i 5 [d] = a ++ [c1, c2, c3, c4, c5, d, c7, c8, c9] :: b := stR_mid a b _ _ i 5 h
theorem st9_6 (a b : List (List D)) (i : Nat) (h : i = a.length) (c1 c2 c3 c4 c5 c6 c7 c8 c9 d : D) : stR (a ++ [c1, c2, c3, c4, c5, c6, c7, c8, c9] :: b) i 6 [d] = a ++ [c1, c2, c3, c4, c5, c6, d, c8, c9] :: b := stR_mid a b _ _ i 6 h
theorem st9_7 (a b : List (List D)) (i : Nat) (h : i = a.length) (c1 c2 c3 c4 c5 c6 c7 c8 c9 d : D) : stR (a ++ [c1, c2, c3, c4, c5, c6, c7, c8, c9] :: b) i 7 [d] = a ++ [c1, c2, c3, c4, c5, c6, c7, d, c9] :: b := stR_mid a b _ _ i 7 h
theorem st9_8 (a b : List (List D)) (i : Nat) (h : i = a.length) (c1 c2 c3 c4 c5 c6 c7 c8 c9 d : D) : stR (a ++ [c1, c2, c3, c4, c5, c6, c7, c8, c9] :: b) i 8 [d] = a ++ [c1, c2, c3, c4, c5, c6, c7, c8, d] :: b := stR_mid a b _ _ i 8 h
theorem markInodeS_loop (n8 : Int) (q : Int → Int → Bool → List (List D) → Rs) (hq : ∀ a b c d, q a b c d = some ([.one (.i .i64 a)], [[.l d]])) : ∀ (b a : List (List D)) (m : Nat) (k : Int) (v10 : SV), (∀ r ∈ b, typL shInode r) → (∀ r ∈ b, szdL shInode r) → b.length < m → a.length + b.length ≤ 4000000 → 0 ≤ k → k + cntInodeS b ≤ 4000000000000000000 →
    l51o0 n8 q m k (a.length : Int) v10 (a ++ b) = some ([.one (.i .i64 (k + cntInodeS b))], [[.l (a ++ markedInodeS k b)]]) := by
  intro b
  induction b with
  | nil =>
    intro a m k v10 h hs hm hl h0 hk
    obtain ⟨m, rfl⟩ : ∃ m', m = m' + 1 := ⟨m - 1, by omega⟩
    have e : decide ((a.length : Int) < ((a ++ ([] : List (List D))).length : Int)) = false := by simp
    have e2 : k + cntInodeS [] = k := by simp [cntInodeS]
    simp only [l51o0, e, Bool.false_eq_true, if_false, hq, e2, markedInodeS]
  | cons r b ih =>
    intro a m k v10 h hs hm hl h0 hk
    obtain ⟨m, rfl⟩ : ∃ m', m = m' + 1 := ⟨m - 1, by omega⟩
    simp only [List.length_cons] at hm hl
    have hz := hs r (List.mem_cons_self ..)
    obtain ⟨x1, x2, x3, x4, x5, x6, x7, x8, x9, rfl, wx6, wx7, tx7⟩ := Inode_row (h r (List.mem_cons_self ..))
    have hb : ∀ r ∈ b, typL shInode r := fun r hr => h r (List.mem_cons_of_mem _ hr)
    have hb2 : ∀ r ∈ b, szdL shInode r := fun r hr => hs r (List.mem_cons_of_mem _ hr)
    have sx7 : x7.length ≤ 1048576 ∧ ∀ r ∈ x7, szdL shDirent r := hz.2.2.2.2.2.2.1
    have lx7 := sx7.1
    have nb := cntInodeS_nn b
    have e6 : k + cntRInodeS [.i .i64 x1, .i .i64 x2, .i .i64 x3, .i .i64 x4, .i .i64 x5, .s x6, .l x7, .i .i64 x8, .i .i64 x9] = k + 1 + 1 + 1 + 1 + 1 + 1 + 2 * (x7.length : Int) + 1 + 1 := by simp only [cntRInodeS, nthD, asL]; omega
    have e7 : k + cntInodeS ([.i .i64 x1, .i .i64 x2, .i .i64 x3, .i .i64 x4, .i .i64 x5, .s x6, .l x7, .i .i64 x8, .i .i64 x9] :: b) = k + 1 + 1 + 1 + 1 + 1 + 1 + 2 * (x7.length : Int) + 1 + 1 + cntInodeS b := by rw [cntInodeS, ← Int.add_assoc, e6]
    rw [e7] at hk
    have e1 : ∀ r : List D, decide ((a.length : Int) < ((a ++ r :: b).length : Int)) = true := fun r => decide_eq_true (by simp; omega)
    have e0 : decide (0 ≤ (a.length : Int)) = true := decide_eq_true (by omega)
    have eg : ∀ (r : List D), (a ++ r :: b).getD a.length [] = r := fun r => getD_mid a b r _ rfl
    have p0 : ∀ r : List D, decide (1 ≤ 9 ∧ a.length < (a ++ r :: b).length) = true := fun r => decide_eq_true (by simp)
    have p1 : ∀ r : List D, decide (2 ≤ 9 ∧ a.length < (a ++ r :: b).length) = true := fun r => decide_eq_true (by simp)
    have p2 : ∀ r : List D, decide (3 ≤ 9 ∧ a.length < (a ++ r :: b).length) = true := fun r => decide_eq_true (by simp)
    have p3 : ∀ r : List D, decide (4 ≤ 9 ∧ a.length < (a ++ r :: b).length) = true := fun r => decide_eq_true (by simp)
    have p4 : ∀ r : List D, decide (5 ≤ 9 ∧ a.length < (a ++ r :: b).length) = true := fun r => decide_eq_true (by simp)
    have p5 : ∀ r : List D, decide (6 ≤ 9 ∧ a.length < (a ++ r :: b).length) = true := fun r => decide_eq_true (by simp)
    have p7 : ∀ r : List D, decide (8 ≤ 9 ∧ a.length < (a ++ r :: b).length) = true := fun r => decide_eq_true (by simp)
    have p8 : ∀ r : List D, decide (9 ≤ 9 ∧ a.length < (a ++ r :: b).length) = true := fun r => decide_eq_true (by simp)
    have u0 : w64 (k + 1) = k + 1 := w64_in _ (by omega)
    have u1 : w64 (k + 1 + 1) = k + 1 + 1 := w64_in _ (by omega)
    have u2 : w64 (k + 1 + 1 + 1) = k + 1 + 1 + 1 := w64_in _ (by omega)
    have u3 : w64 (k + 1 + 1 + 1 + 1) = k + 1 + 1 + 1 + 1 := w64_in _ (by omega)
    have u4 : w64 (k + 1 + 1 + 1 + 1 + 1) = k + 1 + 1 + 1 + 1 + 1 := w64_in _ (by omega)
    have u5 : w64 (k + 1 + 1 + 1 + 1 + 1 + 1) = k + 1 + 1 + 1 + 1 + 1 + 1 := w64_in _ (by omega)
    have u7 : w64 (k + 1 + 1 + 1 + 1 + 1 + 1 + 2 * (x7.length : Int) + 1) = k + 1 + 1 + 1 + 1 + 1 + 1 + 2 * (x7.length : Int) + 1 := w64_in _ (by omega)
    have u8 : w64 (k + 1 + 1 + 1 + 1 + 1 + 1 + 2 * (x7.length : Int) + 1 + 1) = k + 1 + 1 + 1 + 1 + 1 + 1 + 2 * (x7.length : Int) + 1 + 1 := w64_in _ (by omega)
    have t5 := markText_eq (k + 1 + 1 + 1 + 1 + 1) (by omega)
    have m6 := markDirentS_eq x7 (fun r hr => typL_len _ r (tx7 r hr)) (by omega) (k + 1 + 1 + 1 + 1 + 1 + 1) (by omega) (by omega)
    have f6 : fstSz 2 x7 = true := fst_ok (fun r hr => typL_len _ r (tx7 r hr))
    have o6 : ∀ z (y : List (List D)), okR zr87 zo87 (some ([.one (.i .i64 z)], [[.l y]])) = true := fun _ _ => rfl
    have v6 : ∀ z (y : List (List D)), asL (outC (some ([.one (.i .i64 z)], [[.l y]])) 0 0) = y := fun _ _ => rfl
    have i6 : ∀ z (y : List (List D)), asI (resC (some ([.one (.i .i64 z)], [[.l y]])) 0 0) = z := fun _ _ => rfl
    have d6 : ∀ c1 c2 c3 c4 c5 c6 c8 c9 : D, asL (nthD [c1, c2, c3, c4, c5, c6, .l x7, c8, c9] 6) = x7 := fun _ _ _ _ _ _ _ _ => rfl
    have h6 : ∀ c1 c2 c3 c4 c5 c6 c8 c9 : D, decide (7 ≤ ([c1, c2, c3, c4, c5, c6, .l x7, c8, c9] : List D).length) = true := fun _ _ _ _ _ _ _ _ => rfl
    have k6 : ∀ c1 c2 c3 c4 c5 c6 c8 c9 : D, isF [.l []] 6 [c1, c2, c3, c4, c5, c6, .l x7, c8, c9] = true := fun _ _ _ _ _ _ _ _ => rfl
    have hw := w64_succ a.length (by omega)
    simp only [l51o0, e1, e0, eg, if_true, Int.toNat_natCast, p0, p1, p2, p3, p4, p5, p7, p8, u0, u1, u2, u3, u4, u5, u7, u8, t5, markText_w, markText_r, st9_0 a b _ rfl, st9_1 a b _ rfl, st9_2 a b _ rfl, st9_3 a b _ rfl, st9_4 a b _ rfl, st9_5 a b _ rfl, st9_6 a b _ rfl, st9_7 a b _ rfl, st9_8 a b _ rfl, m6, f6, o6, v6, i6, d6, h6, k6, Bool.and_true, chk_true, hw]
    have := fun (z0 : SV) => ih (a ++ [rowMInodeS k [.i .i64 x1, .i .i64 x2, .i .i64 x3, .i .i64 x4, .i .i64 x5, .s x6, .l x7, .i .i64 x8, .i .i64 x9]]) m (k + 1 + 1 + 1 + 1 + 1 + 1 + 2 * (x7.length : Int) + 1 + 1) z0 hb hb2 (by omega) (by simp; omega) (by omega) (by omega)
    have e3 : (a ++ [rowMInodeS k [.i .i64 x1, .i .i64 x2, .i .i64 x3, .i .i64 x4, .i .i64 x5, .s x6, .l x7, .i .i64 x8, .i .i64 x9]]).length = a.length + 1 := by simp
    simp only [e3, List.append_assoc] at this
    have e5 : a ++ markedInodeS k ([.i .i64 x1, .i .i64 x2, .i .i64 x3, .i .i64 x4, .i .i64 x5, .s x6, .l x7, .i .i64 x8, .i .i64 x9] :: b) = (a ++ [rowMInodeS k [.i .i64 x1, .i .i64 x2, .i .i64 x3, .i .i64 x4, .i .i64 x5, .s x6, .l x7, .i .i64 x8, .i .i64 x9]]) ++ markedInodeS (k + 1 + 1 + 1 + 1 + 1 + 1 + 2 * (x7.length : Int) + 1 + 1) b := by rw [markedInodeS, e6, List.append_assoc]; rfl
    rw [e7, e5, List.append_assoc]
    exact this _
theorem markInodeS_eq (l : List (List D)) (h : ∀ r ∈ l, typL shInode r) (hs : ∀ r ∈ l, szdL shInode r) (hl : l.length ≤ 4000000) (k : Int) (h0 : 0 ≤ k) (hk : k + cntInodeS l ≤ 4000000000000000000) : t51 l k = some ([.one (.i .i64 (k + cntInodeS l))], [[.l (markedInodeS k l)]]) := by
  unfold t51
  exact markInodeS_loop _ _ (fun _ _ _ _ => rfl) l [] KK k _ h hs (by rw [KK_eq]; omega) (by simpa using hl) h0 hk
theorem heldInodeS_loop (n9 : Int) (q1 : Int → Int → Bool → Bool → SV → SV → SV → SV → SV → SV → SV → SV → Rs) (q2 : Int → Int → Bool → Bool → Bool → SV → SV → SV → SV → SV → SV → SV → Rs) (q3 : Int → Int → Bool → Bool → Bool → Bool → SV → SV → SV → SV → SV → SV → Rs) (q4 : Int → Int → Bool → Bool → Bool → Bool → Bool → SV → SV → SV → SV → SV → Rs) (q5 : Int → Int → Bool → Bool → Bool → Bool → Bool → Bool → SV → SV → SV → SV → Rs) (q6 : Int → Int → Bool → Bool → Bool → Bool → Bool → Bool → Bool → SV → SV → SV → Rs) (q7 : Int → Int → Bool → Bool → Bool → Bool → Bool → Bool → Bool → Bool → SV → SV → Rs) (q8 : Int → Int → Bool → Bool → Bool → Bool → Bool → Bool → Bool → Bool → Bool → SV → Rs) (q9 : Int → Int → Bool → Bool → Bool → Bool → Bool → Bool → Bool → Bool → Bool → Bool → Rs) (q10 : Int → Int → Bool → SV → SV → SV → SV → SV → SV → SV → SV → SV → Rs) (hq : ∀ z0 z1 z2 z3 z4 z5 z6 z7 z8 z9 z10 z11, q10 z0 z1 z2 z3 z4 z5 z6 z7 z8 z9 z10 z11 = some ([.one (.i .i64 z0)], [])) : ∀ (b a : List (List D)) (m : Nat) (k : Int) (v11 v12 v13 v14 v15 v16 v17 v18 v19 v20 : SV) (L : List (List D)) (i : Int), (∀ r ∈ b, typL shInode r) → (∀ r ∈ b, szdL shInode r) → L = a ++ markedInodeS k b → i = (a.length : Int) → b.length < m → a.length + b.length ≤ 4000000 → 0 ≤ k → k + cntInodeS b ≤ 4000000000000000000 →
    l52o0 L n9 q1 q2 q3 q4 q5 q6 q7 q8 q9 q10 m k i v11 v12 v13 v14 v15 v16 v17 v18 v19 v20 = some ([.one (.i .i64 (k + cntInodeS b))], []) := by
  intro b
  induction b with
  | nil =>
    intro a m k v11 v12 v13 v14 v15 v16 v17 v18 v19 v20 L i h hs hL hi hm hl h0 hk
    subst hL hi
    obtain ⟨m, rfl⟩ : ∃ m', m = m' + 1 := ⟨m - 1, by omega⟩
    have e : decide ((a.length : Int) < ((a ++ ([] : List (List D))).length : Int)) = false := by simp
    have e2 : k + cntInodeS [] = k := by simp [cntInodeS]
    rw [show markedInodeS k [] = [] from rfl]
    simp only [l52o0, e, Bool.false_eq_true, if_false, hq, e2]
  | cons r b ih =>
    intro a m k v11 v12 v13 v14 v15 v16 v17 v18 v19 v20 L i h hs hL hi hm hl h0 hk
    subst hL hi
    obtain ⟨m, rfl⟩ : ∃ m', m = m' + 1 := ⟨m - 1, by omega⟩
    simp only [List.length_cons] at hm hl
    have hz := hs r (List.mem_cons_self ..)
    obtain ⟨x1, x2, x3, x4, x5, x6, x7, x8, x9, rfl, wx6, wx7, tx7⟩ := Inode_row (h r (List.mem_cons_self ..))
    have hb : ∀ r ∈ b, typL shInode r := fun r hr => h r (List.mem_cons_of_mem _ hr)
    have hb2 : ∀ r ∈ b, szdL shInode r := fun r hr => hs r (List.mem_cons_of_mem _ hr)
    have sx7 : x7.length ≤ 1048576 ∧ ∀ r ∈ x7, szdL shDirent r := hz.2.2.2.2.2.2.1
    have lx7 := sx7.1
    have nb := cntInodeS_nn b
    have e6 : k + cntRInodeS [.i .i64 x1, .i .i64 x2, .i .i64 x3, .i .i64 x4, .i .i64 x5, .s x6, .l x7, .i .i64 x8, .i .i64 x9] = k + 1 + 1 + 1 + 1 + 1 + 1 + 2 * (x7.length : Int) + 1 + 1 := by simp only [cntRInodeS, nthD, asL]; omega
    have e7 : k + cntInodeS ([.i .i64 x1, .i .i64 x2, .i .i64 x3, .i .i64 x4, .i .i64 x5, .s x6, .l x7, .i .i64 x8, .i .i64 x9] :: b) = k + 1 + 1 + 1 + 1 + 1 + 1 + 2 * (x7.length : Int) + 1 + 1 + cntInodeS b := by rw [cntInodeS, ← Int.add_assoc, e6]
    rw [e7] at hk
    have e1 : ∀ (r : List D) (b : List (List D)), decide ((a.length : Int) < ((a ++ r :: b).length : Int)) = true := fun r b => decide_eq_true (by simp; omega)
    have e0 : decide (0 ≤ (a.length : Int)) = true := decide_eq_true (by omega)
    have eg : ∀ (r : List D) (b : List (List D)), (a ++ r :: b).getD a.length [] = r := fun r b => getD_mid a b r _ rfl
    have u0 : w64 (k + 1) = k + 1 := w64_in _ (by omega)
    have u1 : w64 (k + 1 + 1) = k + 1 + 1 := w64_in _ (by omega)
    have u2 : w64 (k + 1 + 1 + 1) = k + 1 + 1 + 1 := w64_in _ (by omega)
    have u3 : w64 (k + 1 + 1 + 1 + 1) = k + 1 + 1 + 1 + 1 := w64_in _ (by omega)
    have u4 : w64 (k + 1 + 1 + 1 + 1 + 1) = k + 1 + 1 + 1 + 1 + 1 := w64_in _ (by omega)
    have u5 : w64 (k + 1 + 1 + 1 + 1 + 1 + 1) = k + 1 + 1 + 1 + 1 + 1 + 1 := w64_in _ (by omega)
    have u7 : w64 (k + 1 + 1 + 1 + 1 + 1 + 1 + 2 * (x7.length : Int) + 1) = k + 1 + 1 + 1 + 1 + 1 + 1 + 2 * (x7.length : Int) + 1 := w64_in _ (by omega)
    have u8 : w64 (k + 1 + 1 + 1 + 1 + 1 + 1 + 2 * (x7.length : Int) + 1 + 1) = k + 1 + 1 + 1 + 1 + 1 + 1 + 2 * (x7.length : Int) + 1 + 1 := w64_in _ (by omega)
    have t5 := markText_eq (k + 1 + 1 + 1 + 1 + 1) (by omega)
    have m6 := heldDirentS_eq x7 (by omega) (k + 1 + 1 + 1 + 1 + 1 + 1) (by omega) (by omega)
    have o6 : ∀ z, okR zr88 zo88 (some ([.one (.i .i64 z)], [])) = true := fun _ => rfl
    have i6 : ∀ z, asI (resC (some ([.one (.i .i64 z)], [])) 0 0) = z := fun _ => rfl
    have n6 : decide (k + 1 + 1 + 1 + 1 + 1 + 1 + 2 * (x7.length : Int) < 0) = false := decide_eq_false (by omega)
    have hw := w64_succ a.length (by omega)
    have this := fun (z0 : SV) (z1 : SV) (z2 : SV) (z3 : SV) (z4 : SV) (z5 : SV) (z6 : SV) (z7 : SV) (z8 : SV) (z9 : SV) => ih (a ++ [rowMInodeS k [.i .i64 x1, .i .i64 x2, .i .i64 x3, .i .i64 x4, .i .i64 x5, .s x6, .l x7, .i .i64 x8, .i .i64 x9]]) m (k + 1 + 1 + 1 + 1 + 1 + 1 + 2 * (x7.length : Int) + 1 + 1) z0 z1 z2 z3 z4 z5 z6 z7 z8 z9 _ _ hb hb2 rfl rfl (by omega) (by simp; omega) (by omega) (by omega)
    have e3 : (a ++ [rowMInodeS k [.i .i64 x1, .i .i64 x2, .i .i64 x3, .i .i64 x4, .i .i64 x5, .s x6, .l x7, .i .i64 x8, .i .i64 x9]]).length = a.length + 1 := by simp
    simp only [e3, List.append_assoc] at this
    have e5 : a ++ markedInodeS k ([.i .i64 x1, .i .i64 x2, .i .i64 x3, .i .i64 x4, .i .i64 x5, .s x6, .l x7, .i .i64 x8, .i .i64 x9] :: b) = a ++ rowMInodeS k [.i .i64 x1, .i .i64 x2, .i .i64 x3, .i .i64 x4, .i .i64 x5, .s x6, .l x7, .i .i64 x8, .i .i64 x9] :: markedInodeS (k + 1 + 1 + 1 + 1 + 1 + 1 + 2 * (x7.length : Int) + 1 + 1) b := by rw [markedInodeS, e6]
    rw [e5]
    have ez : isRow z64 (rowMInodeS k [.i .i64 x1, .i .i64 x2, .i .i64 x3, .i .i64 x4, .i .i64 x5, .s x6, .l x7, .i .i64 x8, .i .i64 x9]) = true := rfl
    have d0 : asI (nthD (rowMInodeS k [.i .i64 x1, .i .i64 x2, .i .i64 x3, .i .i64 x4, .i .i64 x5, .s x6, .l x7, .i .i64 x8, .i .i64 x9]) 0) = (k) := rfl
    have d1 : asI (nthD (rowMInodeS k [.i .i64 x1, .i .i64 x2, .i .i64 x3, .i .i64 x4, .i .i64 x5, .s x6, .l x7, .i .i64 x8, .i .i64 x9]) 1) = (k + 1) := rfl
    have d2 : asI (nthD (rowMInodeS k [.i .i64 x1, .i .i64 x2, .i .i64 x3, .i .i64 x4, .i .i64 x5, .s x6, .l x7, .i .i64 x8, .i .i64 x9]) 2) = (k + 1 + 1) := rfl
    have d3 : asI (nthD (rowMInodeS k [.i .i64 x1, .i .i64 x2, .i .i64 x3, .i .i64 x4, .i .i64 x5, .s x6, .l x7, .i .i64 x8, .i .i64 x9]) 3) = (k + 1 + 1 + 1) := rfl
    have d4 : asI (nthD (rowMInodeS k [.i .i64 x1, .i .i64 x2, .i .i64 x3, .i .i64 x4, .i .i64 x5, .s x6, .l x7, .i .i64 x8, .i .i64 x9]) 4) = (k + 1 + 1 + 1 + 1) := rfl
    have d5 : asS (nthD (rowMInodeS k [.i .i64 x1, .i .i64 x2, .i .i64 x3, .i .i64 x4, .i .i64 x5, .s x6, .l x7, .i .i64 x8, .i .i64 x9]) 5) = (mkT (k + 1 + 1 + 1 + 1 + 1)) := rfl
    have d6 : asL (nthD (rowMInodeS k [.i .i64 x1, .i .i64 x2, .i .i64 x3, .i .i64 x4, .i .i64 x5, .s x6, .l x7, .i .i64 x8, .i .i64 x9]) 6) = (markedDirentS (k + 1 + 1 + 1 + 1 + 1 + 1) x7) := rfl
    have d7 : asI (nthD (rowMInodeS k [.i .i64 x1, .i .i64 x2, .i .i64 x3, .i .i64 x4, .i .i64 x5, .s x6, .l x7, .i .i64 x8, .i .i64 x9]) 7) = (k + 1 + 1 + 1 + 1 + 1 + 1 + 2 * (x7.length : Int)) := rfl
    have d8 : asI (nthD (rowMInodeS k [.i .i64 x1, .i .i64 x2, .i .i64 x3, .i .i64 x4, .i .i64 x5, .s x6, .l x7, .i .i64 x8, .i .i64 x9]) 8) = (k + 1 + 1 + 1 + 1 + 1 + 1 + 2 * (x7.length : Int) + 1) := rfl
    simp only [l52o0, e1, e0, if_true, Int.toNat_natCast, eg, ez, d0, d1, d2, d3, d4, d5, d6, d7, d8, u0, u1, u2, u3, u4, u5, u7, u8, t5, markText_w, markText_r, m6, o6, i6, n6, bne_self_eq_false, beq_self_eq_true, Bool.not_true, Bool.false_eq_true, if_false, Bool.and_true, chk_true, hw]
    rw [e7]
    exact this _ _ _ _ _ _ _ _ _ _
theorem heldInodeS_eq (l : List (List D)) (h : ∀ r ∈ l, typL shInode r) (hs : ∀ r ∈ l, szdL shInode r) (hl : l.length ≤ 4000000) (k : Int) (h0 : 0 ≤ k) (hk : k + cntInodeS l ≤ 4000000000000000000) : t52 (markedInodeS k l) k = some ([.one (.i .i64 (k + cntInodeS l))], []) := by
  unfold t52
  exact heldInodeS_loop _ _ _ _ _ _ _ _ _ _ _ (fun _ _ _ _ _ _ _ _ _ _ _ _ => rfl) l [] KK k _ _ _ _ _ _ _ _ _ _ _ _ h hs rfl rfl (by rw [KK_eq]; omega) (by simpa using hl) h0 hk
theorem st5_0 (a b : List (List D)) (i : Nat) (h : i = a.length) (c1 c2 c3 c4 c5 d : D) : stR (a ++ [c1, c2, c3, c4, c5] :: b) i 0 [d] = a ++ [d, c2, c3, c4, c5] :: b := stR_mid a b _ _ i 0 h
theorem st5_1 (a b : List (List D)) (i : Nat) (h : i = a.length) (c1 c2 c3 c4 c5 d : D) : stR (a ++ [c1, c2, c3, c4, c5] :: b) i 1 [d] = a ++ [c1, d, c3, c4, c5] :: b := stR_mid a b _ _ i 1 h
theorem st5_2 (a b : List (List D)) (i : Nat) (h : i = a.length) (c1 c2 c3 c4 c5 d : D) : stR (a ++ [c1, c2, c3, c4, c5] :: b) i 2 [d] = a ++ [c1, c2, d, c4, c5] :: b := stR_mid a b _ _ i 2 h
theorem st5_3 (a b : List (List D)) (i : Nat) (h : i = a.length) (c1 c2 c3 c4 c5 d : D) : stR (a ++ [c1, c2, c3, c4, c5] :: b) i 3 [d] = a ++ [c1, c2, c3, d, c5] :: b := stR_mid a b _ _ i 3 h
theorem st5_4 (a b : List (List D)) (i : Nat) (h : i = a.length) (c1 c2 c3 c4 c5 d : D) : stR (a ++ [c1, c2, c3, c4, c5] :: b) i 4 [d] = a ++ [c1, c2, c3, c4, d] :: b := stR_mid a b _ _ i 4 h
theorem len5 {r : List D} (h : r.length = 5) : ∃ c1 c2 c3 c4 c5, r = [c1, c2, c3, c4, c5] := by
  match r, h with
  | [c1, c2, c3, c4, c5], _ => exact ⟨c1, c2, c3, c4, c5, rfl⟩
noncomputable def rowMNoteS (k : Int) : List D := [.i .i64 (k), .i .i64 (k + 1), .i .i64 (k + 1 + 1), .i .i64 (k + 1 + 1 + 1), .i .i64 (k + 1 + 1 + 1 + 1)]
noncomputable def markedNoteS : Int → List (List D) → List (List D)
  | _, [] => []
  | k, _ :: b => rowMNoteS k :: markedNoteS (k + 1 + 1 + 1 + 1 + 1) b
theorem markedNoteS_len : ∀ (b : List (List D)) (k : Int), (markedNoteS k b).length = b.length
  | [], _ => rfl
  | _ :: b, k => by simp only [markedNoteS, List.length_cons, markedNoteS_len b]
theorem markNoteS_loop (n8 : Int) (q : Int → Int → Bool → List (List D) → Rs) (hq : ∀ a b c d, q a b c d = some ([.one (.i .i64 a)], [[.l d]])) : ∀ (b a : List (List D)) (m : Nat) (k : Int) (v10 : SV), (∀ r ∈ b, r.length = 5) → b.length < m → a.length + b.length ≤ 4000000 → 0 ≤ k → k + 5 * (b.length : Int) ≤ 4000000000000000000 →
    l46o0 n8 q m k (a.length : Int) v10 (a ++ b) = some ([.one (.i .i64 (k + 5 * (b.length : Int)))], [[.l (a ++ markedNoteS k b)]]) := by
  intro b
  induction b with
  | nil =>
    intro a m k v10 h hm hl h0 hk
    obtain ⟨m, rfl⟩ : ∃ m', m = m' + 1 := ⟨m - 1, by omega⟩
    have e : decide ((a.length : Int) < ((a ++ ([] : List (List D))).length : Int)) = false := by simp
    have e2 : k + 5 * ((([] : List (List D)).length : Nat) : Int) = k := by simp
    simp only [l46o0, e, Bool.false_eq_true, if_false, hq, e2, markedNoteS]
  | cons r b ih =>
    intro a m k v10 h hm hl h0 hk
    obtain ⟨m, rfl⟩ : ∃ m', m = m' + 1 := ⟨m - 1, by omega⟩
    simp only [List.length_cons] at hm hl hk
    obtain ⟨c1, c2, c3, c4, c5, rfl⟩ := len5 (h r (List.mem_cons_self ..))
    have hb : ∀ r ∈ b, r.length = 5 := fun r hr => h r (List.mem_cons_of_mem _ hr)
    have e1 : ∀ r : List D, decide ((a.length : Int) < ((a ++ r :: b).length : Int)) = true := fun r => decide_eq_true (by simp; omega)
    have e0 : decide (0 ≤ (a.length : Int)) = true := decide_eq_true (by omega)
    have p1 : ∀ r : List D, decide (1 ≤ 5 ∧ a.length < (a ++ r :: b).length) = true := fun r => decide_eq_true (by simp)
    have p2 : ∀ r : List D, decide (2 ≤ 5 ∧ a.length < (a ++ r :: b).length) = true := fun r => decide_eq_true (by simp)
    have p3 : ∀ r : List D, decide (3 ≤ 5 ∧ a.length < (a ++ r :: b).length) = true := fun r => decide_eq_true (by simp)
    have p4 : ∀ r : List D, decide (4 ≤ 5 ∧ a.length < (a ++ r :: b).length) = true := fun r => decide_eq_true (by simp)
    have p5 : ∀ r : List D, decide (5 ≤ 5 ∧ a.length < (a ++ r :: b).length) = true := fun r => decide_eq_true (by simp)
    have u1 : w64 (k + 1) = k + 1 := w64_in _ (by omega)
    have u2 : w64 (k + 1 + 1) = k + 1 + 1 := w64_in _ (by omega)
    have u3 : w64 (k + 1 + 1 + 1) = k + 1 + 1 + 1 := w64_in _ (by omega)
    have u4 : w64 (k + 1 + 1 + 1 + 1) = k + 1 + 1 + 1 + 1 := w64_in _ (by omega)
    have u5 : w64 (k + 1 + 1 + 1 + 1 + 1) = k + 1 + 1 + 1 + 1 + 1 := w64_in _ (by omega)
    have hw := w64_succ a.length (by omega)
    simp only [l46o0, e1, e0, if_true, Int.toNat_natCast, p1, p2, p3, p4, p5, u1, u2, u3, u4, u5, st5_0 a b _ rfl, st5_1 a b _ rfl, st5_2 a b _ rfl, st5_3 a b _ rfl, st5_4 a b _ rfl, Bool.and_true, chk_true, hw]
    have := fun (z0 : SV) => ih (a ++ [rowMNoteS k]) m (k + 1 + 1 + 1 + 1 + 1) z0 hb (by omega) (by simp; omega) (by omega) (by omega)
    have e3 : (a ++ [rowMNoteS k]).length = a.length + 1 := by simp
    simp only [e3, List.append_assoc] at this
    have e4 : k + 5 * ((([c1, c2, c3, c4, c5] :: b).length : Nat) : Int) = k + 1 + 1 + 1 + 1 + 1 + 5 * (b.length : Int) := by simp only [List.length_cons]; omega
    have e5 : a ++ markedNoteS k ([c1, c2, c3, c4, c5] :: b) = (a ++ [rowMNoteS k]) ++ markedNoteS (k + 1 + 1 + 1 + 1 + 1) b := by simp [markedNoteS]
    rw [e4, e5, List.append_assoc]
    exact this _
theorem markNoteS_eq (l : List (List D)) (h : ∀ r ∈ l, r.length = 5) (hl : l.length ≤ 4000000) (k : Int) (h0 : 0 ≤ k) (hk : k + 5 * (l.length : Int) ≤ 4000000000000000000) : t46 l k = some ([.one (.i .i64 (k + 5 * (l.length : Int)))], [[.l (markedNoteS k l)]]) := by
  unfold t46
  exact markNoteS_loop _ _ (fun _ _ _ _ => rfl) l [] KK k _ h (by rw [KK_eq]; omega) (by simpa using hl) h0 hk
theorem heldNoteS_loop (n9 : Int) (q1 : Int → Int → Bool → Bool → SV → SV → SV → SV → Rs) (q2 : Int → Int → Bool → Bool → Bool → SV → SV → SV → Rs) (q3 : Int → Int → Bool → Bool → Bool → Bool → SV → SV → Rs) (q4 : Int → Int → Bool → Bool → Bool → Bool → Bool → SV → Rs) (q5 : Int → Int → Bool → Bool → Bool → Bool → Bool → Bool → Rs) (q6 : Int → Int → Bool → SV → SV → SV → SV → SV → Rs) (hq : ∀ x0 x1 x2 x3 x4 x5 x6 x7, q6 x0 x1 x2 x3 x4 x5 x6 x7 = some ([.one (.i .i64 x0)], [])) : ∀ (b a : List (List D)) (m : Nat) (k : Int) (v11 v12 v13 v14 v15 v16 : SV) (L : List (List D)) (i : Int), L = a ++ markedNoteS k b → i = (a.length : Int) → b.length < m → a.length + b.length ≤ 4000000 → 0 ≤ k → k + 5 * (b.length : Int) ≤ 4000000000000000000 →
    l49o0 L n9 q1 q2 q3 q4 q5 q6 m k i v11 v12 v13 v14 v15 v16 = some ([.one (.i .i64 (k + 5 * (b.length : Int)))], []) := by
  intro b
  induction b with
  | nil =>
    intro a m k v11 v12 v13 v14 v15 v16 L i hL hi hm hl h0 hk
    subst hL hi
    obtain ⟨m, rfl⟩ : ∃ m', m = m' + 1 := ⟨m - 1, by omega⟩
    have e : decide ((a.length : Int) < ((a ++ ([] : List (List D))).length : Int)) = false := by simp
    have e2 : k + 5 * ((([] : List (List D)).length : Nat) : Int) = k := by simp
    rw [show markedNoteS k [] = [] from rfl]
    simp only [l49o0, e, Bool.false_eq_true, if_false, hq, e2]
  | cons r b ih =>
    intro a m k v11 v12 v13 v14 v15 v16 L i hL hi hm hl h0 hk
    subst hL hi
    obtain ⟨m, rfl⟩ : ∃ m', m = m' + 1 := ⟨m - 1, by omega⟩
    simp only [List.length_cons] at hm hl hk
    have e1 : ∀ (r : List D) (b : List (List D)), decide ((a.length : Int) < ((a ++ r :: b).length : Int)) = true := fun r b => decide_eq_true (by simp; omega)
    have e0 : decide (0 ≤ (a.length : Int)) = true := decide_eq_true (by omega)
    have eg : ∀ (r : List D) (b : List (List D)), (a ++ r :: b).getD a.length [] = r := fun r b => getD_mid a b r _ rfl
    have u1 : w64 (k + 1) = k + 1 := w64_in _ (by omega)
    have u2 : w64 (k + 1 + 1) = k + 1 + 1 := w64_in _ (by omega)
    have u3 : w64 (k + 1 + 1 + 1) = k + 1 + 1 + 1 := w64_in _ (by omega)
    have u4 : w64 (k + 1 + 1 + 1 + 1) = k + 1 + 1 + 1 + 1 := w64_in _ (by omega)
    have u5 : w64 (k + 1 + 1 + 1 + 1 + 1) = k + 1 + 1 + 1 + 1 + 1 := w64_in _ (by omega)
    have hw := w64_succ a.length (by omega)
    have this := fun (z0 : SV) (z1 : SV) (z2 : SV) (z3 : SV) (z4 : SV) (z5 : SV) => ih (a ++ [rowMNoteS k]) m (k + 1 + 1 + 1 + 1 + 1) z0 z1 z2 z3 z4 z5 _ _ rfl rfl (by omega) (by simp; omega) (by omega) (by omega)
    have e3 : (a ++ [rowMNoteS k]).length = a.length + 1 := by simp
    simp only [e3, List.append_assoc] at this
    have e4 : k + 5 * (((r :: b).length : Nat) : Int) = k + 1 + 1 + 1 + 1 + 1 + 5 * (b.length : Int) := by simp only [List.length_cons]; omega
    have e5 : a ++ markedNoteS k (r :: b) = a ++ rowMNoteS k :: markedNoteS (k + 1 + 1 + 1 + 1 + 1) b := rfl
    rw [e5]
    have ez : isRow z90 (rowMNoteS k) = true := rfl
    have d0 : asI (nthD (rowMNoteS k) 0) = k := rfl
    have d1 : asI (nthD (rowMNoteS k) 1) = k + 1 := rfl
    have d2 : asI (nthD (rowMNoteS k) 2) = k + 1 + 1 := rfl
    have d3 : asI (nthD (rowMNoteS k) 3) = k + 1 + 1 + 1 := rfl
    have d4 : asI (nthD (rowMNoteS k) 4) = k + 1 + 1 + 1 + 1 := rfl
    simp only [l49o0, e1, e0, if_true, Int.toNat_natCast, eg, ez, d0, d1, d2, d3, d4, u1, u2, u3, u4, u5, bne_self_eq_false, beq_self_eq_true, Bool.not_true, Bool.false_eq_true, if_false, Bool.and_true, chk_true, hw]
    rw [e4]
    exact this _ _ _ _ _ _
theorem heldNoteS_eq (l : List (List D)) (hl : l.length ≤ 4000000) (k : Int) (h0 : 0 ≤ k) (hk : k + 5 * (l.length : Int) ≤ 4000000000000000000) : t49 (markedNoteS k l) k = some ([.one (.i .i64 (k + 5 * (l.length : Int)))], []) := by
  unfold t49
  exact heldNoteS_loop _ _ _ _ _ _ _ (fun _ _ _ _ _ _ _ _ => rfl) l [] KK k _ _ _ _ _ _ _ _ rfl rfl (by rw [KK_eq]; omega) (by simpa using hl) h0 hk
noncomputable def rowMSessionS (k : Int) : List D := [.i .i64 (k), .i .i64 (k + 1), .i .i64 (k + 1 + 1), .i .i64 (k + 1 + 1 + 1), .s (mkT (k + 1 + 1 + 1 + 1))]
noncomputable def markedSessionS : Int → List (List D) → List (List D)
  | _, [] => []
  | k, _ :: b => rowMSessionS k :: markedSessionS (k + 1 + 1 + 1 + 1 + 1) b
theorem markedSessionS_len : ∀ (b : List (List D)) (k : Int), (markedSessionS k b).length = b.length
  | [], _ => rfl
  | _ :: b, k => by simp only [markedSessionS, List.length_cons, markedSessionS_len b]
theorem markSessionS_loop (n8 : Int) (q : Int → Int → Bool → List (List D) → Rs) (hq : ∀ a b c d, q a b c d = some ([.one (.i .i64 a)], [[.l d]])) : ∀ (b a : List (List D)) (m : Nat) (k : Int) (v10 : SV), (∀ r ∈ b, r.length = 5) → b.length < m → a.length + b.length ≤ 4000000 → 0 ≤ k → k + 5 * (b.length : Int) ≤ 4000000000000000000 →
    l47o0 n8 q m k (a.length : Int) v10 (a ++ b) = some ([.one (.i .i64 (k + 5 * (b.length : Int)))], [[.l (a ++ markedSessionS k b)]]) := by
  intro b
  induction b with
  | nil =>
    intro a m k v10 h hm hl h0 hk
    obtain ⟨m, rfl⟩ : ∃ m', m = m' + 1 := ⟨m - 1, by omega⟩
    have e : decide ((a.length : Int) < ((a ++ ([] : List (List D))).length : Int)) = false := by simp
    have e2 : k + 5 * ((([] : List (List D)).length : Nat) : Int) = k := by simp
    simp only [l47o0, e, Bool.false_eq_true, if_false, hq, e2, markedSessionS]
  | cons r b ih =>
    intro a m k v10 h hm hl h0 hk
    obtain ⟨m, rfl⟩ : ∃ m', m = m' + 1 := ⟨m - 1, by omega⟩
    simp only [List.length_cons] at hm hl hk
    obtain ⟨c1, c2, c3, c4, c5, rfl⟩ := len5 (h r (List.mem_cons_self ..))
    have hb : ∀ r ∈ b, r.length = 5 := fun r hr => h r (List.mem_cons_of_mem _ hr)
    have e1 : ∀ r : List D, decide ((a.length : Int) < ((a ++ r :: b).length : Int)) = true := fun r => decide_eq_true (by simp; omega)
    have e0 : decide (0 ≤ (a.length : Int)) = true := decide_eq_true (by omega)
    have p1 : ∀ r : List D, decide (1 ≤ 5 ∧ a.length < (a ++ r :: b).length) = true := fun r => decide_eq_true (by simp)
    have p2 : ∀ r : List D, decide (2 ≤ 5 ∧ a.length < (a ++ r :: b).length) = true := fun r => decide_eq_true (by simp)
    have p3 : ∀ r : List D, decide (3 ≤ 5 ∧ a.length < (a ++ r :: b).length) = true := fun r => decide_eq_true (by simp)
    have p4 : ∀ r : List D, decide (4 ≤ 5 ∧ a.length < (a ++ r :: b).length) = true := fun r => decide_eq_true (by simp)
    have p5 : ∀ r : List D, decide (5 ≤ 5 ∧ a.length < (a ++ r :: b).length) = true := fun r => decide_eq_true (by simp)
    have u1 : w64 (k + 1) = k + 1 := w64_in _ (by omega)
    have u2 : w64 (k + 1 + 1) = k + 1 + 1 := w64_in _ (by omega)
    have u3 : w64 (k + 1 + 1 + 1) = k + 1 + 1 + 1 := w64_in _ (by omega)
    have u4 : w64 (k + 1 + 1 + 1 + 1) = k + 1 + 1 + 1 + 1 := w64_in _ (by omega)
    have u5 : w64 (k + 1 + 1 + 1 + 1 + 1) = k + 1 + 1 + 1 + 1 + 1 := w64_in _ (by omega)
    have t4 := markText_eq (k + 1 + 1 + 1 + 1) (by omega)
    have hw := w64_succ a.length (by omega)
    simp only [l47o0, e1, e0, if_true, Int.toNat_natCast, p1, p2, p3, p4, p5, u1, u2, u3, u4, u5, t4, markText_w, markText_r, st5_0 a b _ rfl, st5_1 a b _ rfl, st5_2 a b _ rfl, st5_3 a b _ rfl, st5_4 a b _ rfl, Bool.and_true, chk_true, hw]
    have := fun (z0 : SV) => ih (a ++ [rowMSessionS k]) m (k + 1 + 1 + 1 + 1 + 1) z0 hb (by omega) (by simp; omega) (by omega) (by omega)
    have e3 : (a ++ [rowMSessionS k]).length = a.length + 1 := by simp
    simp only [e3, List.append_assoc] at this
    have e4 : k + 5 * ((([c1, c2, c3, c4, c5] :: b).length : Nat) : Int) = k + 1 + 1 + 1 + 1 + 1 + 5 * (b.length : Int) := by simp only [List.length_cons]; omega
    have e5 : a ++ markedSessionS k ([c1, c2, c3, c4, c5] :: b) = (a ++ [rowMSessionS k]) ++ markedSessionS (k + 1 + 1 + 1 + 1 + 1) b := by simp [markedSessionS]
    rw [e4, e5, List.append_assoc]
    exact this _
theorem markSessionS_eq (l : List (List D)) (h : ∀ r ∈ l, r.length = 5) (hl : l.length ≤ 4000000) (k : Int) (h0 : 0 ≤ k) (hk : k + 5 * (l.length : Int) ≤ 4000000000000000000) : t47 l k = some ([.one (.i .i64 (k + 5 * (l.length : Int)))], [[.l (markedSessionS k l)]]) := by
  unfold t47
  exact markSessionS_loop _ _ (fun _ _ _ _ => rfl) l [] KK k _ h (by rw [KK_eq]; omega) (by simpa using hl) h0 hk
theorem heldSessionS_loop (n9 : Int) (q1 : Int → Int → Bool → Bool → SV → SV → SV → SV → Rs) (q2 : Int → Int → Bool → Bool → Bool → SV → SV → SV → Rs) (q3 : Int → Int → Bool → Bool → Bool → Bool → SV → SV → Rs) (q4 : Int → Int → Bool → Bool → Bool → Bool → Bool → SV → Rs) (q5 : Int → Int → Bool → Bool → Bool → Bool → Bool → Bool → Rs) (q6 : Int → Int → Bool → SV → SV → SV → SV → SV → Rs) (hq : ∀ x0 x1 x2 x3 x4 x5 x6 x7, q6 x0 x1 x2 x3 x4 x5 x6 x7 = some ([.one (.i .i64 x0)], [])) : ∀ (b a : List (List D)) (m : Nat) (k : Int) (v11 v12 v13 v14 v15 v16 : SV) (L : List (List D)) (i : Int), L = a ++ markedSessionS k b → i = (a.length : Int) → b.length < m → a.length + b.length ≤ 4000000 → 0 ≤ k → k + 5 * (b.length : Int) ≤ 4000000000000000000 →
    l50o0 L n9 q1 q2 q3 q4 q5 q6 m k i v11 v12 v13 v14 v15 v16 = some ([.one (.i .i64 (k + 5 * (b.length : Int)))], []) := by
  intro b
  induction b with
  | nil =>
    intro a m k v11 v12 v13 v14 v15 v16 L i hL hi hm hl h0 hk
    subst hL hi
    obtain ⟨m, rfl⟩ : ∃ m', m = m' + 1 := ⟨m - 1, by omega⟩
    have e : decide ((a.length : Int) < ((a ++ ([] : List (List D))).length : Int)) = false := by simp
    have e2 : k + 5 * ((([] : List (List D)).length : Nat) : Int) = k := by simp
    rw [show markedSessionS k [] = [] from rfl]
    simp only [l50o0, e, Bool.false_eq_true, if_false, hq, e2]
  | cons r b ih =>
    intro a m k v11 v12 v13 v14 v15 v16 L i hL hi hm hl h0 hk
    subst hL hi
    obtain ⟨m, rfl⟩ : ∃ m', m = m' + 1 := ⟨m - 1, by omega⟩
    simp only [List.length_cons] at hm hl hk
    have e1 : ∀ (r : List D) (b : List (List D)), decide ((a.length : Int) < ((a ++ r :: b).length : Int)) = true := fun r b => decide_eq_true (by simp; omega)
    have e0 : decide (0 ≤ (a.length : Int)) = true := decide_eq_true (by omega)
    have eg : ∀ (r : List D) (b : List (List D)), (a ++ r :: b).getD a.length [] = r := fun r b => getD_mid a b r _ rfl
    have u1 : w64 (k + 1) = k + 1 := w64_in _ (by omega)
    have u2 : w64 (k + 1 + 1) = k + 1 + 1 := w64_in _ (by omega)
    have u3 : w64 (k + 1 + 1 + 1) = k + 1 + 1 + 1 := w64_in _ (by omega)
    have u4 : w64 (k + 1 + 1 + 1 + 1) = k + 1 + 1 + 1 + 1 := w64_in _ (by omega)
    have u5 : w64 (k + 1 + 1 + 1 + 1 + 1) = k + 1 + 1 + 1 + 1 + 1 := w64_in _ (by omega)
    have t4 := markText_eq (k + 1 + 1 + 1 + 1) (by omega)
    have hw := w64_succ a.length (by omega)
    have this := fun (z0 : SV) (z1 : SV) (z2 : SV) (z3 : SV) (z4 : SV) (z5 : SV) => ih (a ++ [rowMSessionS k]) m (k + 1 + 1 + 1 + 1 + 1) z0 z1 z2 z3 z4 z5 _ _ rfl rfl (by omega) (by simp; omega) (by omega) (by omega)
    have e3 : (a ++ [rowMSessionS k]).length = a.length + 1 := by simp
    simp only [e3, List.append_assoc] at this
    have e4 : k + 5 * (((r :: b).length : Nat) : Int) = k + 1 + 1 + 1 + 1 + 1 + 5 * (b.length : Int) := by simp only [List.length_cons]; omega
    have e5 : a ++ markedSessionS k (r :: b) = a ++ rowMSessionS k :: markedSessionS (k + 1 + 1 + 1 + 1 + 1) b := rfl
    rw [e5]
    have ez : isRow z81 (rowMSessionS k) = true := rfl
    have d0 : asI (nthD (rowMSessionS k) 0) = k := rfl
    have d1 : asI (nthD (rowMSessionS k) 1) = k + 1 := rfl
    have d2 : asI (nthD (rowMSessionS k) 2) = k + 1 + 1 := rfl
    have d3 : asI (nthD (rowMSessionS k) 3) = k + 1 + 1 + 1 := rfl
    have d4 : asS (nthD (rowMSessionS k) 4) = mkT (k + 1 + 1 + 1 + 1) := rfl
    simp only [l50o0, e1, e0, if_true, Int.toNat_natCast, eg, ez, d0, d1, d2, d3, d4, u1, u2, u3, u4, u5, t4, markText_w, markText_r, bne_self_eq_false, beq_self_eq_true, Bool.not_true, Bool.false_eq_true, if_false, Bool.and_true, chk_true, hw]
    rw [e4]
    exact this _ _ _ _ _ _
theorem heldSessionS_eq (l : List (List D)) (hl : l.length ≤ 4000000) (k : Int) (h0 : 0 ≤ k) (hk : k + 5 * (l.length : Int) ≤ 4000000000000000000) : t50 (markedSessionS k l) k = some ([.one (.i .i64 (k + 5 * (l.length : Int)))], []) := by
  unfold t50
  exact heldSessionS_loop _ _ _ _ _ _ _ (fun _ _ _ _ _ _ _ _ => rfl) l [] KK k _ _ _ _ _ _ _ _ rfl rfl (by rw [KK_eq]; omega) (by simpa using hl) h0 hk
noncomputable def rowMTenantS (k : Int) (r : List D) : List D := [.i .i64 (k), .l (markedInodeS (k + 1) (asL (nthD r 1))), .i .i64 (k + 1 + cntInodeS ((asL (nthD r 1)))), .l (markedNoteS (k + 1 + cntInodeS ((asL (nthD r 1))) + 1) (asL (nthD r 3))), .l (markedSessionS (k + 1 + cntInodeS ((asL (nthD r 1))) + 1 + 5 * (((asL (nthD r 3))).length : Int)) (asL (nthD r 4)))]
def cntRTenantS (r : List D) : Int := 2 + cntInodeS ((asL (nthD r 1))) + 5 * (((asL (nthD r 3))).length : Int) + 5 * (((asL (nthD r 4))).length : Int)
noncomputable def markedTenantS : Int → List (List D) → List (List D)
  | _, [] => []
  | k, r :: b => rowMTenantS k r :: markedTenantS (k + cntRTenantS r) b
def cntTenantS : List (List D) → Int
  | [] => 0
  | r :: b => cntRTenantS r + cntTenantS b
theorem markedTenantS_len : ∀ (b : List (List D)) (k : Int), (markedTenantS k b).length = b.length
  | [], _ => rfl
  | _ :: b, k => by simp only [markedTenantS, List.length_cons, markedTenantS_len b]
theorem cntTenantS_nn : ∀ (b : List (List D)), 0 ≤ cntTenantS b
  | [] => by simp [cntTenantS]
  | r :: b => by
    have h := cntTenantS_nn b
    have q1 := cntInodeS_nn (asL (nthD r 1))
    simp only [cntTenantS, cntRTenantS]
    omega
theorem cntTenantS_le : ∀ (b : List (List D)), (∀ r ∈ b, typL shTenant r) → (∀ r ∈ b, szdL shTenant r) → cntTenantS b ≤ 2199042129922 * (b.length : Int)
  | [], _, _ => by simp [cntTenantS]
  | r :: b, h, hs => by
    have ih := cntTenantS_le b (fun r hr => h r (List.mem_cons_of_mem _ hr)) (fun r hr => hs r (List.mem_cons_of_mem _ hr))
    have hz := hs r (List.mem_cons_self ..)
    obtain ⟨x1, x2, x3, x4, x5, rfl, wx2, tx2, wx4, tx4, wx5, tx5⟩ := Tenant_row (h r (List.mem_cons_self ..))
    have sx2 : x2.length ≤ 1048576 ∧ ∀ r ∈ x2, szdL shInode r := hz.2.1
    have sx4 : x4.length ≤ 1048576 ∧ ∀ r ∈ x4, szdL shNote r := hz.2.2.2.1
    have sx5 : x5.length ≤ 1048576 ∧ ∀ r ∈ x5, szdL shSession r := hz.2.2.2.2.1
    have lx2 := sx2.1
    have lx4 := sx4.1
    have lx5 := sx5.1
    have gx2 := cntInodeS_le x2 tx2 sx2.2
    simp only [cntTenantS, cntRTenantS, nthD, asL, List.length_cons]
    omega
theorem markTenantS_loop (n8 : Int) (q : Int → Int → Bool → List (List D) → Rs) (hq : ∀ a b c d, q a b c d = some ([.one (.i .i64 a)], [[.l d]])) : ∀ (b a : List (List D)) (m : Nat) (k : Int) (v10 : SV), (∀ r ∈ b, typL shTenant r) → (∀ r ∈ b, szdL shTenant r) → b.length < m → a.length + b.length ≤ 4000000 → 0 ≤ k → k + cntTenantS b ≤ 4000000000000000000 →
    l20o0 n8 q m k (a.length : Int) v10 (a ++ b) = some ([.one (.i .i64 (k + cntTenantS b))], [[.l (a ++ markedTenantS k b)]]) := by
  intro b
  induction b with
  | nil =>
    intro a m k v10 h hs hm hl h0 hk
    obtain ⟨m, rfl⟩ : ∃ m', m = m' + 1 := ⟨m - 1, by omega⟩
    have e : decide ((a.length : Int) < ((a ++ ([] : List (List D))).length : Int)) = false := by simp
    have e2 : k + cntTenantS [] = k := by simp [cntTenantS]
    simp only [l20o0, e, Bool.false_eq_true, if_false, hq, e2, markedTenantS]
  | cons r b ih =>
    intro a m k v10 h hs hm hl h0 hk
    obtain ⟨m, rfl⟩ : ∃ m', m = m' + 1 := ⟨m - 1, by omega⟩
    simp only [List.length_cons] at hm hl
    have hz := hs r (List.mem_cons_self ..)
    obtain ⟨x1, x2, x3, x4, x5, rfl, wx2, tx2, wx4, tx4, wx5, tx5⟩ := Tenant_row (h r (List.mem_cons_self ..))
    have hb : ∀ r ∈ b, typL shTenant r := fun r hr => h r (List.mem_cons_of_mem _ hr)
    have hb2 : ∀ r ∈ b, szdL shTenant r := fun r hr => hs r (List.mem_cons_of_mem _ hr)
    have sx2 : x2.length ≤ 1048576 ∧ ∀ r ∈ x2, szdL shInode r := hz.2.1
    have sx4 : x4.length ≤ 1048576 ∧ ∀ r ∈ x4, szdL shNote r := hz.2.2.2.1
    have sx5 : x5.length ≤ 1048576 ∧ ∀ r ∈ x5, szdL shSession r := hz.2.2.2.2.1
    have lx2 := sx2.1
    have lx4 := sx4.1
    have lx5 := sx5.1
    have qx2 := cntInodeS_nn x2
    have nb := cntTenantS_nn b
    have e6 : k + cntRTenantS [.i .i64 x1, .l x2, .i .i64 x3, .l x4, .l x5] = k + 1 + cntInodeS x2 + 1 + 5 * (x4.length : Int) + 5 * (x5.length : Int) := by simp only [cntRTenantS, nthD, asL]; omega
    have e7 : k + cntTenantS ([.i .i64 x1, .l x2, .i .i64 x3, .l x4, .l x5] :: b) = k + 1 + cntInodeS x2 + 1 + 5 * (x4.length : Int) + 5 * (x5.length : Int) + cntTenantS b := by rw [cntTenantS, ← Int.add_assoc, e6]
    rw [e7] at hk
    have e1 : ∀ r : List D, decide ((a.length : Int) < ((a ++ r :: b).length : Int)) = true := fun r => decide_eq_true (by simp; omega)
    have e0 : decide (0 ≤ (a.length : Int)) = true := decide_eq_true (by omega)
    have eg : ∀ (r : List D), (a ++ r :: b).getD a.length [] = r := fun r => getD_mid a b r _ rfl
    have p0 : ∀ r : List D, decide (1 ≤ 5 ∧ a.length < (a ++ r :: b).length) = true := fun r => decide_eq_true (by simp)
    have p2 : ∀ r : List D, decide (3 ≤ 5 ∧ a.length < (a ++ r :: b).length) = true := fun r => decide_eq_true (by simp)
    have u0 : w64 (k + 1) = k + 1 := w64_in _ (by omega)
    have u2 : w64 (k + 1 + cntInodeS x2 + 1) = k + 1 + cntInodeS x2 + 1 := w64_in _ (by omega)
    have m1 := markInodeS_eq x2 tx2 sx2.2 (by omega) (k + 1) (by omega) (by omega)
    have m3 := markNoteS_eq x4 (fun r hr => typL_len _ r (tx4 r hr)) (by omega) (k + 1 + cntInodeS x2 + 1) (by omega) (by omega)
    have m4 := markSessionS_eq x5 (fun r hr => typL_len _ r (tx5 r hr)) (by omega) (k + 1 + cntInodeS x2 + 1 + 5 * (x4.length : Int)) (by omega) (by omega)
    have f1 : fstSz 9 x2 = true := fst_ok (fun r hr => typL_len _ r (tx2 r hr))
    have o1 : ∀ z (y : List (List D)), okR zr51 zo51 (some ([.one (.i .i64 z)], [[.l y]])) = true := fun _ _ => rfl
    have v1 : ∀ z (y : List (List D)), asL (outC (some ([.one (.i .i64 z)], [[.l y]])) 0 0) = y := fun _ _ => rfl
    have i1 : ∀ z (y : List (List D)), asI (resC (some ([.one (.i .i64 z)], [[.l y]])) 0 0) = z := fun _ _ => rfl
    have d1 : ∀ c1 c3 c4 c5 : D, asL (nthD [c1, .l x2, c3, c4, c5] 1) = x2 := fun _ _ _ _ => rfl
    have h1 : ∀ c1 c3 c4 c5 : D, decide (2 ≤ ([c1, .l x2, c3, c4, c5] : List D).length) = true := fun _ _ _ _ => rfl
    have k1 : ∀ c1 c3 c4 c5 : D, isF [.l []] 1 [c1, .l x2, c3, c4, c5] = true := fun _ _ _ _ => rfl
    have f3 : fstSz 5 x4 = true := fst_ok (fun r hr => typL_len _ r (tx4 r hr))
    have o3 : ∀ z (y : List (List D)), okR zr46 zo46 (some ([.one (.i .i64 z)], [[.l y]])) = true := fun _ _ => rfl
    have v3 : ∀ z (y : List (List D)), asL (outC (some ([.one (.i .i64 z)], [[.l y]])) 0 0) = y := fun _ _ => rfl
    have i3 : ∀ z (y : List (List D)), asI (resC (some ([.one (.i .i64 z)], [[.l y]])) 0 0) = z := fun _ _ => rfl
    have d3 : ∀ c1 c2 c3 c5 : D, asL (nthD [c1, c2, c3, .l x4, c5] 3) = x4 := fun _ _ _ _ => rfl
    have h3 : ∀ c1 c2 c3 c5 : D, decide (4 ≤ ([c1, c2, c3, .l x4, c5] : List D).length) = true := fun _ _ _ _ => rfl
    have k3 : ∀ c1 c2 c3 c5 : D, isF [.l []] 3 [c1, c2, c3, .l x4, c5] = true := fun _ _ _ _ => rfl
    have f4 : fstSz 5 x5 = true := fst_ok (fun r hr => typL_len _ r (tx5 r hr))
    have o4 : ∀ z (y : List (List D)), okR zr47 zo47 (some ([.one (.i .i64 z)], [[.l y]])) = true := fun _ _ => rfl
    have v4 : ∀ z (y : List (List D)), asL (outC (some ([.one (.i .i64 z)], [[.l y]])) 0 0) = y := fun _ _ => rfl
    have i4 : ∀ z (y : List (List D)), asI (resC (some ([.one (.i .i64 z)], [[.l y]])) 0 0) = z := fun _ _ => rfl
    have d4 : ∀ c1 c2 c3 c4 : D, asL (nthD [c1, c2, c3, c4, .l x5] 4) = x5 := fun _ _ _ _ => rfl
    have h4 : ∀ c1 c2 c3 c4 : D, decide (5 ≤ ([c1, c2, c3, c4, .l x5] : List D).length) = true := fun _ _ _ _ => rfl
    have k4 : ∀ c1 c2 c3 c4 : D, isF [.l []] 4 [c1, c2, c3, c4, .l x5] = true := fun _ _ _ _ => rfl
    have hw := w64_succ a.length (by omega)
    simp only [l20o0, e1, e0, eg, if_true, Int.toNat_natCast, p0, p2, u0, u2, st5_0 a b _ rfl, st5_1 a b _ rfl, st5_2 a b _ rfl, st5_3 a b _ rfl, st5_4 a b _ rfl, m1, f1, o1, v1, i1, d1, h1, k1, m3, f3, o3, v3, i3, d3, h3, k3, m4, f4, o4, v4, i4, d4, h4, k4, Bool.and_true, chk_true, hw]
    have := fun (z0 : SV) => ih (a ++ [rowMTenantS k [.i .i64 x1, .l x2, .i .i64 x3, .l x4, .l x5]]) m (k + 1 + cntInodeS x2 + 1 + 5 * (x4.length : Int) + 5 * (x5.length : Int)) z0 hb hb2 (by omega) (by simp; omega) (by omega) (by omega)
    have e3 : (a ++ [rowMTenantS k [.i .i64 x1, .l x2, .i .i64 x3, .l x4, .l x5]]).length = a.length + 1 := by simp
    simp only [e3, List.append_assoc] at this
    have e5 : a ++ markedTenantS k ([.i .i64 x1, .l x2, .i .i64 x3, .l x4, .l x5] :: b) = (a ++ [rowMTenantS k [.i .i64 x1, .l x2, .i .i64 x3, .l x4, .l x5]]) ++ markedTenantS (k + 1 + cntInodeS x2 + 1 + 5 * (x4.length : Int) + 5 * (x5.length : Int)) b := by rw [markedTenantS, e6, List.append_assoc]; rfl
    rw [e7, e5, List.append_assoc]
    exact this _
theorem markTenantS_eq (l : List (List D)) (h : ∀ r ∈ l, typL shTenant r) (hs : ∀ r ∈ l, szdL shTenant r) (hl : l.length ≤ 4000000) (k : Int) (h0 : 0 ≤ k) (hk : k + cntTenantS l ≤ 4000000000000000000) : t20 l k = some ([.one (.i .i64 (k + cntTenantS l))], [[.l (markedTenantS k l)]]) := by
  unfold t20
  exact markTenantS_loop _ _ (fun _ _ _ _ => rfl) l [] KK k _ h hs (by rw [KK_eq]; omega) (by simpa using hl) h0 hk
theorem heldTenantS_loop (n9 : Int) (q1 : Int → Int → Bool → Bool → SV → SV → SV → SV → Rs) (q2 : Int → Int → Bool → Bool → Bool → SV → SV → SV → Rs) (q3 : Int → Int → Bool → Bool → Bool → Bool → SV → SV → Rs) (q4 : Int → Int → Bool → Bool → Bool → Bool → Bool → SV → Rs) (q5 : Int → Int → Bool → Bool → Bool → Bool → Bool → Bool → Rs) (q6 : Int → Int → Bool → SV → SV → SV → SV → SV → Rs) (hq : ∀ z0 z1 z2 z3 z4 z5 z6 z7, q6 z0 z1 z2 z3 z4 z5 z6 z7 = some ([.one (.i .i64 z0)], [])) : ∀ (b a : List (List D)) (m : Nat) (k : Int) (v11 v12 v13 v14 v15 v16 : SV) (L : List (List D)) (i : Int), (∀ r ∈ b, typL shTenant r) → (∀ r ∈ b, szdL shTenant r) → L = a ++ markedTenantS k b → i = (a.length : Int) → b.length < m → a.length + b.length ≤ 4000000 → 0 ≤ k → k + cntTenantS b ≤ 4000000000000000000 →
    l21o0 L n9 q1 q2 q3 q4 q5 q6 m k i v11 v12 v13 v14 v15 v16 = some ([.one (.i .i64 (k + cntTenantS b))], []) := by
  intro b
  induction b with
  | nil =>
    intro a m k v11 v12 v13 v14 v15 v16 L i h hs hL hi hm hl h0 hk
    subst hL hi
    obtain ⟨m, rfl⟩ : ∃ m', m = m' + 1 := ⟨m - 1, by omega⟩
    have e : decide ((a.length : Int) < ((a ++ ([] : List (List D))).length : Int)) = false := by simp
    have e2 : k + cntTenantS [] = k := by simp [cntTenantS]
    rw [show markedTenantS k [] = [] from rfl]
    simp only [l21o0, e, Bool.false_eq_true, if_false, hq, e2]
  | cons r b ih =>
    intro a m k v11 v12 v13 v14 v15 v16 L i h hs hL hi hm hl h0 hk
    subst hL hi
    obtain ⟨m, rfl⟩ : ∃ m', m = m' + 1 := ⟨m - 1, by omega⟩
    simp only [List.length_cons] at hm hl
    have hz := hs r (List.mem_cons_self ..)
    obtain ⟨x1, x2, x3, x4, x5, rfl, wx2, tx2, wx4, tx4, wx5, tx5⟩ := Tenant_row (h r (List.mem_cons_self ..))
    have hb : ∀ r ∈ b, typL shTenant r := fun r hr => h r (List.mem_cons_of_mem _ hr)
    have hb2 : ∀ r ∈ b, szdL shTenant r := fun r hr => hs r (List.mem_cons_of_mem _ hr)
    have sx2 : x2.length ≤ 1048576 ∧ ∀ r ∈ x2, szdL shInode r := hz.2.1
    have sx4 : x4.length ≤ 1048576 ∧ ∀ r ∈ x4, szdL shNote r := hz.2.2.2.1
    have sx5 : x5.length ≤ 1048576 ∧ ∀ r ∈ x5, szdL shSession r := hz.2.2.2.2.1
    have lx2 := sx2.1
    have lx4 := sx4.1
    have lx5 := sx5.1
    have qx2 := cntInodeS_nn x2
    have nb := cntTenantS_nn b
    have e6 : k + cntRTenantS [.i .i64 x1, .l x2, .i .i64 x3, .l x4, .l x5] = k + 1 + cntInodeS x2 + 1 + 5 * (x4.length : Int) + 5 * (x5.length : Int) := by simp only [cntRTenantS, nthD, asL]; omega
    have e7 : k + cntTenantS ([.i .i64 x1, .l x2, .i .i64 x3, .l x4, .l x5] :: b) = k + 1 + cntInodeS x2 + 1 + 5 * (x4.length : Int) + 5 * (x5.length : Int) + cntTenantS b := by rw [cntTenantS, ← Int.add_assoc, e6]
    rw [e7] at hk
    have e1 : ∀ (r : List D) (b : List (List D)), decide ((a.length : Int) < ((a ++ r :: b).length : Int)) = true := fun r b => decide_eq_true (by simp; omega)
    have e0 : decide (0 ≤ (a.length : Int)) = true := decide_eq_true (by omega)
    have eg : ∀ (r : List D) (b : List (List D)), (a ++ r :: b).getD a.length [] = r := fun r b => getD_mid a b r _ rfl
    have u0 : w64 (k + 1) = k + 1 := w64_in _ (by omega)
    have u2 : w64 (k + 1 + cntInodeS x2 + 1) = k + 1 + cntInodeS x2 + 1 := w64_in _ (by omega)
    have m1 := heldInodeS_eq x2 tx2 sx2.2 (by omega) (k + 1) (by omega) (by omega)
    have o1 : ∀ z, okR zr52 zo52 (some ([.one (.i .i64 z)], [])) = true := fun _ => rfl
    have i1 : ∀ z, asI (resC (some ([.one (.i .i64 z)], [])) 0 0) = z := fun _ => rfl
    have n1 : decide (k + 1 + cntInodeS x2 < 0) = false := decide_eq_false (by omega)
    have m3 := heldNoteS_eq x4 (by omega) (k + 1 + cntInodeS x2 + 1) (by omega) (by omega)
    have o3 : ∀ z, okR zr49 zo49 (some ([.one (.i .i64 z)], [])) = true := fun _ => rfl
    have i3 : ∀ z, asI (resC (some ([.one (.i .i64 z)], [])) 0 0) = z := fun _ => rfl
    have n3 : decide (k + 1 + cntInodeS x2 + 1 + 5 * (x4.length : Int) < 0) = false := decide_eq_false (by omega)
    have m4 := heldSessionS_eq x5 (by omega) (k + 1 + cntInodeS x2 + 1 + 5 * (x4.length : Int)) (by omega) (by omega)
    have o4 : ∀ z, okR zr50 zo50 (some ([.one (.i .i64 z)], [])) = true := fun _ => rfl
    have i4 : ∀ z, asI (resC (some ([.one (.i .i64 z)], [])) 0 0) = z := fun _ => rfl
    have n4 : decide (k + 1 + cntInodeS x2 + 1 + 5 * (x4.length : Int) + 5 * (x5.length : Int) < 0) = false := decide_eq_false (by omega)
    have hw := w64_succ a.length (by omega)
    have this := fun (z0 : SV) (z1 : SV) (z2 : SV) (z3 : SV) (z4 : SV) (z5 : SV) => ih (a ++ [rowMTenantS k [.i .i64 x1, .l x2, .i .i64 x3, .l x4, .l x5]]) m (k + 1 + cntInodeS x2 + 1 + 5 * (x4.length : Int) + 5 * (x5.length : Int)) z0 z1 z2 z3 z4 z5 _ _ hb hb2 rfl rfl (by omega) (by simp; omega) (by omega) (by omega)
    have e3 : (a ++ [rowMTenantS k [.i .i64 x1, .l x2, .i .i64 x3, .l x4, .l x5]]).length = a.length + 1 := by simp
    simp only [e3, List.append_assoc] at this
    have e5 : a ++ markedTenantS k ([.i .i64 x1, .l x2, .i .i64 x3, .l x4, .l x5] :: b) = a ++ rowMTenantS k [.i .i64 x1, .l x2, .i .i64 x3, .l x4, .l x5] :: markedTenantS (k + 1 + cntInodeS x2 + 1 + 5 * (x4.length : Int) + 5 * (x5.length : Int)) b := by rw [markedTenantS, e6]
    rw [e5]
    have ez : isRow z28 (rowMTenantS k [.i .i64 x1, .l x2, .i .i64 x3, .l x4, .l x5]) = true := rfl
    have d0 : asI (nthD (rowMTenantS k [.i .i64 x1, .l x2, .i .i64 x3, .l x4, .l x5]) 0) = (k) := rfl
    have d1 : asL (nthD (rowMTenantS k [.i .i64 x1, .l x2, .i .i64 x3, .l x4, .l x5]) 1) = (markedInodeS (k + 1) x2) := rfl
    have d2 : asI (nthD (rowMTenantS k [.i .i64 x1, .l x2, .i .i64 x3, .l x4, .l x5]) 2) = (k + 1 + cntInodeS x2) := rfl
    have d3 : asL (nthD (rowMTenantS k [.i .i64 x1, .l x2, .i .i64 x3, .l x4, .l x5]) 3) = (markedNoteS (k + 1 + cntInodeS x2 + 1) x4) := rfl
    have d4 : asL (nthD (rowMTenantS k [.i .i64 x1, .l x2, .i .i64 x3, .l x4, .l x5]) 4) = (markedSessionS (k + 1 + cntInodeS x2 + 1 + 5 * (x4.length : Int)) x5) := rfl
    simp only [l21o0, e1, e0, if_true, Int.toNat_natCast, eg, ez, d0, d1, d2, d3, d4, u0, u2, m1, o1, i1, n1, m3, o3, i3, n3, m4, o4, i4, n4, bne_self_eq_false, beq_self_eq_true, Bool.not_true, Bool.false_eq_true, if_false, Bool.and_true, chk_true, hw]
    rw [e7]
    exact this _ _ _ _ _ _
theorem heldTenantS_eq (l : List (List D)) (h : ∀ r ∈ l, typL shTenant r) (hs : ∀ r ∈ l, szdL shTenant r) (hl : l.length ≤ 4000000) (k : Int) (h0 : 0 ≤ k) (hk : k + cntTenantS l ≤ 4000000000000000000) : t21 (markedTenantS k l) k = some ([.one (.i .i64 (k + cntTenantS l))], []) := by
  unfold t21
  exact heldTenantS_loop _ _ _ _ _ _ _ (fun _ _ _ _ _ _ _ _ => rfl) l [] KK k _ _ _ _ _ _ _ _ h hs rfl rfl (by rw [KK_eq]; omega) (by simpa using hl) h0 hk
end Go.Den.L4

/- New tenants, new states. -/
namespace Go.Den.L4
open Go
theorem both_NewTenant : ∃ (r1 : Int) (r2 : List (List D)) (r3 : Int) (r4 r5 : List (List D)), t12 = some ([.agg [.i .i64 r1, .l r2, .i .i64 r3, .l r4, .l r5]], []) ∧ t13 = some ([.agg [.i .i64 r1, .l r2, .i .i64 r3, .l r4, .l r5]], []) ∧
    r2.length ≤ 1048576 ∧ (∀ r ∈ r2, typL shInode r) ∧ (∀ r ∈ r2, szdL shInode r) ∧ r4.length ≤ 1048576 ∧ (∀ r ∈ r4, typL shNote r) ∧ r5.length ≤ 1048576 ∧ (∀ r ∈ r5, typL shSession r) ∧ True := by
  refine ⟨2, [[.i .i64 1, .i .i64 2, .i .i64 1023, .i .i64 0, .i .i64 0, .s ⟨#[]⟩, .l [], .i .i64 0, .i .i64 0]], 30, [], [], rfl, rfl, ?_, ?_, ?_, ?_, ?_, ?_, ?_, trivial⟩
  · simp
  · intro r hr; simp at hr; subst hr
    exact ⟨_, _, rfl, ⟨_, rfl, rfl⟩, ⟨_, _, rfl, ⟨_, rfl, rfl⟩, ⟨_, _, rfl, ⟨_, rfl, rfl⟩, ⟨_, _, rfl, ⟨_, rfl, rfl⟩, ⟨_, _, rfl, ⟨_, rfl, rfl⟩, ⟨_, _, rfl, ⟨_, rfl, Nat.zero_le _⟩, ⟨_, _, rfl, ⟨_, rfl, Nat.zero_le _, fun r h => by cases h⟩, ⟨_, _, rfl, ⟨_, rfl, rfl⟩, ⟨_, _, rfl, ⟨_, rfl, rfl⟩, rfl⟩⟩⟩⟩⟩⟩⟩⟩⟩
  · intro r hr; simp at hr; subst hr
    exact ⟨trivial, trivial, trivial, trivial, trivial, Nat.zero_le _, ⟨Nat.zero_le _, fun r h => by cases h⟩, trivial, trivial, trivial⟩
  · simp
  · intro r hr; cases hr
  · simp
  · intro r hr; cases hr
def ten0 : List D := [.i .i64 2, .l [[.i .i64 1, .i .i64 2, .i .i64 1023, .i .i64 0, .i .i64 0, .s ⟨#[]⟩, .l [], .i .i64 0, .i .i64 0]], .i .i64 30, .l [], .l []]
theorem typ_ten0 : typL shTenant ten0 := by
  refine ⟨_, _, rfl, ⟨_, rfl, rfl⟩, ⟨_, _, rfl, ⟨_, rfl, ?_, ?_⟩, ⟨_, _, rfl, ⟨_, rfl, rfl⟩, ⟨_, _, rfl, ⟨_, rfl, Nat.zero_le _, fun r h => by cases h⟩, ⟨_, _, rfl, ⟨_, rfl, Nat.zero_le _, fun r h => by cases h⟩, rfl⟩⟩⟩⟩⟩
  · show 1 ≤ maxLen; unfold maxLen; omega
  · intro r hr; simp at hr; subst hr
    exact ⟨_, _, rfl, ⟨_, rfl, rfl⟩, ⟨_, _, rfl, ⟨_, rfl, rfl⟩, ⟨_, _, rfl, ⟨_, rfl, rfl⟩, ⟨_, _, rfl, ⟨_, rfl, rfl⟩, ⟨_, _, rfl, ⟨_, rfl, rfl⟩, ⟨_, _, rfl, ⟨_, rfl, Nat.zero_le _⟩, ⟨_, _, rfl, ⟨_, rfl, Nat.zero_le _, fun r h => by cases h⟩, ⟨_, _, rfl, ⟨_, rfl, rfl⟩, ⟨_, _, rfl, ⟨_, rfl, rfl⟩, rfl⟩⟩⟩⟩⟩⟩⟩⟩⟩
theorem szd_ten0 : szdL shTenant ten0 := by
  refine ⟨trivial, ⟨?_, ?_⟩, trivial, ⟨Nat.zero_le _, fun r h => by cases h⟩, ⟨Nat.zero_le _, fun r h => by cases h⟩, trivial⟩
  · show 1 ≤ 1048576; omega
  · intro r hr
    have hr : r ∈ [[D.i .i64 1, .i .i64 2, .i .i64 1023, .i .i64 0, .i .i64 0, .s ⟨#[]⟩, .l [], .i .i64 0, .i .i64 0]] := hr
    simp at hr; subst hr
    exact ⟨trivial, trivial, trivial, trivial, trivial, Nat.zero_le _, ⟨Nat.zero_le _, fun r h => by cases h⟩, trivial, trivial, trivial⟩
theorem newState_impl : t18 = some ([.one (.l [ten0, ten0, ten0])], []) := by
  have h : t13 = some ([.agg ten0], []) := rfl
  obtain ⟨m, hm⟩ : ∃ m, KK = m + 4 := ⟨KK - 4, by rw [KK_eq]⟩
  unfold t18
  rw [hm]
  have e0 : okR zr13 zo13 (some ([.agg ten0], [])) = true := rfl
  have e1 : ([[.i .i64 (asI (resC (some ([.agg ten0], [])) 0 0)), .l (asL (resC (some ([.agg ten0], [])) 0 1)), .i .i64 (asI (resC (some ([.agg ten0], [])) 0 2)), .l (asL (resC (some ([.agg ten0], [])) 0 3)), .l (asL (resC (some ([.agg ten0], [])) 0 4))]] : List (List D)) = [ten0] := rfl
  have a0 : decide ((0 : Int) < 3) = true := rfl
  have a1 : decide (w64 ((0 : Int) + 1) < 3) = true := rfl
  have a2 : decide (w64 (w64 ((0 : Int) + 1) + 1) < 3) = true := rfl
  have a3 : decide (w64 (w64 (w64 ((0 : Int) + 1) + 1) + 1) < 3) = false := rfl
  simp only [l18o0, h, e0, e1, a0, a1, a2, a3, if_true, Bool.false_eq_true, if_false, chk_true, Bool.true_and]
  have l1 : decide ((([] : List (List D)).length + [ten0].length) ≤ lim) = true := rfl
  have l2 : decide ((([] ++ [ten0] : List (List D)).length + [ten0].length) ≤ lim) = true := rfl
  have l3 : decide ((([] ++ [ten0] ++ [ten0] : List (List D)).length + [ten0].length) ≤ lim) = true := rfl
  rw [l1, l2, l3]
  rfl
theorem newState_spec : t17 = some ([.one (.l [ten0, ten0, ten0])], []) := by
  have h : t12 = some ([.agg ten0], []) := rfl
  obtain ⟨m, hm⟩ : ∃ m, KK = m + 4 := ⟨KK - 4, by rw [KK_eq]⟩
  unfold t17
  rw [hm]
  have e0 : okR zr12 zo12 (some ([.agg ten0], [])) = true := rfl
  have e1 : ([[.i .i64 (asI (resC (some ([.agg ten0], [])) 0 0)), .l (asL (resC (some ([.agg ten0], [])) 0 1)), .i .i64 (asI (resC (some ([.agg ten0], [])) 0 2)), .l (asL (resC (some ([.agg ten0], [])) 0 3)), .l (asL (resC (some ([.agg ten0], [])) 0 4))]] : List (List D)) = [ten0] := rfl
  have a0 : decide ((0 : Int) < 3) = true := rfl
  have a1 : decide (w64 ((0 : Int) + 1) < 3) = true := rfl
  have a2 : decide (w64 (w64 ((0 : Int) + 1) + 1) < 3) = true := rfl
  have a3 : decide (w64 (w64 (w64 ((0 : Int) + 1) + 1) + 1) < 3) = false := rfl
  simp only [l17o0, h, e0, e1, a0, a1, a2, a3, if_true, Bool.false_eq_true, if_false, chk_true, Bool.true_and]
  have l1 : decide ((([] : List (List D)).length + [ten0].length) ≤ lim) = true := rfl
  have l2 : decide ((([] ++ [ten0] : List (List D)).length + [ten0].length) ≤ lim) = true := rfl
  have l3 : decide ((([] ++ [ten0] ++ [ten0] : List (List D)).length + [ten0].length) ≤ lim) = true := rfl
  rw [l1, l2, l3]
  rfl
theorem both_NewState : ∃ (r1 : List (List D)), t17 = some ([.one (.l r1)], []) ∧ t18 = some ([.one (.l r1)], []) ∧ r1.length ≤ 1048576 ∧ (∀ r ∈ r1, typL shTenant r) ∧ (∀ r ∈ r1, szdL shTenant r) ∧ True :=
  ⟨[ten0, ten0, ten0], newState_spec, newState_impl, by simp, fun r hr => by simp at hr; subst hr; exact typ_ten0, fun r hr => by simp at hr; subst hr; exact szd_ten0, trivial⟩
end Go.Den.L4

/- The law FnExactNewState. Printed by lawgen.py. -/
namespace Go.Den.L4
open Go
theorem law4 : t4 = some ([.one (.b true)], []) := by
  obtain ⟨r1, k1, k2, qr1, tr1, zr1, _⟩ := both_NewState  
  have br1 := cntTenantS_le r1 tr1 zr1
  have nr1 := cntTenantS_nn r1
  have f1 := markTenantS_eq r1 tr1 zr1 (by omega) (1) (by omega) (by omega)
  have f2 : decide (1 + cntTenantS r1 < 0) = false := decide_eq_false (by omega)
  have f3 := heldTenantS_eq r1 tr1 zr1 (by omega) (1) (by omega) (by omega)
  have f4 : decide (1 + cntTenantS r1 < 0) = false := decide_eq_false (by omega)
  simp only [t4, k1, k2, eqTenantS_self r1 qr1 tr1 zr1, f1, f2, f3, f4, zr17, zo17, zr18, zo18, zr19, zo19, zr20, zo20, zr21, zo21, okR, isVs, isV, isD, isDs, isOs, resC, outC, nthR, nthO, cellsDV, nthD, asB, asI, asS, asL, Bool.and_true, Bool.true_and, Bool.true_or, BEq.rfl, chk_true, bne_self_eq_false, Bool.not_true, Bool.not_false, Bool.or_self, Bool.or_false, Bool.false_or, decide_true, decide_false, Bool.false_eq_true, if_false, if_true]
end Go.Den.L4
