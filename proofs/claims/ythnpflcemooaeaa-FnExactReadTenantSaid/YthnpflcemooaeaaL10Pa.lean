/- Plain laws about what the functions compute; no condition. -/
import Derived.Test.YthnpflcemooaeaaL10Tw
import Derived.IntWalk
import Derived.KernelRfl
set_option linter.unusedVariables false
set_option linter.unusedSimpArgs false
namespace Go.Den.L10
open Go Go.IntWalk
theorem ka (x : Rs) : chk true x = x := rfl
theorem kfd {b : Bool} (h : b = true) (x : Rs) : chk b x = x := by rw [h]; rfl
attribute [simp] ka okR isVs isV isD isDs isOs resC outC nthR nthO cellsDV nthD asB asI asS asL
theorem kal {α : Type} (a b : Bool) (h : a = !b) (x y : α) : (if a = true then x else y) = (if b = true then y else x) := by
 subst h; cases b <;> rfl
theorem khi (a b : Bool) (h : a = b) : (some ([DV.one (.b a)], ([] : List (List D))) : Rs) = some ([.one (.b b)], []) := by rw [h]
theorem khh : (⟨#[]⟩ : ByteArray).toList = [] := by rw [ByteArray.toList_eq]
theorem kje (s : ByteArray) : s.toList = [] ↔ (s.size : Int) = 0 := by
 have e : s.size = s.data.toList.length := by rw [Array.length_toList]; rfl
 rw [ByteArray.toList_eq, e]
 cases s.data.toList <;> simp <;> omega
theorem kxh (s : ByteArray) : s.toList.isEmpty = decide ((s.size : Int) = 0) := by
 rw [Bool.eq_iff_iff, List.isEmpty_iff, kje]; simp
attribute [simp] khh kje kxh
theorem kl : KK = 18446744073709551616 := Classical.choose_spec (⟨2 ^ 64, rfl⟩ : ∃ n : Nat, n = 2 ^ 64)
theorem ki (n : Int) (h : -9223372036854775808 ≤ n ∧ n ≤ 9223372036854775807) : w64 n = n := i64_in n h
theorem khb {l : List (List D)} {i : Nat} (hi : i < l.length) : l.getD i [] = l[i] := by simp [List.getD, hi]
theorem kpc {l : List (List D)} {es : List Sh} (h : ∀ r ∈ l, typL es r) {i : Nat} (hi : i < l.length) : typL es (l.getD i []) := by
 rw [khb hi]; exact h _ (List.getElem_mem hi)
theorem kc (i : Nat) (h : i < 4611686018427387904) : w64 ((i : Int) + 1) = ((i + 1 : Nat) : Int) := by
 rw [ki _ (by omega)]; rfl
theorem klc (a b c : Int) : t63 a b c = some ([.one (.b (decide (b ≤ a) && decide (a ≤ c)))], []) := rfl
theorem kod (a b c : Int) : t57 a b c = some ([.one (.b (decide (b ≤ a) && decide (a ≤ c)))], []) := rfl
mutual
def szdD : Sh → D → Prop
 | .b, _ => True
 | .i _, _ => True
 | .s, d => (asS d).size ≤ 1048576
 | .l es, d => (asL d).length ≤ 1048576 ∧ ∀ r ∈ asL d, szdL es r
def szdL : List Sh → List D → Prop
 | [], _ => True
 | e :: es, ds => szdD e (nthD ds 0) ∧ szdL es ds.tail
end
theorem kqb {l : List (List D)} {i : Nat} (h : i < l.length) : l.getD i [] ∈ l := by rw [khb h]; exact List.getElem_mem h
theorem kj {i n : Nat} (h : i < n) : decide ((i : Int) < (n : Int)) = true := by simp; omega
theorem kxb (i : Nat) : decide ((0 : Int) ≤ (i : Int)) = true := by simp
theorem kbh {α : Type} (f : α → α) : ∀ (a : List α) (x : α) (b : List α), (a ++ x :: b).modify a.length f = a ++ f x :: b
 | [], x, b => by simp
 | y :: a, x, b => by simp [kbh f a x b]
abbrev ks : List Sh := [.s, .i .i64]
theorem kgf {r : List D} (h : typL ks r) : ∃ x1 x2, r = [.s x1, .i .i64 x2] ∧ x1.size ≤ maxLen := by
 obtain ⟨_, _, rfl, ⟨x1, rfl, wx1⟩, ⟨_, _, rfl, ⟨x2, rfl, _⟩, rfl⟩⟩ := h
 exact ⟨x1, x2, rfl, wx1⟩
theorem ksi (x1 : ByteArray) (x2 : Int)  : t143 x1 x2 x1 x2 = some ([.one (.b true)], []) := by
 simp only [t143, bne_self_eq_false, Bool.not_true, Bool.false_eq_true, if_false, okR, isVs, isV, isD, isDs, isOs, resC, outC, nthR, nthO, cellsDV, nthD, asB, asI, asS, asL, Bool.and_true, Bool.true_and, BEq.rfl, ka, decide_true]
theorem kyh (b0 b1 : Bool) (q1 : Int → Bool → Bool → Rs) (q2 : Int → Bool → SV → Rs) (h2 : ∀ a b c, q2 a b c = some ([.one (.b true)], [])) (l : List (List D)) (h : ∀ r ∈ l, typL ks r) (hl : l.length < 4611686018427387904) : ∀ (k i m : Nat) (v w : SV), i + k = l.length → k < m →
  la137o1 t143 l l b0 b1 q1 q2 m i v w = some ([.one (.b true)], []) := by
 intro k
 induction k with
 | zero =>
  intro i m v w e hm
  obtain ⟨m, rfl⟩ : ∃ m', m = m' + 1 := ⟨m - 1, by omega⟩
  have ei : decide ((i : Int) < (l.length : Int)) = false := by simp; omega
  simp only [la137o1, ei, h2]
  simp
 | succ k ih =>
  intro i m v w e hm
  obtain ⟨m, rfl⟩ : ∃ m', m = m' + 1 := ⟨m - 1, by omega⟩
  have hr := kpc h (i := i) (by omega)
  obtain ⟨c1, c2, er, wc1⟩ := kgf hr
  have e1 : decide ((i : Int) < (l.length : Int)) = true := by simp; omega
  have e2 : decide ((0 : Int) ≤ (i : Int)) = true := by simp
  have ez : isRow z129 [.s c1, .i .i64 c2] = true := rfl
  have ew : okR zr143 zo143 (some ([.one (.b true)], [])) = true := rfl
  simp only [la137o1, e1, e2, Int.toNat_natCast, er, ez, nthD, asI, asS, asB, asL, ksi c1 c2, resC, nthR, cellsDV, ew, Bool.and_true, ka, if_true, Bool.not_true, Bool.false_eq_true, if_false]
  rw [kc i (by omega)]
  exact ih (i + 1) m _ _ (by omega) (by omega)
theorem krh (l : List (List D)) (hl : l.length ≤ 1048576) (h : ∀ r ∈ l, typL ks r) : t137 l l = some ([.one (.b true)], []) := by
 have := kyh false false (fun _ _ _ => some ([.one (.b false)], [])) (fun _ _ _ => some ([.one (.b true)], [])) (fun _ _ _ => rfl) l h (by omega) l.length 0 KK .undef .undef (by omega) (by rw [kl]; omega)
 simpa [t137, ta137] using this
abbrev kb : List Sh := [.i .i64, .i .i64, .i .i64, .i .i64, .i .i64, .s, .l [.s, .i .i64], .i .i64, .i .i64]
theorem kgb {r : List D} (h : typL kb r) : ∃ x1 x2 x3 x4 x5 x6 x7 x8 x9, r = [.i .i64 x1, .i .i64 x2, .i .i64 x3, .i .i64 x4, .i .i64 x5, .s x6, .l x7, .i .i64 x8, .i .i64 x9] ∧ x6.size ≤ maxLen ∧ x7.length ≤ maxLen ∧ (∀ r ∈ x7, typL ks r) := by
 obtain ⟨_, _, rfl, ⟨x1, rfl, _⟩, ⟨_, _, rfl, ⟨x2, rfl, _⟩, ⟨_, _, rfl, ⟨x3, rfl, _⟩, ⟨_, _, rfl, ⟨x4, rfl, _⟩, ⟨_, _, rfl, ⟨x5, rfl, _⟩, ⟨_, _, rfl, ⟨x6, rfl, wx6⟩, ⟨_, _, rfl, ⟨x7, rfl, wx7, tx7⟩, ⟨_, _, rfl, ⟨x8, rfl, _⟩, ⟨_, _, rfl, ⟨x9, rfl, _⟩, rfl⟩⟩⟩⟩⟩⟩⟩⟩⟩ := h
 exact ⟨x1, x2, x3, x4, x5, x6, x7, x8, x9, rfl, wx6, wx7, tx7⟩
theorem kak (x1 : Int) (x2 : Int) (x3 : Int) (x4 : Int) (x5 : Int) (x6 : ByteArray) (x7 : List (List D)) (x8 : Int) (x9 : Int) (wx7 : x7.length ≤ 1048576) (tx7 : ∀ r ∈ x7, typL ks r) : t120 x1 x2 x3 x4 x5 x6 x7 x8 x9 x1 x2 x3 x4 x5 x6 x7 x8 x9 = some ([.one (.b true)], []) := by
 simp only [t120, ta120, bne_self_eq_false, Bool.not_true, Bool.false_eq_true, if_false, krh x7 wx7 tx7, zr137, zo137, okR, isVs, isV, isD, isDs, isOs, resC, outC, nthR, nthO, cellsDV, nthD, asB, asI, asS, asL, Bool.and_true, Bool.true_and, BEq.rfl, ka, decide_true]
theorem kti (b0 b1 : Bool) (q1 : Int → Bool → Bool → Rs) (q2 : Int → Bool → SV → Rs) (h2 : ∀ a b c, q2 a b c = some ([.one (.b true)], [])) (l : List (List D)) (h : ∀ r ∈ l, typL kb r) (hs : ∀ r ∈ l, szdL kb r) (hl : l.length < 4611686018427387904) : ∀ (k i m : Nat) (v w : SV), i + k = l.length → k < m →
  la83o1 t120 l l b0 b1 q1 q2 m i v w = some ([.one (.b true)], []) := by
 intro k
 induction k with
 | zero =>
  intro i m v w e hm
  obtain ⟨m, rfl⟩ : ∃ m', m = m' + 1 := ⟨m - 1, by omega⟩
  have ei : decide ((i : Int) < (l.length : Int)) = false := by simp; omega
  simp only [la83o1, ei, h2]
  simp
 | succ k ih =>
  intro i m v w e hm
  obtain ⟨m, rfl⟩ : ∃ m', m = m' + 1 := ⟨m - 1, by omega⟩
  have hr := kpc h (i := i) (by omega)
  obtain ⟨c1, c2, c3, c4, c5, c6, c7, c8, c9, er, wc6, wc7, tc7⟩ := kgb hr
  have hso := hs _ (kqb (l := l) (i := i) (by omega))
  rw [er] at hso
  have e1 : decide ((i : Int) < (l.length : Int)) = true := by simp; omega
  have e2 : decide ((0 : Int) ≤ (i : Int)) = true := by simp
  have ez : isRow z64 [.i .i64 c1, .i .i64 c2, .i .i64 c3, .i .i64 c4, .i .i64 c5, .s c6, .l c7, .i .i64 c8, .i .i64 c9] = true := rfl
  have ew : okR zr120 zo120 (some ([.one (.b true)], [])) = true := rfl
  simp only [la83o1, e1, e2, Int.toNat_natCast, er, ez, nthD, asI, asS, asB, asL, kak c1 c2 c3 c4 c5 c6 c7 c8 c9 hso.2.2.2.2.2.2.1.1 tc7, resC, nthR, cellsDV, ew, Bool.and_true, ka, if_true, Bool.not_true, Bool.false_eq_true, if_false]
  rw [kc i (by omega)]
  exact ih (i + 1) m _ _ (by omega) (by omega)
theorem koi (l : List (List D)) (hl : l.length ≤ 1048576) (h : ∀ r ∈ l, typL kb r) (hs : ∀ r ∈ l, szdL kb r) : t83 l l = some ([.one (.b true)], []) := by
 have := kti false false (fun _ _ _ => some ([.one (.b false)], [])) (fun _ _ _ => some ([.one (.b true)], [])) (fun _ _ _ => rfl) l h hs (by omega) l.length 0 KK .undef .undef (by omega) (by rw [kl]; omega)
 simpa [t83, ta83] using this
theorem kvl (x1 : Int) (x2 : List (List D)) (wx2 : x2.length ≤ 1048576) (tx2 : ∀ r ∈ x2, typL kb r) (sx2 : ∀ r ∈ x2, szdL kb r) : t42 x1 x2 x1 x2 = some ([.one (.b true)], []) := by
 simp only [t42, ta42, bne_self_eq_false, Bool.not_true, Bool.false_eq_true, if_false, koi x2 wx2 tx2 sx2, zr83, zo83, okR, isVs, isV, isD, isDs, isOs, resC, outC, nthR, nthO, cellsDV, nthD, asB, asI, asS, asL, Bool.and_true, Bool.true_and, BEq.rfl, ka, decide_true]
theorem kri (x1 : Int) (x2 : ByteArray)  : t121 x1 x2 x1 x2 = some ([.one (.b true)], []) := by
 simp only [t121, bne_self_eq_false, Bool.not_true, Bool.false_eq_true, if_false, okR, isVs, isV, isD, isDs, isOs, resC, outC, nthR, nthO, cellsDV, nthD, asB, asI, asS, asL, Bool.and_true, Bool.true_and, BEq.rfl, ka, decide_true]
abbrev knb : List Sh := [.i .i64, .i .i64, .i .i64, .i .i64, .i .i64]
theorem klk {r : List D} (h : typL knb r) : ∃ x1 x2 x3 x4 x5, r = [.i .i64 x1, .i .i64 x2, .i .i64 x3, .i .i64 x4, .i .i64 x5] := by
 obtain ⟨_, _, rfl, ⟨x1, rfl, _⟩, ⟨_, _, rfl, ⟨x2, rfl, _⟩, ⟨_, _, rfl, ⟨x3, rfl, _⟩, ⟨_, _, rfl, ⟨x4, rfl, _⟩, ⟨_, _, rfl, ⟨x5, rfl, _⟩, rfl⟩⟩⟩⟩⟩ := h
 exact ⟨x1, x2, x3, x4, x5, rfl⟩
theorem kwk (x1 : Int) (x2 : Int) (x3 : Int) (x4 : Int) (x5 : Int)  : t84 x1 x2 x3 x4 x5 x1 x2 x3 x4 x5 = some ([.one (.b true)], []) := by
 simp only [t84, bne_self_eq_false, Bool.not_true, Bool.false_eq_true, if_false, okR, isVs, isV, isD, isDs, isOs, resC, outC, nthR, nthO, cellsDV, nthD, asB, asI, asS, asL, Bool.and_true, Bool.true_and, BEq.rfl, ka, decide_true]
theorem kkj (b0 b1 : Bool) (q1 : Int → Bool → Bool → Rs) (q2 : Int → Bool → SV → Rs) (h2 : ∀ a b c, q2 a b c = some ([.one (.b true)], [])) (l : List (List D)) (h : ∀ r ∈ l, typL knb r) (hl : l.length < 4611686018427387904) : ∀ (k i m : Nat) (v w : SV), i + k = l.length → k < m →
  la43o1 t84 l l b0 b1 q1 q2 m i v w = some ([.one (.b true)], []) := by
 intro k
 induction k with
 | zero =>
  intro i m v w e hm
  obtain ⟨m, rfl⟩ : ∃ m', m = m' + 1 := ⟨m - 1, by omega⟩
  have ei : decide ((i : Int) < (l.length : Int)) = false := by simp; omega
  simp only [la43o1, ei, h2]
  simp
 | succ k ih =>
  intro i m v w e hm
  obtain ⟨m, rfl⟩ : ∃ m', m = m' + 1 := ⟨m - 1, by omega⟩
  have hr := kpc h (i := i) (by omega)
  obtain ⟨c1, c2, c3, c4, c5, er⟩ := klk hr
  have e1 : decide ((i : Int) < (l.length : Int)) = true := by simp; omega
  have e2 : decide ((0 : Int) ≤ (i : Int)) = true := by simp
  have ez : isRow z90 [.i .i64 c1, .i .i64 c2, .i .i64 c3, .i .i64 c4, .i .i64 c5] = true := rfl
  have ew : okR zr84 zo84 (some ([.one (.b true)], [])) = true := rfl
  simp only [la43o1, e1, e2, Int.toNat_natCast, er, ez, nthD, asI, asS, asB, asL, kwk c1 c2 c3 c4 c5, resC, nthR, cellsDV, ew, Bool.and_true, ka, if_true, Bool.not_true, Bool.false_eq_true, if_false]
  rw [kc i (by omega)]
  exact ih (i + 1) m _ _ (by omega) (by omega)
theorem kwj (l : List (List D)) (hl : l.length ≤ 1048576) (h : ∀ r ∈ l, typL knb r) : t43 l l = some ([.one (.b true)], []) := by
 have := kkj false false (fun _ _ _ => some ([.one (.b false)], [])) (fun _ _ _ => some ([.one (.b true)], [])) (fun _ _ _ => rfl) l h (by omega) l.length 0 KK .undef .undef (by omega) (by rw [kl]; omega)
 simpa [t43, ta43] using this
abbrev kcb : List Sh := [.i .i64, .i .i64, .i .i64, .i .i64, .s]
theorem kmg {r : List D} (h : typL kcb r) : ∃ x1 x2 x3 x4 x5, r = [.i .i64 x1, .i .i64 x2, .i .i64 x3, .i .i64 x4, .s x5] ∧ x5.size ≤ maxLen := by
 obtain ⟨_, _, rfl, ⟨x1, rfl, _⟩, ⟨_, _, rfl, ⟨x2, rfl, _⟩, ⟨_, _, rfl, ⟨x3, rfl, _⟩, ⟨_, _, rfl, ⟨x4, rfl, _⟩, ⟨_, _, rfl, ⟨x5, rfl, wx5⟩, rfl⟩⟩⟩⟩⟩ := h
 exact ⟨x1, x2, x3, x4, x5, rfl, wx5⟩
theorem kai (x1 : Int) (x2 : Int) (x3 : Int) (x4 : Int) (x5 : ByteArray)  : t85 x1 x2 x3 x4 x5 x1 x2 x3 x4 x5 = some ([.one (.b true)], []) := by
 simp only [t85, ta85, bne_self_eq_false, Bool.not_true, Bool.false_eq_true, if_false, kri x4 x5 , zr121, zo121, okR, isVs, isV, isD, isDs, isOs, resC, outC, nthR, nthO, cellsDV, nthD, asB, asI, asS, asL, Bool.and_true, Bool.true_and, BEq.rfl, ka, decide_true]
theorem kdh (b0 b1 : Bool) (q1 : Int → Bool → Bool → Rs) (q2 : Int → Bool → SV → Rs) (h2 : ∀ a b c, q2 a b c = some ([.one (.b true)], [])) (l : List (List D)) (h : ∀ r ∈ l, typL kcb r) (hl : l.length < 4611686018427387904) : ∀ (k i m : Nat) (v w : SV), i + k = l.length → k < m →
  la44o1 t85 l l b0 b1 q1 q2 m i v w = some ([.one (.b true)], []) := by
 intro k
 induction k with
 | zero =>
  intro i m v w e hm
  obtain ⟨m, rfl⟩ : ∃ m', m = m' + 1 := ⟨m - 1, by omega⟩
  have ei : decide ((i : Int) < (l.length : Int)) = false := by simp; omega
  simp only [la44o1, ei, h2]
  simp
 | succ k ih =>
  intro i m v w e hm
  obtain ⟨m, rfl⟩ : ∃ m', m = m' + 1 := ⟨m - 1, by omega⟩
  have hr := kpc h (i := i) (by omega)
  obtain ⟨c1, c2, c3, c4, c5, er, wc5⟩ := kmg hr
  have e1 : decide ((i : Int) < (l.length : Int)) = true := by simp; omega
  have e2 : decide ((0 : Int) ≤ (i : Int)) = true := by simp
  have ez : isRow z81 [.i .i64 c1, .i .i64 c2, .i .i64 c3, .i .i64 c4, .s c5] = true := rfl
  have ew : okR zr85 zo85 (some ([.one (.b true)], [])) = true := rfl
  simp only [la44o1, e1, e2, Int.toNat_natCast, er, ez, nthD, asI, asS, asB, asL, kai c1 c2 c3 c4 c5, resC, nthR, cellsDV, ew, Bool.and_true, ka, if_true, Bool.not_true, Bool.false_eq_true, if_false]
  rw [kc i (by omega)]
  exact ih (i + 1) m _ _ (by omega) (by omega)
theorem kih (l : List (List D)) (hl : l.length ≤ 1048576) (h : ∀ r ∈ l, typL kcb r) : t44 l l = some ([.one (.b true)], []) := by
 have := kdh false false (fun _ _ _ => some ([.one (.b false)], [])) (fun _ _ _ => some ([.one (.b true)], [])) (fun _ _ _ => rfl) l h (by omega) l.length 0 KK .undef .undef (by omega) (by rw [kl]; omega)
 simpa [t44, ta44] using this
theorem kxi (x1 : Int) (x2 : List (List D)) (x3 : Int) (x4 : List (List D)) (x5 : List (List D)) (wx2 : x2.length ≤ 1048576) (tx2 : ∀ r ∈ x2, typL kb r) (sx2 : ∀ r ∈ x2, szdL kb r) (wx4 : x4.length ≤ 1048576) (tx4 : ∀ r ∈ x4, typL knb r) (wx5 : x5.length ≤ 1048576) (tx5 : ∀ r ∈ x5, typL kcb r) : t14 x1 x2 x3 x4 x5 x1 x2 x3 x4 x5 = some ([.one (.b true)], []) := by
 simp only [t14, ta14, bne_self_eq_false, Bool.not_true, Bool.false_eq_true, if_false, kvl x1 x2 wx2 tx2 sx2, kwj x4 wx4 tx4, kih x5 wx5 tx5, zr42, zo42, zr43, zo43, zr44, zo44, okR, isVs, isV, isD, isDs, isOs, resC, outC, nthR, nthO, cellsDV, nthD, asB, asI, asS, asL, Bool.and_true, Bool.true_and, BEq.rfl, ka, decide_true]
theorem kui (s7 : ByteArray) (b9 : Bool) (q1 : Int → ByteArray → Bool → Rs) (h1 : ∀ n (s : ByteArray) b, s.size ≤ 1000 → ∃ x, q1 n s b = some ([.one (.s x)], [])) : ∀ (k m : Nat) (n : Int) (s : ByteArray) (v : SV), 0 ≤ n → n < 10 ^ k → n < 4611686018427387904 → k < m → s.size + k ≤ 1000 →
  ∃ x, l86o1 s7 b9 q1 m n s v = some ([.one (.s x)], []) := by
 intro k
 induction k with
 | zero =>
  intro m n s v h0 hn h2 hm hs
  obtain ⟨m, rfl⟩ : ∃ m', m = m' + 1 := ⟨m - 1, by omega⟩
  have e : decide (n > 0) = false := by simp; omega
  simp only [l86o1, e, Bool.false_eq_true, if_false]
  exact h1 _ _ _ (by omega)
 | succ k ih =>
  intro m n s v h0 hn h2 hm hs
  obtain ⟨m, rfl⟩ : ∃ m', m = m' + 1 := ⟨m - 1, by omega⟩
  by_cases e : n > 0
  ·have e' : decide (n > 0) = true := decide_eq_true e
   have hb : ∀ x : Int, isBytes [[D.i .u8 x]] = true := fun _ => rfl
   have hz : ∀ x : Int, (⟨(bytesD [[D.i .u8 x]]).toArray⟩ : ByteArray).size = 1 := fun _ => rfl
   simp only [l86o1, e', if_true, hb, ka, hz]
   rw [kfd (decide_eq_true (by unfold lim; omega)), Int.tdiv_eq_ediv_of_nonneg h0, ki (n / 10) (by omega)]
   refine ih m (n / 10) _ _ (by omega) ?_ (by omega) (by omega) (by rw [ByteArray.size_append, hz]; omega)
   rw [Int.ediv_lt_iff_lt_mul (by omega)]
   rw [Int.pow_succ] at hn
   exact hn
  ·have e' : decide (n > 0) = false := decide_eq_false e
   simp only [l86o1, e', Bool.false_eq_true, if_false]
   exact h1 _ _ _ (by omega)
noncomputable def mkT (k : Int) : ByteArray := asS (resC (t86 k) 0 0)
theorem kqc (k : Int) (h : k < 4611686018427387904) : t86 k = some ([.one (.s (mkT k))], []) := by
 have : ∃ x, t86 k = some ([.one (.s x)], []) := by
  unfold t86
  by_cases e : k ≤ 0
  ·have e' : decide (k ≤ 0) = true := decide_eq_true e
   simp only [e', if_true]; exact ⟨_, rfl⟩
  ·have e' : decide (k ≤ 0) = false := decide_eq_false e
   simp only [e', Bool.false_eq_true, if_false]
   refine kui _ _ _ ?_ 20 KK k _ _ (by omega) (by omega) h (by rw [kl]; omega) (by show 0 + 20 ≤ 1000; omega)
   intro n s b hs
   have e0 : (⟨#[109]⟩ : ByteArray).size = 1 := rfl
   simp only [e0]
   rw [kfd (decide_eq_true (by unfold lim; omega))]
   exact ⟨_, rfl⟩
 obtain ⟨x, hx⟩ := this
 have : mkT k = x := by unfold mkT; rw [hx]; rfl
 rw [this, hx]
theorem kzc {x : ByteArray} : okR zr86 zo86 (some ([.one (.s x)], [])) = true := rfl
theorem kxc {x : ByteArray} : asS (resC (some ([.one (.s x)], [])) 0 0) = x := rfl
theorem kpb (a b : List (List D)) (r ys : List D) (i off : Nat) (h : i = a.length) : stR (a ++ r :: b) i off ys = a ++ (r.take off ++ ys ++ r.drop (off + ys.length)) :: b := by
 subst h; unfold stR; exact kbh _ a r b
theorem kqe (a b : List (List D)) (r : List D) (i : Nat) (h : i = a.length) : (a ++ r :: b).getD i [] = r := by
 subst h; simp [List.getD]
theorem kpe : ∀ (es : List Sh) (r : List D), typL es r → r.length = es.length
 | [], r, h => by rw [show r = [] from h]; rfl
 | e :: es, r, h => by
  obtain ⟨d, r', rfl, _, h⟩ := h
  simp only [List.length_cons, kpe es r' h]
theorem kmo {n : Nat} {xs : List (List D)} (h : ∀ r ∈ xs, r.length = n) : fstSz n xs = true := by
 unfold fstSz
 cases xs with
 | nil => simp
 | cons r b => simpa using h r (by simp)
theorem kvo (a b : List (List D)) (i : Nat) (h : i = a.length) (c1 c2 d : D) : stR (a ++ [c1, c2] :: b) i 0 [d] = a ++ [d, c2] :: b := kpb a b _ _ i 0 h
theorem kzo (a b : List (List D)) (i : Nat) (h : i = a.length) (c1 c2 d : D) : stR (a ++ [c1, c2] :: b) i 1 [d] = a ++ [c1, d] :: b := kpb a b _ _ i 1 h
theorem len2 {r : List D} (h : r.length = 2) : ∃ c1 c2, r = [c1, c2] := by
 match r, h with
 | [c1, c2], _ => exact ⟨c1, c2, rfl⟩
noncomputable def kmb (k : Int) : List D := [.s (mkT (k)), .i .i64 (k + 1)]
noncomputable def kw : Int → List (List D) → List (List D)
 | _, [] => []
 | k, _ :: b => kmb k :: kw (k + 1 + 1) b
theorem ksg (n8 : Int) (q : Int → Int → Bool → List (List D) → Rs) (hq : ∀ a b c d, q a b c d = some ([.one (.i .i64 a)], [[.l d]])) : ∀ (b a : List (List D)) (m : Nat) (k : Int) (v0 : SV), (∀ r ∈ b, r.length = 2) → b.length < m → a.length + b.length ≤ 4000000 → 0 ≤ k → k + 2 * (b.length : Int) ≤ 4000000000000000000 →
  la87o0 t86 n8 q m k (a.length : Int) v0 (a ++ b) = some ([.one (.i .i64 (k + 2 * (b.length : Int)))], [[.l (a ++ kw k b)]]) := by
 intro b
 induction b with
 | nil =>
  intro a m k v0 h hm hl h0 hk
  obtain ⟨m, rfl⟩ : ∃ m', m = m' + 1 := ⟨m - 1, by omega⟩
  have e : decide ((a.length : Int) < ((a ++ ([] : List (List D))).length : Int)) = false := by simp
  have e2 : k + 2 * ((([] : List (List D)).length : Nat) : Int) = k := by simp
  simp only [la87o0, e, Bool.false_eq_true, if_false, hq, e2, kw]
 | cons r b ih =>
  intro a m k v0 h hm hl h0 hk
  obtain ⟨m, rfl⟩ : ∃ m', m = m' + 1 := ⟨m - 1, by omega⟩
  simp only [List.length_cons] at hm hl hk
  obtain ⟨c1, c2, rfl⟩ := len2 (h r (List.mem_cons_self ..))
  have hb : ∀ r ∈ b, r.length = 2 := fun r hr => h r (List.mem_cons_of_mem _ hr)
  have e1 : ∀ r : List D, decide ((a.length : Int) < ((a ++ r :: b).length : Int)) = true := fun r => decide_eq_true (by simp; omega)
  have e0 : decide (0 ≤ (a.length : Int)) = true := decide_eq_true (by omega)
  have p1 : ∀ r : List D, decide (1 ≤ 2 ∧ a.length < (a ++ r :: b).length) = true := fun r => decide_eq_true (by simp)
  have p2 : ∀ r : List D, decide (2 ≤ 2 ∧ a.length < (a ++ r :: b).length) = true := fun r => decide_eq_true (by simp)
  have u1 : w64 (k + 1) = k + 1 := ki _ (by omega)
  have u2 : w64 (k + 1 + 1) = k + 1 + 1 := ki _ (by omega)
  have t0 := kqc (k) (by omega)
  have hw := kc a.length (by omega)
  simp only [la87o0, e1, e0, if_true, Int.toNat_natCast, p1, p2, u1, u2, t0, kzc, kxc, kvo a b _ rfl, kzo a b _ rfl, Bool.and_true, ka, hw]
  have := fun (z0 : SV) => ih (a ++ [kmb k]) m (k + 1 + 1) z0 hb (by omega) (by simp; omega) (by omega) (by omega)
  have e3 : (a ++ [kmb k]).length = a.length + 1 := by simp
  simp only [e3, List.append_assoc] at this
  have e4 : k + 2 * ((([c1, c2] :: b).length : Nat) : Int) = k + 1 + 1 + 2 * (b.length : Int) := by simp only [List.length_cons]; omega
  have e5 : a ++ kw k ([c1, c2] :: b) = (a ++ [kmb k]) ++ kw (k + 1 + 1) b := by simp [kw]
  rw [e4, e5, List.append_assoc]
  exact this _
theorem kuh (l : List (List D)) (h : ∀ r ∈ l, r.length = 2) (hl : l.length ≤ 4000000) (k : Int) (h0 : 0 ≤ k) (hk : k + 2 * (l.length : Int) ≤ 4000000000000000000) : t87 l k = some ([.one (.i .i64 (k + 2 * (l.length : Int)))], [[.l (kw k l)]]) := by
 unfold t87 ta87
 exact ksg _ _ (fun _ _ _ _ => rfl) l [] KK k _ h (by rw [kl]; omega) (by simpa using hl) h0 hk
theorem kpg (n9 : Int) (q1 : Int → Int → Bool → Bool → SV → Rs) (q2 : Int → Int → Bool → Bool → Bool → Rs) (q3 : Int → Int → Bool → SV → SV → Rs) (hq : ∀ x0 x1 x2 x3 x4, q3 x0 x1 x2 x3 x4 = some ([.one (.i .i64 x0)], [])) : ∀ (b a : List (List D)) (m : Nat) (k : Int) (v0 v1 v2 : SV) (L : List (List D)) (i : Int), L = a ++ kw k b → i = (a.length : Int) → b.length < m → a.length + b.length ≤ 4000000 → 0 ≤ k → k + 2 * (b.length : Int) ≤ 4000000000000000000 →
  la88o0 t86 L n9 q1 q2 q3 m k i v0 v1 v2 = some ([.one (.i .i64 (k + 2 * (b.length : Int)))], []) := by
 intro b
 induction b with
 | nil =>
  intro a m k v0 v1 v2 L i hL hi hm hl h0 hk
  subst hL hi
  obtain ⟨m, rfl⟩ : ∃ m', m = m' + 1 := ⟨m - 1, by omega⟩
  have e : decide ((a.length : Int) < ((a ++ ([] : List (List D))).length : Int)) = false := by simp
  have e2 : k + 2 * ((([] : List (List D)).length : Nat) : Int) = k := by simp
  rw [show kw k [] = [] from rfl]
  simp only [la88o0, e, Bool.false_eq_true, if_false, hq, e2]
 | cons r b ih =>
  intro a m k v0 v1 v2 L i hL hi hm hl h0 hk
  subst hL hi
  obtain ⟨m, rfl⟩ : ∃ m', m = m' + 1 := ⟨m - 1, by omega⟩
  simp only [List.length_cons] at hm hl hk
  have e1 : ∀ (r : List D) (b : List (List D)), decide ((a.length : Int) < ((a ++ r :: b).length : Int)) = true := fun r b => decide_eq_true (by simp; omega)
  have e0 : decide (0 ≤ (a.length : Int)) = true := decide_eq_true (by omega)
  have eg : ∀ (r : List D) (b : List (List D)), (a ++ r :: b).getD a.length [] = r := fun r b => kqe a b r _ rfl
  have u1 : w64 (k + 1) = k + 1 := ki _ (by omega)
  have u2 : w64 (k + 1 + 1) = k + 1 + 1 := ki _ (by omega)
  have t0 := kqc (k) (by omega)
  have hw := kc a.length (by omega)
  have this := fun (z0 : SV) (z1 : SV) (z2 : SV) => ih (a ++ [kmb k]) m (k + 1 + 1) z0 z1 z2 _ _ rfl rfl (by omega) (by simp; omega) (by omega) (by omega)
  have e3 : (a ++ [kmb k]).length = a.length + 1 := by simp
  simp only [e3, List.append_assoc] at this
  have e4 : k + 2 * (((r :: b).length : Nat) : Int) = k + 1 + 1 + 2 * (b.length : Int) := by simp only [List.length_cons]; omega
  have e5 : a ++ kw k (r :: b) = a ++ kmb k :: kw (k + 1 + 1) b := rfl
  rw [e5]
  have ez : isRow z129 (kmb k) = true := rfl
  have d0 : asS (nthD (kmb k) 0) = mkT (k) := rfl
  have d1 : asI (nthD (kmb k) 1) = k + 1 := rfl
  simp only [la88o0, e1, e0, if_true, Int.toNat_natCast, eg, ez, d0, d1, u1, u2, t0, kzc, kxc, bne_self_eq_false, beq_self_eq_true, Bool.not_true, Bool.false_eq_true, if_false, Bool.and_true, ka, hw]
  rw [e4]
  exact this _ _ _
theorem kvh (l : List (List D)) (hl : l.length ≤ 4000000) (k : Int) (h0 : 0 ≤ k) (hk : k + 2 * (l.length : Int) ≤ 4000000000000000000) : t88 (kw k l) k = some ([.one (.i .i64 (k + 2 * (l.length : Int)))], []) := by
 unfold t88 ta88
 exact kpg _ _ _ _ (fun _ _ _ _ _ => rfl) l [] KK k _ _ _ _ _ rfl rfl (by rw [kl]; omega) (by simpa using hl) h0 hk
noncomputable def ky (k : Int) (r : List D) : List D := [.i .i64 (k), .i .i64 (k + 1), .i .i64 (k + 1 + 1), .i .i64 (k + 1 + 1 + 1), .i .i64 (k + 1 + 1 + 1 + 1), .s (mkT (k + 1 + 1 + 1 + 1 + 1)), .l (kw (k + 1 + 1 + 1 + 1 + 1 + 1) (asL (nthD r 6))), .i .i64 (k + 1 + 1 + 1 + 1 + 1 + 1 + 2 * (((asL (nthD r 6))).length : Int)), .i .i64 (k + 1 + 1 + 1 + 1 + 1 + 1 + 2 * (((asL (nthD r 6))).length : Int) + 1)]
def kcc (r : List D) : Int := 8 + 2 * (((asL (nthD r 6))).length : Int)
noncomputable def kr : Int → List (List D) → List (List D)
 | _, [] => []
 | k, r :: b => ky k r :: kr (k + kcc r) b
def kh : List (List D) → Int
 | [] => 0
 | r :: b => kcc r + kh b
theorem ksb : ∀ (b : List (List D)), 0 ≤ kh b
 | [] => by simp [kh]
 | r :: b => by
  have h := ksb b
  simp only [kh, kcc]
  omega
theorem kjc : ∀ (b : List (List D)), (∀ r ∈ b, typL kb r) → (∀ r ∈ b, szdL kb r) → kh b ≤ 2097160 * (b.length : Int)
 | [], _, _ => by simp [kh]
 | r :: b, h, hs => by
  have ih := kjc b (fun r hr => h r (List.mem_cons_of_mem _ hr)) (fun r hr => hs r (List.mem_cons_of_mem _ hr))
  have hz := hs r (List.mem_cons_self ..)
  obtain ⟨x1, x2, x3, x4, x5, x6, x7, x8, x9, rfl, wx6, wx7, tx7⟩ := kgb (h r (List.mem_cons_self ..))
  have sx7 : x7.length ≤ 1048576 ∧ ∀ r ∈ x7, szdL ks r := hz.2.2.2.2.2.2.1
  have lx7 := sx7.1
  simp only [kh, kcc, nthD, asL, List.length_cons]
  omega
theorem kto (a b : List (List D)) (i : Nat) (h : i = a.length) (c1 c2 c3 c4 c5 c6 c7 c8 c9 d : D) : stR (a ++ [c1, c2, c3, c4, c5, c6, c7, c8, c9] :: b) i 0 [d] = a ++ [d, c2, c3, c4, c5, c6, c7, c8, c9] :: b := kpb a b _ _ i 0 h
theorem kwo (a b : List (List D)) (i : Nat) (h : i = a.length) (c1 c2 c3 c4 c5 c6 c7 c8 c9 d : D) : stR (a ++ [c1, c2, c3, c4, c5, c6, c7, c8, c9] :: b) i 1 [d] = a ++ [c1, d, c3, c4, c5, c6, c7, c8, c9] :: b := kpb a b _ _ i 1 h
theorem kuo (a b : List (List D)) (i : Nat) (h : i = a.length) (c1 c2 c3 c4 c5 c6 c7 c8 c9 d : D) : stR (a ++ [c1, c2, c3, c4, c5, c6, c7, c8, c9] :: b) i 2 [d] = a ++ [c1, c2, d, c4, c5, c6, c7, c8, c9] :: b := kpb a b _ _ i 2 h
theorem kro (a b : List (List D)) (i : Nat) (h : i = a.length) (c1 c2 c3 c4 c5 c6 c7 c8 c9 d : D) : stR (a ++ [c1, c2, c3, c4, c5, c6, c7, c8, c9] :: b) i 3 [d] = a ++ [c1, c2, c3, d, c5, c6, c7, c8, c9] :: b := kpb a b _ _ i 3 h
theorem kbp (a b : List (List D)) (i : Nat) (h : i = a.length) (c1 c2 c3 c4 c5 c6 c7 c8 c9 d : D) : stR (a ++ [c1, c2, c3, c4, c5, c6, c7, c8, c9] :: b) i 4 [d] = a ++ [c1, c2, c3, c4, d, c6, c7, c8, c9] :: b := kpb a b _ _ i 4 h
theorem kxo (a b : List (List D)) (i : Nat) (h : i = a.length) (c1 c2 c3 c4 c5 c6 c7 c8 c9 d : D) : stR (a ++ [c1, c2, c3, c4, c5, c6, c7, c8, c9] :: b) i 5 [d] = a ++ [c1, c2, c3, c4, c5, d, c7, c8, c9] :: b := kpb a b _ _ i 5 h
theorem kso (a b : List (List D)) (i : Nat) (h : i = a.length) (c1 c2 c3 c4 c5 c6 c7 c8 c9 d : D) : stR (a ++ [c1, c2, c3, c4, c5, c6, c7, c8, c9] :: b) i 6 [d] = a ++ [c1, c2, c3, c4, c5, c6, d, c8, c9] :: b := kpb a b _ _ i 6 h
theorem kyo (a b : List (List D)) (i : Nat) (h : i = a.length) (c1 c2 c3 c4 c5 c6 c7 c8 c9 d : D) : stR (a ++ [c1, c2, c3, c4, c5, c6, c7, c8, c9] :: b) i 7 [d] = a ++ [c1, c2, c3, c4, c5, c6, c7, d, c9] :: b := kpb a b _ _ i 7 h
theorem kqo (a b : List (List D)) (i : Nat) (h : i = a.length) (c1 c2 c3 c4 c5 c6 c7 c8 c9 d : D) : stR (a ++ [c1, c2, c3, c4, c5, c6, c7, c8, c9] :: b) i 8 [d] = a ++ [c1, c2, c3, c4, c5, c6, c7, c8, d] :: b := kpb a b _ _ i 8 h
theorem kkh (n8 : Int) (q : Int → Int → Bool → List (List D) → Rs) (hq : ∀ a b c d, q a b c d = some ([.one (.i .i64 a)], [[.l d]])) : ∀ (b a : List (List D)) (m : Nat) (k : Int) (v0 : SV), (∀ r ∈ b, typL kb r) → (∀ r ∈ b, szdL kb r) → b.length < m → a.length + b.length ≤ 4000000 → 0 ≤ k → k + kh b ≤ 4000000000000000000 →
  la51o0 t86 t87 n8 q m k (a.length : Int) v0 (a ++ b) = some ([.one (.i .i64 (k + kh b))], [[.l (a ++ kr k b)]]) := by
 intro b
 induction b with
 | nil =>
  intro a m k v0 h hs hm hl h0 hk
  obtain ⟨m, rfl⟩ : ∃ m', m = m' + 1 := ⟨m - 1, by omega⟩
  have e : decide ((a.length : Int) < ((a ++ ([] : List (List D))).length : Int)) = false := by simp
  have e2 : k + kh [] = k := by simp [kh]
  simp only [la51o0, e, Bool.false_eq_true, if_false, hq, e2, kr]
 | cons r b ih =>
  intro a m k v0 h hs hm hl h0 hk
  obtain ⟨m, rfl⟩ : ∃ m', m = m' + 1 := ⟨m - 1, by omega⟩
  simp only [List.length_cons] at hm hl
  have hz := hs r (List.mem_cons_self ..)
  obtain ⟨x1, x2, x3, x4, x5, x6, x7, x8, x9, rfl, wx6, wx7, tx7⟩ := kgb (h r (List.mem_cons_self ..))
  have hb : ∀ r ∈ b, typL kb r := fun r hr => h r (List.mem_cons_of_mem _ hr)
  have hb2 : ∀ r ∈ b, szdL kb r := fun r hr => hs r (List.mem_cons_of_mem _ hr)
  have sx7 : x7.length ≤ 1048576 ∧ ∀ r ∈ x7, szdL ks r := hz.2.2.2.2.2.2.1
  have lx7 := sx7.1
  have nb := ksb b
  have e6 : k + kcc [.i .i64 x1, .i .i64 x2, .i .i64 x3, .i .i64 x4, .i .i64 x5, .s x6, .l x7, .i .i64 x8, .i .i64 x9] = k + 1 + 1 + 1 + 1 + 1 + 1 + 2 * (x7.length : Int) + 1 + 1 := by simp only [kcc, nthD, asL]; omega
  have e7 : k + kh ([.i .i64 x1, .i .i64 x2, .i .i64 x3, .i .i64 x4, .i .i64 x5, .s x6, .l x7, .i .i64 x8, .i .i64 x9] :: b) = k + 1 + 1 + 1 + 1 + 1 + 1 + 2 * (x7.length : Int) + 1 + 1 + kh b := by rw [kh, ← Int.add_assoc, e6]
  rw [e7] at hk
  have e1 : ∀ r : List D, decide ((a.length : Int) < ((a ++ r :: b).length : Int)) = true := fun r => decide_eq_true (by simp; omega)
  have e0 : decide (0 ≤ (a.length : Int)) = true := decide_eq_true (by omega)
  have eg : ∀ (r : List D), (a ++ r :: b).getD a.length [] = r := fun r => kqe a b r _ rfl
  have p0 : ∀ r : List D, decide (1 ≤ 9 ∧ a.length < (a ++ r :: b).length) = true := fun r => decide_eq_true (by simp)
  have p1 : ∀ r : List D, decide (2 ≤ 9 ∧ a.length < (a ++ r :: b).length) = true := fun r => decide_eq_true (by simp)
  have p2 : ∀ r : List D, decide (3 ≤ 9 ∧ a.length < (a ++ r :: b).length) = true := fun r => decide_eq_true (by simp)
  have p3 : ∀ r : List D, decide (4 ≤ 9 ∧ a.length < (a ++ r :: b).length) = true := fun r => decide_eq_true (by simp)
  have p4 : ∀ r : List D, decide (5 ≤ 9 ∧ a.length < (a ++ r :: b).length) = true := fun r => decide_eq_true (by simp)
  have p5 : ∀ r : List D, decide (6 ≤ 9 ∧ a.length < (a ++ r :: b).length) = true := fun r => decide_eq_true (by simp)
  have p7 : ∀ r : List D, decide (8 ≤ 9 ∧ a.length < (a ++ r :: b).length) = true := fun r => decide_eq_true (by simp)
  have p8 : ∀ r : List D, decide (9 ≤ 9 ∧ a.length < (a ++ r :: b).length) = true := fun r => decide_eq_true (by simp)
  have u0 : w64 (k + 1) = k + 1 := ki _ (by omega)
  have u1 : w64 (k + 1 + 1) = k + 1 + 1 := ki _ (by omega)
  have u2 : w64 (k + 1 + 1 + 1) = k + 1 + 1 + 1 := ki _ (by omega)
  have u3 : w64 (k + 1 + 1 + 1 + 1) = k + 1 + 1 + 1 + 1 := ki _ (by omega)
  have u4 : w64 (k + 1 + 1 + 1 + 1 + 1) = k + 1 + 1 + 1 + 1 + 1 := ki _ (by omega)
  have u5 : w64 (k + 1 + 1 + 1 + 1 + 1 + 1) = k + 1 + 1 + 1 + 1 + 1 + 1 := ki _ (by omega)
  have u7 : w64 (k + 1 + 1 + 1 + 1 + 1 + 1 + 2 * (x7.length : Int) + 1) = k + 1 + 1 + 1 + 1 + 1 + 1 + 2 * (x7.length : Int) + 1 := ki _ (by omega)
  have u8 : w64 (k + 1 + 1 + 1 + 1 + 1 + 1 + 2 * (x7.length : Int) + 1 + 1) = k + 1 + 1 + 1 + 1 + 1 + 1 + 2 * (x7.length : Int) + 1 + 1 := ki _ (by omega)
  have t5 := kqc (k + 1 + 1 + 1 + 1 + 1) (by omega)
  have m6 := kuh x7 (fun r hr => kpe _ r (tx7 r hr)) (by omega) (k + 1 + 1 + 1 + 1 + 1 + 1) (by omega) (by omega)
  have f6 : fstSz 2 x7 = true := kmo (fun r hr => kpe _ r (tx7 r hr))
  have o6 : ∀ z (y : List (List D)), okR zr87 zo87 (some ([.one (.i .i64 z)], [[.l y]])) = true := fun _ _ => rfl
  have v6 : ∀ z (y : List (List D)), asL (outC (some ([.one (.i .i64 z)], [[.l y]])) 0 0) = y := fun _ _ => rfl
  have i6 : ∀ z (y : List (List D)), asI (resC (some ([.one (.i .i64 z)], [[.l y]])) 0 0) = z := fun _ _ => rfl
  have d6 : ∀ c1 c2 c3 c4 c5 c6 c8 c9 : D, asL (nthD [c1, c2, c3, c4, c5, c6, .l x7, c8, c9] 6) = x7 := fun _ _ _ _ _ _ _ _ => rfl
  have h6 : ∀ c1 c2 c3 c4 c5 c6 c8 c9 : D, decide (7 ≤ ([c1, c2, c3, c4, c5, c6, .l x7, c8, c9] : List D).length) = true := fun _ _ _ _ _ _ _ _ => rfl
  have k6 : ∀ c1 c2 c3 c4 c5 c6 c8 c9 : D, isF [.l []] 6 [c1, c2, c3, c4, c5, c6, .l x7, c8, c9] = true := fun _ _ _ _ _ _ _ _ => rfl
  have hw := kc a.length (by omega)
  simp only [la51o0, e1, e0, eg, if_true, Int.toNat_natCast, p0, p1, p2, p3, p4, p5, p7, p8, u0, u1, u2, u3, u4, u5, u7, u8, t5, kzc, kxc, kto a b _ rfl, kwo a b _ rfl, kuo a b _ rfl, kro a b _ rfl, kbp a b _ rfl, kxo a b _ rfl, kso a b _ rfl, kyo a b _ rfl, kqo a b _ rfl, m6, f6, o6, v6, i6, d6, h6, k6, Bool.and_true, ka, hw]
  have := fun (z0 : SV) => ih (a ++ [ky k [.i .i64 x1, .i .i64 x2, .i .i64 x3, .i .i64 x4, .i .i64 x5, .s x6, .l x7, .i .i64 x8, .i .i64 x9]]) m (k + 1 + 1 + 1 + 1 + 1 + 1 + 2 * (x7.length : Int) + 1 + 1) z0 hb hb2 (by omega) (by simp; omega) (by omega) (by omega)
  have e3 : (a ++ [ky k [.i .i64 x1, .i .i64 x2, .i .i64 x3, .i .i64 x4, .i .i64 x5, .s x6, .l x7, .i .i64 x8, .i .i64 x9]]).length = a.length + 1 := by simp
  simp only [e3, List.append_assoc] at this
  have e5 : a ++ kr k ([.i .i64 x1, .i .i64 x2, .i .i64 x3, .i .i64 x4, .i .i64 x5, .s x6, .l x7, .i .i64 x8, .i .i64 x9] :: b) = (a ++ [ky k [.i .i64 x1, .i .i64 x2, .i .i64 x3, .i .i64 x4, .i .i64 x5, .s x6, .l x7, .i .i64 x8, .i .i64 x9]]) ++ kr (k + 1 + 1 + 1 + 1 + 1 + 1 + 2 * (x7.length : Int) + 1 + 1) b := by rw [kr, e6, List.append_assoc]; rfl
  rw [e7, e5, List.append_assoc]
  exact this _
theorem kvi (l : List (List D)) (h : ∀ r ∈ l, typL kb r) (hs : ∀ r ∈ l, szdL kb r) (hl : l.length ≤ 4000000) (k : Int) (h0 : 0 ≤ k) (hk : k + kh l ≤ 4000000000000000000) : t51 l k = some ([.one (.i .i64 (k + kh l))], [[.l (kr k l)]]) := by
 unfold t51 ta51
 exact kkh _ _ (fun _ _ _ _ => rfl) l [] KK k _ h hs (by rw [kl]; omega) (by simpa using hl) h0 hk
theorem gz0 : ∀ z, okR zr88 zo88 (some ([.one (.i .i64 z)], [])) = true := fun _ => id rfl
theorem gz1 : ∀ z, asI (resC (some ([.one (.i .i64 z)], [])) 0 0) = z := fun _ => id rfl
theorem kch (n9 : Int) (q1 : Int → Int → Bool → Bool → SV → SV → SV → SV → SV → SV → SV → SV → Rs) (q2 : Int → Int → Bool → Bool → Bool → SV → SV → SV → SV → SV → SV → SV → Rs) (q3 : Int → Int → Bool → Bool → Bool → Bool → SV → SV → SV → SV → SV → SV → Rs) (q4 : Int → Int → Bool → Bool → Bool → Bool → Bool → SV → SV → SV → SV → SV → Rs) (q5 : Int → Int → Bool → Bool → Bool → Bool → Bool → Bool → SV → SV → SV → SV → Rs) (q6 : Int → Int → Bool → Bool → Bool → Bool → Bool → Bool → Bool → SV → SV → SV → Rs) (q7 : Int → Int → Bool → Bool → Bool → Bool → Bool → Bool → Bool → Bool → SV → SV → Rs) (q8 : Int → Int → Bool → Bool → Bool → Bool → Bool → Bool → Bool → Bool → Bool → SV → Rs) (q9 : Int → Int → Bool → Bool → Bool → Bool → Bool → Bool → Bool → Bool → Bool → Bool → Rs) (q10 : Int → Int → Bool → SV → SV → SV → SV → SV → SV → SV → SV → SV → Rs) (hq : ∀ z0 z1 z2 z3 z4 z5 z6 z7 z8 z9 z10 z11, q10 z0 z1 z2 z3 z4 z5 z6 z7 z8 z9 z10 z11 = some ([.one (.i .i64 z0)], [])) : ∀ (b a : List (List D)) (m : Nat) (k : Int) (v0 v1 v2 v3 v4 v5 v6 v7 v8 v9 : SV) (L : List (List D)) (i : Int), (∀ r ∈ b, typL kb r) → (∀ r ∈ b, szdL kb r) → L = a ++ kr k b → i = (a.length : Int) → b.length < m → a.length + b.length ≤ 4000000 → 0 ≤ k → k + kh b ≤ 4000000000000000000 →
  la52o0 t86 t88 L n9 q1 q2 q3 q4 q5 q6 q7 q8 q9 q10 m k i v0 v1 v2 v3 v4 v5 v6 v7 v8 v9 = some ([.one (.i .i64 (k + kh b))], []) := by
 intro b
 induction b with
 | nil =>
  intro a m k v0 v1 v2 v3 v4 v5 v6 v7 v8 v9 L i h hs hL hi hm hl h0 hk
  subst hL hi
  obtain ⟨m, rfl⟩ : ∃ m', m = m' + 1 := ⟨m - 1, by omega⟩
  have e : decide ((a.length : Int) < ((a ++ ([] : List (List D))).length : Int)) = false := by simp
  have e2 : k + kh [] = k := by simp [kh]
  rw [show kr k [] = [] from rfl]
  simp only [la52o0, e, Bool.false_eq_true, if_false, hq, e2]
 | cons r b ih =>
  intro a m k v0 v1 v2 v3 v4 v5 v6 v7 v8 v9 L i h hs hL hi hm hl h0 hk
  subst hL hi
  obtain ⟨m, rfl⟩ : ∃ m', m = m' + 1 := ⟨m - 1, by omega⟩
  simp only [List.length_cons] at hm hl
  have hz := hs r (List.mem_cons_self ..)
  obtain ⟨x1, x2, x3, x4, x5, x6, x7, x8, x9, rfl, wx6, wx7, tx7⟩ := kgb (h r (List.mem_cons_self ..))
  have hb : ∀ r ∈ b, typL kb r := fun r hr => h r (List.mem_cons_of_mem _ hr)
  have hb2 : ∀ r ∈ b, szdL kb r := fun r hr => hs r (List.mem_cons_of_mem _ hr)
  have sx7 : x7.length ≤ 1048576 ∧ ∀ r ∈ x7, szdL ks r := hz.2.2.2.2.2.2.1
  have lx7 := sx7.1
  have nb := ksb b
  have e6 : k + kcc [.i .i64 x1, .i .i64 x2, .i .i64 x3, .i .i64 x4, .i .i64 x5, .s x6, .l x7, .i .i64 x8, .i .i64 x9] = k + 1 + 1 + 1 + 1 + 1 + 1 + 2 * (x7.length : Int) + 1 + 1 := by simp only [kcc, nthD, asL]; omega
  have e7 : k + kh ([.i .i64 x1, .i .i64 x2, .i .i64 x3, .i .i64 x4, .i .i64 x5, .s x6, .l x7, .i .i64 x8, .i .i64 x9] :: b) = k + 1 + 1 + 1 + 1 + 1 + 1 + 2 * (x7.length : Int) + 1 + 1 + kh b := by rw [kh, ← Int.add_assoc, e6]
  rw [e7] at hk
  have e1 : ∀ (r : List D) (b : List (List D)), decide ((a.length : Int) < ((a ++ r :: b).length : Int)) = true := fun r b => decide_eq_true (by simp; omega)
  have e0 : decide (0 ≤ (a.length : Int)) = true := decide_eq_true (by omega)
  have eg : ∀ (r : List D) (b : List (List D)), (a ++ r :: b).getD a.length [] = r := fun r b => kqe a b r _ rfl
  have u0 : w64 (k + 1) = k + 1 := ki _ (by omega)
  have u1 : w64 (k + 1 + 1) = k + 1 + 1 := ki _ (by omega)
  have u2 : w64 (k + 1 + 1 + 1) = k + 1 + 1 + 1 := ki _ (by omega)
  have u3 : w64 (k + 1 + 1 + 1 + 1) = k + 1 + 1 + 1 + 1 := ki _ (by omega)
  have u4 : w64 (k + 1 + 1 + 1 + 1 + 1) = k + 1 + 1 + 1 + 1 + 1 := ki _ (by omega)
  have u5 : w64 (k + 1 + 1 + 1 + 1 + 1 + 1) = k + 1 + 1 + 1 + 1 + 1 + 1 := ki _ (by omega)
  have u7 : w64 (k + 1 + 1 + 1 + 1 + 1 + 1 + 2 * (x7.length : Int) + 1) = k + 1 + 1 + 1 + 1 + 1 + 1 + 2 * (x7.length : Int) + 1 := ki _ (by omega)
  have u8 : w64 (k + 1 + 1 + 1 + 1 + 1 + 1 + 2 * (x7.length : Int) + 1 + 1) = k + 1 + 1 + 1 + 1 + 1 + 1 + 2 * (x7.length : Int) + 1 + 1 := ki _ (by omega)
  have t5 := kqc (k + 1 + 1 + 1 + 1 + 1) (by omega)
  have m6 := kvh x7 (by omega) (k + 1 + 1 + 1 + 1 + 1 + 1) (by omega) (by omega)
  have n6 : decide (k + 1 + 1 + 1 + 1 + 1 + 1 + 2 * (x7.length : Int) < 0) = false := decide_eq_false (by omega)
  have hw := kc a.length (by omega)
  have this := fun (z0 : SV) (z1 : SV) (z2 : SV) (z3 : SV) (z4 : SV) (z5 : SV) (z6 : SV) (z7 : SV) (z8 : SV) (z9 : SV) => ih (a ++ [ky k [.i .i64 x1, .i .i64 x2, .i .i64 x3, .i .i64 x4, .i .i64 x5, .s x6, .l x7, .i .i64 x8, .i .i64 x9]]) m (k + 1 + 1 + 1 + 1 + 1 + 1 + 2 * (x7.length : Int) + 1 + 1) z0 z1 z2 z3 z4 z5 z6 z7 z8 z9 _ _ hb hb2 rfl rfl (by omega) (by simp; omega) (by omega) (by omega)
  have e3 : (a ++ [ky k [.i .i64 x1, .i .i64 x2, .i .i64 x3, .i .i64 x4, .i .i64 x5, .s x6, .l x7, .i .i64 x8, .i .i64 x9]]).length = a.length + 1 := by simp
  simp only [e3, List.append_assoc] at this
  have e5 : a ++ kr k ([.i .i64 x1, .i .i64 x2, .i .i64 x3, .i .i64 x4, .i .i64 x5, .s x6, .l x7, .i .i64 x8, .i .i64 x9] :: b) = a ++ ky k [.i .i64 x1, .i .i64 x2, .i .i64 x3, .i .i64 x4, .i .i64 x5, .s x6, .l x7, .i .i64 x8, .i .i64 x9] :: kr (k + 1 + 1 + 1 + 1 + 1 + 1 + 2 * (x7.length : Int) + 1 + 1) b := by rw [kr, e6]
  rw [e5]
  have ez : isRow z64 (ky k [.i .i64 x1, .i .i64 x2, .i .i64 x3, .i .i64 x4, .i .i64 x5, .s x6, .l x7, .i .i64 x8, .i .i64 x9]) = true := rfl
  have d0 : asI (nthD (ky k [.i .i64 x1, .i .i64 x2, .i .i64 x3, .i .i64 x4, .i .i64 x5, .s x6, .l x7, .i .i64 x8, .i .i64 x9]) 0) = (k) := rfl
  have d1 : asI (nthD (ky k [.i .i64 x1, .i .i64 x2, .i .i64 x3, .i .i64 x4, .i .i64 x5, .s x6, .l x7, .i .i64 x8, .i .i64 x9]) 1) = (k + 1) := rfl
  have d2 : asI (nthD (ky k [.i .i64 x1, .i .i64 x2, .i .i64 x3, .i .i64 x4, .i .i64 x5, .s x6, .l x7, .i .i64 x8, .i .i64 x9]) 2) = (k + 1 + 1) := rfl
  have d3 : asI (nthD (ky k [.i .i64 x1, .i .i64 x2, .i .i64 x3, .i .i64 x4, .i .i64 x5, .s x6, .l x7, .i .i64 x8, .i .i64 x9]) 3) = (k + 1 + 1 + 1) := rfl
  have d4 : asI (nthD (ky k [.i .i64 x1, .i .i64 x2, .i .i64 x3, .i .i64 x4, .i .i64 x5, .s x6, .l x7, .i .i64 x8, .i .i64 x9]) 4) = (k + 1 + 1 + 1 + 1) := rfl
  have d5 : asS (nthD (ky k [.i .i64 x1, .i .i64 x2, .i .i64 x3, .i .i64 x4, .i .i64 x5, .s x6, .l x7, .i .i64 x8, .i .i64 x9]) 5) = (mkT (k + 1 + 1 + 1 + 1 + 1)) := rfl
  have d6 : asL (nthD (ky k [.i .i64 x1, .i .i64 x2, .i .i64 x3, .i .i64 x4, .i .i64 x5, .s x6, .l x7, .i .i64 x8, .i .i64 x9]) 6) = (kw (k + 1 + 1 + 1 + 1 + 1 + 1) x7) := rfl
  have d7 : asI (nthD (ky k [.i .i64 x1, .i .i64 x2, .i .i64 x3, .i .i64 x4, .i .i64 x5, .s x6, .l x7, .i .i64 x8, .i .i64 x9]) 7) = (k + 1 + 1 + 1 + 1 + 1 + 1 + 2 * (x7.length : Int)) := rfl
  have d8 : asI (nthD (ky k [.i .i64 x1, .i .i64 x2, .i .i64 x3, .i .i64 x4, .i .i64 x5, .s x6, .l x7, .i .i64 x8, .i .i64 x9]) 8) = (k + 1 + 1 + 1 + 1 + 1 + 1 + 2 * (x7.length : Int) + 1) := rfl
  simp only [la52o0, e1, e0, if_true, Int.toNat_natCast, eg, ez, d0, d1, d2, d3, d4, d5, d6, d7, d8, u0, u1, u2, u3, u4, u5, u7, u8, t5, kzc, kxc, m6, gz0, gz1, n6, bne_self_eq_false, beq_self_eq_true, Bool.not_true, Bool.false_eq_true, if_false, Bool.and_true, ka, hw]
  rw [e7]
  exact this _ _ _ _ _ _ _ _ _ _
theorem kyi (l : List (List D)) (h : ∀ r ∈ l, typL kb r) (hs : ∀ r ∈ l, szdL kb r) (hl : l.length ≤ 4000000) (k : Int) (h0 : 0 ≤ k) (hk : k + kh l ≤ 4000000000000000000) : t52 (kr k l) k = some ([.one (.i .i64 (k + kh l))], []) := by
 unfold t52 ta52
 exact kch _ _ _ _ _ _ _ _ _ _ _ (fun _ _ _ _ _ _ _ _ _ _ _ _ => rfl) l [] KK k _ _ _ _ _ _ _ _ _ _ _ _ h hs rfl rfl (by rw [kl]; omega) (by simpa using hl) h0 hk
theorem ktn (a b : List (List D)) (i : Nat) (h : i = a.length) (c1 c2 c3 c4 c5 d : D) : stR (a ++ [c1, c2, c3, c4, c5] :: b) i 0 [d] = a ++ [d, c2, c3, c4, c5] :: b := kpb a b _ _ i 0 h
theorem kyn (a b : List (List D)) (i : Nat) (h : i = a.length) (c1 c2 c3 c4 c5 d : D) : stR (a ++ [c1, c2, c3, c4, c5] :: b) i 1 [d] = a ++ [c1, d, c3, c4, c5] :: b := kpb a b _ _ i 1 h
theorem kxn (a b : List (List D)) (i : Nat) (h : i = a.length) (c1 c2 c3 c4 c5 d : D) : stR (a ++ [c1, c2, c3, c4, c5] :: b) i 2 [d] = a ++ [c1, c2, d, c4, c5] :: b := kpb a b _ _ i 2 h
theorem kwn (a b : List (List D)) (i : Nat) (h : i = a.length) (c1 c2 c3 c4 c5 d : D) : stR (a ++ [c1, c2, c3, c4, c5] :: b) i 3 [d] = a ++ [c1, c2, c3, d, c5] :: b := kpb a b _ _ i 3 h
theorem kvn (a b : List (List D)) (i : Nat) (h : i = a.length) (c1 c2 c3 c4 c5 d : D) : stR (a ++ [c1, c2, c3, c4, c5] :: b) i 4 [d] = a ++ [c1, c2, c3, c4, d] :: b := kpb a b _ _ i 4 h
theorem len5 {r : List D} (h : r.length = 5) : ∃ c1 c2 c3 c4 c5, r = [c1, c2, c3, c4, c5] := by
 match r, h with
 | [c1, c2, c3, c4, c5], _ => exact ⟨c1, c2, c3, c4, c5, rfl⟩
noncomputable def kkb (k : Int) : List D := [.i .i64 (k), .i .i64 (k + 1), .i .i64 (k + 1 + 1), .i .i64 (k + 1 + 1 + 1), .i .i64 (k + 1 + 1 + 1 + 1)]
noncomputable def kbb : Int → List (List D) → List (List D)
 | _, [] => []
 | k, _ :: b => kkb k :: kbb (k + 1 + 1 + 1 + 1 + 1) b
theorem kth (n8 : Int) (q : Int → Int → Bool → List (List D) → Rs) (hq : ∀ a b c d, q a b c d = some ([.one (.i .i64 a)], [[.l d]])) : ∀ (b a : List (List D)) (m : Nat) (k : Int) (v0 : SV), (∀ r ∈ b, r.length = 5) → b.length < m → a.length + b.length ≤ 4000000 → 0 ≤ k → k + 5 * (b.length : Int) ≤ 4000000000000000000 →
  l46o0 n8 q m k (a.length : Int) v0 (a ++ b) = some ([.one (.i .i64 (k + 5 * (b.length : Int)))], [[.l (a ++ kbb k b)]]) := by
 intro b
 induction b with
 | nil =>
  intro a m k v0 h hm hl h0 hk
  obtain ⟨m, rfl⟩ : ∃ m', m = m' + 1 := ⟨m - 1, by omega⟩
  have e : decide ((a.length : Int) < ((a ++ ([] : List (List D))).length : Int)) = false := by simp
  have e2 : k + 5 * ((([] : List (List D)).length : Nat) : Int) = k := by simp
  simp only [l46o0, e, Bool.false_eq_true, if_false, hq, e2, kbb]
 | cons r b ih =>
  intro a m k v0 h hm hl h0 hk
  obtain ⟨m, rfl⟩ : ∃ m', m = m' + 1 := ⟨m - 1, by omega⟩
  simp only [List.length_cons] at hm hl hk
  obtain ⟨c1, c2, c3, c4, c5, rfl⟩ := len5 (h r (List.mem_cons_self ..))
  have hb : ∀ r ∈ b, r.length = 5 := fun r hr => h r (List.mem_cons_of_mem _ hr)
  have e1 : ∀ r : List D, decide ((a.length : Int) < ((a ++ r :: b).length : Int)) = true := fun r => decide_eq_true (by simp; omega)
  have e0 : decide (0 ≤ (a.length : Int)) = true := decide_eq_true (by omega)
  have p1 : ∀ r : List D, decide (1 ≤ 5 ∧ a.length < (a ++ r :: b).length) = true := fun r => decide_eq_true (by simp)
  have p2 : ∀ r : List D, decide (2 ≤ 5 ∧ a.length < (a ++ r :: b).length) = true := fun r => decide_eq_true (by simp)
  have p3 : ∀ r : List D, decide (3 ≤ 5 ∧ a.length < (a ++ r :: b).length) = true := fun r => decide_eq_true (by simp)
  have p4 : ∀ r : List D, decide (4 ≤ 5 ∧ a.length < (a ++ r :: b).length) = true := fun r => decide_eq_true (by simp)
  have p5 : ∀ r : List D, decide (5 ≤ 5 ∧ a.length < (a ++ r :: b).length) = true := fun r => decide_eq_true (by simp)
  have u1 : w64 (k + 1) = k + 1 := ki _ (by omega)
  have u2 : w64 (k + 1 + 1) = k + 1 + 1 := ki _ (by omega)
  have u3 : w64 (k + 1 + 1 + 1) = k + 1 + 1 + 1 := ki _ (by omega)
  have u4 : w64 (k + 1 + 1 + 1 + 1) = k + 1 + 1 + 1 + 1 := ki _ (by omega)
  have u5 : w64 (k + 1 + 1 + 1 + 1 + 1) = k + 1 + 1 + 1 + 1 + 1 := ki _ (by omega)
  have hw := kc a.length (by omega)
  simp only [l46o0, e1, e0, if_true, Int.toNat_natCast, p1, p2, p3, p4, p5, u1, u2, u3, u4, u5, ktn a b _ rfl, kyn a b _ rfl, kxn a b _ rfl, kwn a b _ rfl, kvn a b _ rfl, Bool.and_true, ka, hw]
  have := fun (z0 : SV) => ih (a ++ [kkb k]) m (k + 1 + 1 + 1 + 1 + 1) z0 hb (by omega) (by simp; omega) (by omega) (by omega)
  have e3 : (a ++ [kkb k]).length = a.length + 1 := by simp
  simp only [e3, List.append_assoc] at this
  have e4 : k + 5 * ((([c1, c2, c3, c4, c5] :: b).length : Nat) : Int) = k + 1 + 1 + 1 + 1 + 1 + 5 * (b.length : Int) := by simp only [List.length_cons]; omega
  have e5 : a ++ kbb k ([c1, c2, c3, c4, c5] :: b) = (a ++ [kkb k]) ++ kbb (k + 1 + 1 + 1 + 1 + 1) b := by simp [kbb]
  rw [e4, e5, List.append_assoc]
  exact this _
theorem kxj (l : List (List D)) (h : ∀ r ∈ l, r.length = 5) (hl : l.length ≤ 4000000) (k : Int) (h0 : 0 ≤ k) (hk : k + 5 * (l.length : Int) ≤ 4000000000000000000) : t46 l k = some ([.one (.i .i64 (k + 5 * (l.length : Int)))], [[.l (kbb k l)]]) := by
 unfold t46
 exact kth _ _ (fun _ _ _ _ => rfl) l [] KK k _ h (by rw [kl]; omega) (by simpa using hl) h0 hk
theorem kwh (n9 : Int) (q1 : Int → Int → Bool → Bool → SV → SV → SV → SV → Rs) (q2 : Int → Int → Bool → Bool → Bool → SV → SV → SV → Rs) (q3 : Int → Int → Bool → Bool → Bool → Bool → SV → SV → Rs) (q4 : Int → Int → Bool → Bool → Bool → Bool → Bool → SV → Rs) (q5 : Int → Int → Bool → Bool → Bool → Bool → Bool → Bool → Rs) (q6 : Int → Int → Bool → SV → SV → SV → SV → SV → Rs) (hq : ∀ x0 x1 x2 x3 x4 x5 x6 x7, q6 x0 x1 x2 x3 x4 x5 x6 x7 = some ([.one (.i .i64 x0)], [])) : ∀ (b a : List (List D)) (m : Nat) (k : Int) (v0 v1 v2 v3 v4 v5 : SV) (L : List (List D)) (i : Int), L = a ++ kbb k b → i = (a.length : Int) → b.length < m → a.length + b.length ≤ 4000000 → 0 ≤ k → k + 5 * (b.length : Int) ≤ 4000000000000000000 →
  l49o0 L n9 q1 q2 q3 q4 q5 q6 m k i v0 v1 v2 v3 v4 v5 = some ([.one (.i .i64 (k + 5 * (b.length : Int)))], []) := by
 intro b
 induction b with
 | nil =>
  intro a m k v0 v1 v2 v3 v4 v5 L i hL hi hm hl h0 hk
  subst hL hi
  obtain ⟨m, rfl⟩ : ∃ m', m = m' + 1 := ⟨m - 1, by omega⟩
  have e : decide ((a.length : Int) < ((a ++ ([] : List (List D))).length : Int)) = false := by simp
  have e2 : k + 5 * ((([] : List (List D)).length : Nat) : Int) = k := by simp
  rw [show kbb k [] = [] from rfl]
  simp only [l49o0, e, Bool.false_eq_true, if_false, hq, e2]
 | cons r b ih =>
  intro a m k v0 v1 v2 v3 v4 v5 L i hL hi hm hl h0 hk
  subst hL hi
  obtain ⟨m, rfl⟩ : ∃ m', m = m' + 1 := ⟨m - 1, by omega⟩
  simp only [List.length_cons] at hm hl hk
  have e1 : ∀ (r : List D) (b : List (List D)), decide ((a.length : Int) < ((a ++ r :: b).length : Int)) = true := fun r b => decide_eq_true (by simp; omega)
  have e0 : decide (0 ≤ (a.length : Int)) = true := decide_eq_true (by omega)
  have eg : ∀ (r : List D) (b : List (List D)), (a ++ r :: b).getD a.length [] = r := fun r b => kqe a b r _ rfl
  have u1 : w64 (k + 1) = k + 1 := ki _ (by omega)
  have u2 : w64 (k + 1 + 1) = k + 1 + 1 := ki _ (by omega)
  have u3 : w64 (k + 1 + 1 + 1) = k + 1 + 1 + 1 := ki _ (by omega)
  have u4 : w64 (k + 1 + 1 + 1 + 1) = k + 1 + 1 + 1 + 1 := ki _ (by omega)
  have u5 : w64 (k + 1 + 1 + 1 + 1 + 1) = k + 1 + 1 + 1 + 1 + 1 := ki _ (by omega)
  have hw := kc a.length (by omega)
  have this := fun (z0 : SV) (z1 : SV) (z2 : SV) (z3 : SV) (z4 : SV) (z5 : SV) => ih (a ++ [kkb k]) m (k + 1 + 1 + 1 + 1 + 1) z0 z1 z2 z3 z4 z5 _ _ rfl rfl (by omega) (by simp; omega) (by omega) (by omega)
  have e3 : (a ++ [kkb k]).length = a.length + 1 := by simp
  simp only [e3, List.append_assoc] at this
  have e4 : k + 5 * (((r :: b).length : Nat) : Int) = k + 1 + 1 + 1 + 1 + 1 + 5 * (b.length : Int) := by simp only [List.length_cons]; omega
  have e5 : a ++ kbb k (r :: b) = a ++ kkb k :: kbb (k + 1 + 1 + 1 + 1 + 1) b := rfl
  rw [e5]
  have ez : isRow z90 (kkb k) = true := rfl
  have d0 : asI (nthD (kkb k) 0) = k := rfl
  have d1 : asI (nthD (kkb k) 1) = k + 1 := rfl
  have d2 : asI (nthD (kkb k) 2) = k + 1 + 1 := rfl
  have d3 : asI (nthD (kkb k) 3) = k + 1 + 1 + 1 := rfl
  have d4 : asI (nthD (kkb k) 4) = k + 1 + 1 + 1 + 1 := rfl
  simp only [l49o0, e1, e0, if_true, Int.toNat_natCast, eg, ez, d0, d1, d2, d3, d4, u1, u2, u3, u4, u5, bne_self_eq_false, beq_self_eq_true, Bool.not_true, Bool.false_eq_true, if_false, Bool.and_true, ka, hw]
  rw [e4]
  exact this _ _ _ _ _ _
theorem koj (l : List (List D)) (hl : l.length ≤ 4000000) (k : Int) (h0 : 0 ≤ k) (hk : k + 5 * (l.length : Int) ≤ 4000000000000000000) : t49 (kbb k l) k = some ([.one (.i .i64 (k + 5 * (l.length : Int)))], []) := by
 unfold t49
 exact kwh _ _ _ _ _ _ _ (fun _ _ _ _ _ _ _ _ => rfl) l [] KK k _ _ _ _ _ _ _ _ rfl rfl (by rw [kl]; omega) (by simpa using hl) h0 hk
noncomputable def kz (k : Int) : List D := [.i .i64 (k), .i .i64 (k + 1), .i .i64 (k + 1 + 1), .i .i64 (k + 1 + 1 + 1), .s (mkT (k + 1 + 1 + 1 + 1))]
noncomputable def ku : Int → List (List D) → List (List D)
 | _, [] => []
 | k, _ :: b => kz k :: ku (k + 1 + 1 + 1 + 1 + 1) b
theorem kkg (n8 : Int) (q : Int → Int → Bool → List (List D) → Rs) (hq : ∀ a b c d, q a b c d = some ([.one (.i .i64 a)], [[.l d]])) : ∀ (b a : List (List D)) (m : Nat) (k : Int) (v0 : SV), (∀ r ∈ b, r.length = 5) → b.length < m → a.length + b.length ≤ 4000000 → 0 ≤ k → k + 5 * (b.length : Int) ≤ 4000000000000000000 →
  la47o0 t86 n8 q m k (a.length : Int) v0 (a ++ b) = some ([.one (.i .i64 (k + 5 * (b.length : Int)))], [[.l (a ++ ku k b)]]) := by
 intro b
 induction b with
 | nil =>
  intro a m k v0 h hm hl h0 hk
  obtain ⟨m, rfl⟩ : ∃ m', m = m' + 1 := ⟨m - 1, by omega⟩
  have e : decide ((a.length : Int) < ((a ++ ([] : List (List D))).length : Int)) = false := by simp
  have e2 : k + 5 * ((([] : List (List D)).length : Nat) : Int) = k := by simp
  simp only [la47o0, e, Bool.false_eq_true, if_false, hq, e2, ku]
 | cons r b ih =>
  intro a m k v0 h hm hl h0 hk
  obtain ⟨m, rfl⟩ : ∃ m', m = m' + 1 := ⟨m - 1, by omega⟩
  simp only [List.length_cons] at hm hl hk
  obtain ⟨c1, c2, c3, c4, c5, rfl⟩ := len5 (h r (List.mem_cons_self ..))
  have hb : ∀ r ∈ b, r.length = 5 := fun r hr => h r (List.mem_cons_of_mem _ hr)
  have e1 : ∀ r : List D, decide ((a.length : Int) < ((a ++ r :: b).length : Int)) = true := fun r => decide_eq_true (by simp; omega)
  have e0 : decide (0 ≤ (a.length : Int)) = true := decide_eq_true (by omega)
  have p1 : ∀ r : List D, decide (1 ≤ 5 ∧ a.length < (a ++ r :: b).length) = true := fun r => decide_eq_true (by simp)
  have p2 : ∀ r : List D, decide (2 ≤ 5 ∧ a.length < (a ++ r :: b).length) = true := fun r => decide_eq_true (by simp)
  have p3 : ∀ r : List D, decide (3 ≤ 5 ∧ a.length < (a ++ r :: b).length) = true := fun r => decide_eq_true (by simp)
  have p4 : ∀ r : List D, decide (4 ≤ 5 ∧ a.length < (a ++ r :: b).length) = true := fun r => decide_eq_true (by simp)
  have p5 : ∀ r : List D, decide (5 ≤ 5 ∧ a.length < (a ++ r :: b).length) = true := fun r => decide_eq_true (by simp)
  have u1 : w64 (k + 1) = k + 1 := ki _ (by omega)
  have u2 : w64 (k + 1 + 1) = k + 1 + 1 := ki _ (by omega)
  have u3 : w64 (k + 1 + 1 + 1) = k + 1 + 1 + 1 := ki _ (by omega)
  have u4 : w64 (k + 1 + 1 + 1 + 1) = k + 1 + 1 + 1 + 1 := ki _ (by omega)
  have u5 : w64 (k + 1 + 1 + 1 + 1 + 1) = k + 1 + 1 + 1 + 1 + 1 := ki _ (by omega)
  have t4 := kqc (k + 1 + 1 + 1 + 1) (by omega)
  have hw := kc a.length (by omega)
  simp only [la47o0, e1, e0, if_true, Int.toNat_natCast, p1, p2, p3, p4, p5, u1, u2, u3, u4, u5, t4, kzc, kxc, ktn a b _ rfl, kyn a b _ rfl, kxn a b _ rfl, kwn a b _ rfl, kvn a b _ rfl, Bool.and_true, ka, hw]
  have := fun (z0 : SV) => ih (a ++ [kz k]) m (k + 1 + 1 + 1 + 1 + 1) z0 hb (by omega) (by simp; omega) (by omega) (by omega)
  have e3 : (a ++ [kz k]).length = a.length + 1 := by simp
  simp only [e3, List.append_assoc] at this
  have e4 : k + 5 * ((([c1, c2, c3, c4, c5] :: b).length : Nat) : Int) = k + 1 + 1 + 1 + 1 + 1 + 5 * (b.length : Int) := by simp only [List.length_cons]; omega
  have e5 : a ++ ku k ([c1, c2, c3, c4, c5] :: b) = (a ++ [kz k]) ++ ku (k + 1 + 1 + 1 + 1 + 1) b := by simp [ku]
  rw [e4, e5, List.append_assoc]
  exact this _
theorem kjh (l : List (List D)) (h : ∀ r ∈ l, r.length = 5) (hl : l.length ≤ 4000000) (k : Int) (h0 : 0 ≤ k) (hk : k + 5 * (l.length : Int) ≤ 4000000000000000000) : t47 l k = some ([.one (.i .i64 (k + 5 * (l.length : Int)))], [[.l (ku k l)]]) := by
 unfold t47 ta47
 exact kkg _ _ (fun _ _ _ _ => rfl) l [] KK k _ h (by rw [kl]; omega) (by simpa using hl) h0 hk
theorem klg (n9 : Int) (q1 : Int → Int → Bool → Bool → SV → SV → SV → SV → Rs) (q2 : Int → Int → Bool → Bool → Bool → SV → SV → SV → Rs) (q3 : Int → Int → Bool → Bool → Bool → Bool → SV → SV → Rs) (q4 : Int → Int → Bool → Bool → Bool → Bool → Bool → SV → Rs) (q5 : Int → Int → Bool → Bool → Bool → Bool → Bool → Bool → Rs) (q6 : Int → Int → Bool → SV → SV → SV → SV → SV → Rs) (hq : ∀ x0 x1 x2 x3 x4 x5 x6 x7, q6 x0 x1 x2 x3 x4 x5 x6 x7 = some ([.one (.i .i64 x0)], [])) : ∀ (b a : List (List D)) (m : Nat) (k : Int) (v0 v1 v2 v3 v4 v5 : SV) (L : List (List D)) (i : Int), L = a ++ ku k b → i = (a.length : Int) → b.length < m → a.length + b.length ≤ 4000000 → 0 ≤ k → k + 5 * (b.length : Int) ≤ 4000000000000000000 →
  la50o0 t86 L n9 q1 q2 q3 q4 q5 q6 m k i v0 v1 v2 v3 v4 v5 = some ([.one (.i .i64 (k + 5 * (b.length : Int)))], []) := by
 intro b
 induction b with
 | nil =>
  intro a m k v0 v1 v2 v3 v4 v5 L i hL hi hm hl h0 hk
  subst hL hi
  obtain ⟨m, rfl⟩ : ∃ m', m = m' + 1 := ⟨m - 1, by omega⟩
  have e : decide ((a.length : Int) < ((a ++ ([] : List (List D))).length : Int)) = false := by simp
  have e2 : k + 5 * ((([] : List (List D)).length : Nat) : Int) = k := by simp
  rw [show ku k [] = [] from rfl]
  simp only [la50o0, e, Bool.false_eq_true, if_false, hq, e2]
 | cons r b ih =>
  intro a m k v0 v1 v2 v3 v4 v5 L i hL hi hm hl h0 hk
  subst hL hi
  obtain ⟨m, rfl⟩ : ∃ m', m = m' + 1 := ⟨m - 1, by omega⟩
  simp only [List.length_cons] at hm hl hk
  have e1 : ∀ (r : List D) (b : List (List D)), decide ((a.length : Int) < ((a ++ r :: b).length : Int)) = true := fun r b => decide_eq_true (by simp; omega)
  have e0 : decide (0 ≤ (a.length : Int)) = true := decide_eq_true (by omega)
  have eg : ∀ (r : List D) (b : List (List D)), (a ++ r :: b).getD a.length [] = r := fun r b => kqe a b r _ rfl
  have u1 : w64 (k + 1) = k + 1 := ki _ (by omega)
  have u2 : w64 (k + 1 + 1) = k + 1 + 1 := ki _ (by omega)
  have u3 : w64 (k + 1 + 1 + 1) = k + 1 + 1 + 1 := ki _ (by omega)
  have u4 : w64 (k + 1 + 1 + 1 + 1) = k + 1 + 1 + 1 + 1 := ki _ (by omega)
  have u5 : w64 (k + 1 + 1 + 1 + 1 + 1) = k + 1 + 1 + 1 + 1 + 1 := ki _ (by omega)
  have t4 := kqc (k + 1 + 1 + 1 + 1) (by omega)
  have hw := kc a.length (by omega)
  have this := fun (z0 : SV) (z1 : SV) (z2 : SV) (z3 : SV) (z4 : SV) (z5 : SV) => ih (a ++ [kz k]) m (k + 1 + 1 + 1 + 1 + 1) z0 z1 z2 z3 z4 z5 _ _ rfl rfl (by omega) (by simp; omega) (by omega) (by omega)
  have e3 : (a ++ [kz k]).length = a.length + 1 := by simp
  simp only [e3, List.append_assoc] at this
  have e4 : k + 5 * (((r :: b).length : Nat) : Int) = k + 1 + 1 + 1 + 1 + 1 + 5 * (b.length : Int) := by simp only [List.length_cons]; omega
  have e5 : a ++ ku k (r :: b) = a ++ kz k :: ku (k + 1 + 1 + 1 + 1 + 1) b := rfl
  rw [e5]
  have ez : isRow z81 (kz k) = true := rfl
  have d0 : asI (nthD (kz k) 0) = k := rfl
  have d1 : asI (nthD (kz k) 1) = k + 1 := rfl
  have d2 : asI (nthD (kz k) 2) = k + 1 + 1 := rfl
  have d3 : asI (nthD (kz k) 3) = k + 1 + 1 + 1 := rfl
  have d4 : asS (nthD (kz k) 4) = mkT (k + 1 + 1 + 1 + 1) := rfl
  simp only [la50o0, e1, e0, if_true, Int.toNat_natCast, eg, ez, d0, d1, d2, d3, d4, u1, u2, u3, u4, u5, t4, kzc, kxc, bne_self_eq_false, beq_self_eq_true, Bool.not_true, Bool.false_eq_true, if_false, Bool.and_true, ka, hw]
  rw [e4]
  exact this _ _ _ _ _ _
theorem kzg (l : List (List D)) (hl : l.length ≤ 4000000) (k : Int) (h0 : 0 ≤ k) (hk : k + 5 * (l.length : Int) ≤ 4000000000000000000) : t50 (ku k l) k = some ([.one (.i .i64 (k + 5 * (l.length : Int)))], []) := by
 unfold t50 ta50
 exact klg _ _ _ _ _ _ _ (fun _ _ _ _ _ _ _ _ => rfl) l [] KK k _ _ _ _ _ _ _ _ rfl rfl (by rw [kl]; omega) (by simpa using hl) h0 hk
theorem kzl (x1 : Int) (x2 : List (List D)) (tx2 : ∀ r ∈ x2, typL kb r) (sx2 : ∀ r ∈ x2, szdL kb r) (wx2 : x2.length ≤ 1048576) (k : Int) (h0 : 0 ≤ k) (hk : k ≤ 1000000000000) : t45 x1 x2 k = some ([.one (.i .i64 (k + kh x2))], [[.i .i64 x1, .l (kr (k) x2)]]) := by
 have bx2 := kjc x2 tx2 sx2; have nx2 := ksb x2
 simp only [t45, ta45, kvi x2 tx2 sx2 (by omega) (k) (by omega) (by omega), zr51, zo51, okR, isVs, isV, isD, isDs, isOs, resC, outC, nthR, nthO, cellsDV, nthD, asB, asI, asS, asL, Bool.and_true, Bool.true_and, BEq.rfl, ka, decide_true]
theorem kml (x1 : Int) (x2 : List (List D)) (tx2 : ∀ r ∈ x2, typL kb r) (sx2 : ∀ r ∈ x2, szdL kb r) (wx2 : x2.length ≤ 1048576) (k : Int) (h0 : 0 ≤ k) (hk : k ≤ 1000000000000) : t48 x1 (kr (k) x2) k = some ([.one (.i .i64 (k + kh x2))], []) := by
 have bx2 := kjc x2 tx2 sx2; have nx2 := ksb x2
 have n0 : decide (k + kh x2 < 0) = false := decide_eq_false (by omega)
 simp only [t48, ta48, kyi x2 tx2 sx2 (by omega) (k) (by omega) (by omega), zr52, zo52, n0, Bool.false_eq_true, if_false, okR, isVs, isV, isD, isDs, isOs, resC, outC, nthR, nthO, cellsDV, nthD, asB, asI, asS, asL, Bool.and_true, Bool.true_and, BEq.rfl, ka, decide_true]
theorem kwi (x1 : Int) (x2 : List (List D)) (x3 : Int) (x4 : List (List D)) (x5 : List (List D)) (tx2 : ∀ r ∈ x2, typL kb r) (sx2 : ∀ r ∈ x2, szdL kb r) (wx2 : x2.length ≤ 1048576) (mx4 : ∀ r ∈ x4, r.length = 5) (wx4 : x4.length ≤ 1048576) (mx5 : ∀ r ∈ x5, r.length = 5) (wx5 : x5.length ≤ 1048576) (k : Int) (h0 : 0 ≤ k) (hk : k ≤ 1000000000000) : t15 x1 x2 x3 x4 x5 k = some ([.one (.i .i64 (k + kh x2 + 5 * (x4.length : Int) + 5 * (x5.length : Int)))], [[.i .i64 x1, .l (kr (k) x2), .i .i64 x3, .l (kbb (k + kh x2) x4), .l (ku (k + kh x2 + 5 * (x4.length : Int)) x5)]]) := by
 have bx2 := kjc x2 tx2 sx2; have nx2 := ksb x2
 simp only [t15, ta15, kzl x1 x2 tx2 sx2 wx2 (k) (by omega) (by omega), kxj x4 mx4 (by omega) (k + kh x2) (by omega) (by omega), kjh x5 mx5 (by omega) (k + kh x2 + 5 * (x4.length : Int)) (by omega) (by omega), zr45, zo45, zr46, zo46, zr47, zo47, okR, isVs, isV, isD, isDs, isOs, resC, outC, nthR, nthO, cellsDV, nthD, asB, asI, asS, asL, Bool.and_true, Bool.true_and, BEq.rfl, ka, decide_true]
theorem kni (x1 : Int) (x2 : List (List D)) (x3 : Int) (x4 : List (List D)) (x5 : List (List D)) (tx2 : ∀ r ∈ x2, typL kb r) (sx2 : ∀ r ∈ x2, szdL kb r) (wx2 : x2.length ≤ 1048576) (mx4 : ∀ r ∈ x4, r.length = 5) (wx4 : x4.length ≤ 1048576) (mx5 : ∀ r ∈ x5, r.length = 5) (wx5 : x5.length ≤ 1048576) (k : Int) (h0 : 0 ≤ k) (hk : k ≤ 1000000000000) : t16 x1 (kr (k) x2) x3 (kbb (k + kh x2) x4) (ku (k + kh x2 + 5 * (x4.length : Int)) x5) k = some ([.one (.i .i64 (k + kh x2 + 5 * (x4.length : Int) + 5 * (x5.length : Int)))], []) := by
 have bx2 := kjc x2 tx2 sx2; have nx2 := ksb x2
 have n0 : decide (k + kh x2 < 0) = false := decide_eq_false (by omega)
 have n1 : decide (k + kh x2 + 5 * (x4.length : Int) < 0) = false := decide_eq_false (by omega)
 have n2 : decide (k + kh x2 + 5 * (x4.length : Int) + 5 * (x5.length : Int) < 0) = false := decide_eq_false (by omega)
 simp only [t16, ta16, kml x1 x2 tx2 sx2 wx2 (k) (by omega) (by omega), koj x4 (by omega) (k + kh x2) (by omega) (by omega), kzg x5 (by omega) (k + kh x2 + 5 * (x4.length : Int)) (by omega) (by omega), zr48, zo48, zr49, zo49, zr50, zo50, n0, n1, n2, Bool.false_eq_true, if_false, okR, isVs, isV, isD, isDs, isOs, resC, outC, nthR, nthO, cellsDV, nthD, asB, asI, asS, asL, Bool.and_true, Bool.true_and, BEq.rfl, ka, decide_true]
end Go.Den.L10

namespace Go.Den.L10.Vq
inductive Reach {α : Type} (tg : α → List α) (s : α) : α → Prop
 | base {d : α} : d ∈ tg s → Reach tg s d
 | step {x d : α} : Reach tg s x → d ∈ tg x → Reach tg s d
theorem kfk {α : Type} {tg : α → List α} {s : α} {B : List α} (h : ∀ x ∈ s :: B, ∀ d ∈ tg x, d ∈ B) : ∀ d, Reach tg s d → d ∈ B := by
 intro d r
 induction r with
 | base hd => exact h _ (by simp) _ hd
 | step _ hd ih => exact h _ (by simp [ih]) _ hd
def ins (o : List Int) : List Int → List Int
 | [] => o
 | d :: ds => ins (if d ∈ o then o else o ++ [d]) ds
theorem kdg : ∀ {ds o : List Int} {x : Int}, x ∈ ins o ds ↔ x ∈ o ∨ x ∈ ds
 | [], o, x => by simp [ins]
 | d :: ds, o, x => by
  rw [ins, kdg]
  by_cases h : d ∈ o
  ·simp only [h, if_true, List.mem_cons]
   constructor
   ·rintro (a | a) <;> simp [a]
   ·rintro (a | a | a)
    ·exact .inl a
    ·exact .inl (a ▸ h)
    ·exact .inr a
  ·simp [h, or_assoc]
theorem kei : ∀ {ds o : List Int}, o.Nodup → (ins o ds).Nodup
 | [], _, h => h
 | d :: ds, o, h => by
  rw [ins]
  refine kei ?_
  by_cases hd : d ∈ o
  ·simpa [hd] using h
  ·simp only [hd, if_false]
   rw [List.nodup_append]
   exact ⟨h, by simp, by intro a ha b hb; simp at hb; subst hb; intro e; exact hd (e ▸ ha)⟩
theorem ins_pre : ∀ {ds o : List Int}, o <+: ins o ds
 | [], o => List.prefix_refl o
 | d :: ds, o => by
  rw [ins]
  refine List.IsPrefix.trans ?_ ins_pre
  by_cases hd : d ∈ o
  ·simp [hd]
  ·simp [hd]
structure Inv (tg : Int → List Int) (s : Int) (out : List Int) (i : Nat) : Prop where
 nd : out.Nodup
 sound : ∀ d ∈ out, Reach tg s d
 done : ∀ x ∈ (s :: out).take i, ∀ d ∈ tg x, d ∈ out
theorem Inv.start {tg : Int → List Int} {s : Int} : Inv tg s [] 0 := ⟨by simp, by simp, by simp⟩
theorem Inv.next {tg : Int → List Int} {s : Int} {out : List Int} {i : Nat} (h : Inv tg s out i) {x : Int} (hx : (s :: out)[i]? = some x) : Inv tg s (ins out (tg x)) (i + 1) := by
 have hr : x = s ∨ Reach tg s x := by
  cases i with
  | zero => simp at hx; exact .inl hx.symm
  | succ i => simp at hx; exact .inr (h.sound _ (List.mem_of_getElem? hx))
 obtain ⟨t, ht⟩ := (ins_pre : out <+: ins out (tg x))
 refine ⟨kei h.nd, ?_, ?_⟩
 ·intro d hd
  rcases kdg.1 hd with h1 | h1
  ·exact h.sound _ h1
  ·rcases hr with e | e
   ·subst e; exact .base h1
   ·exact .step e h1
 ·intro y hy d hd
  have hl : i < (s :: out).length := by
   have := List.getElem?_eq_some_iff.1 hx
   exact this.1
  rw [← ht, ← List.cons_append, List.take_append_of_le_length (by omega), List.take_add_one, hx] at hy
  simp only [Option.toList, List.mem_append, List.mem_singleton] at hy
  rcases hy with h1 | h1
  ·exact kdg.2 (.inl (h.done _ h1 _ hd))
  ·subst h1; exact kdg.2 (.inr hd)
theorem Inv.last {tg : Int → List Int} {s : Int} {out : List Int} {i : Nat} (h : Inv tg s out i) (hi : out.length + 1 ≤ i) : ∀ d, d ∈ out ↔ Reach tg s d := by
 intro d
 refine ⟨h.sound d, kfk (fun x hx => ?_) d⟩
 have : (s :: out).take i = s :: out := List.take_of_length_le (by simpa using hi)
 exact h.done x (by rw [this]; exact hx)
theorem klo {adj : Nat → List Nat} {at_ n : Nat} {a o : Nat → Nat → Bool}
  (hb : ∀ k x, o k x = true → x < n) (h0 : o 0 at_ = true)
  (hmo : ∀ k x, o k x = true → o (k + 1) x = true) (hma : ∀ k x, a k x = true → a (k + 1) x = true)
  (hao : ∀ k x, a k x = true → o k x = true)
  (hso : ∀ k x, o k x = true → x = at_ ∨ Reach adj at_ x) (hsa : ∀ k x, a k x = true → Reach adj at_ x)
  (hc : ∀ k i, o k i = true → ∀ x ∈ adj i, a (k + 1) x = true) :
  ∀ x, a n x = true ↔ Reach adj at_ x := by
 have hmok : ∀ j k x, o k x = true → o (k + j) x = true := by
  intro j; induction j with
  | zero => intro k x h; exact h
  | succ j ih => intro k x h; exact hmo _ _ (ih k x h)
 have hmak : ∀ j k x, a k x = true → a (k + j) x = true := by
  intro j; induction j with
  | zero => intro k x h; exact h
  | succ j ih => intro k x h; exact hma _ _ (ih k x h)
 have hat : ∀ k, o k at_ = true := fun k => by have := hmok k 0 at_ h0; simpa using this
 have hcnt : ∀ k, (∃ j, j < k ∧ ∀ x, o (j + 1) x = true → o j x = true) ∨ k + 1 ≤ ((List.range n).filter (o k)).length := by
  intro k; induction k with
  | zero =>
   right
   have : at_ ∈ (List.range n).filter (o 0) := by simp [h0, hb 0 at_ h0]
   exact List.length_pos_of_mem this
  | succ k ih =>
   rcases ih with ⟨j, hj, h⟩ | h
   ·exact .inl ⟨j, by omega, h⟩
   ·by_cases hq : ∀ x, o (k + 1) x = true → o k x = true
    ·exact .inl ⟨k, by omega, hq⟩
    ·right
     simp only [Classical.not_forall] at hq
     obtain ⟨x, h1, h2⟩ := hq
     have hs : ∀ (l : List Nat), x ∈ l → (l.filter (o k)).length + 1 ≤ (l.filter (o (k + 1))).length := by
      have hle : ∀ (l : List Nat), (l.filter (o k)).length ≤ (l.filter (o (k + 1))).length := by
       intro l; induction l with
       | nil => simp
       | cons y l ih2 =>
        simp only [List.filter_cons]
        by_cases hy : o k y = true
        ·simp [hy, hmo _ _ hy, ih2]
        ·by_cases hz : o (k + 1) y = true <;> simp [hy, hz] <;> omega
      intro l hl
      induction l with
      | nil => simp at hl
      | cons y l ih2 =>
       simp only [List.filter_cons]
       by_cases e : x = y
       ·subst e
        have := hle l
        simp [h1, h2]; omega
       ·have hm : x ∈ l := by simpa [e] using hl
        have := ih2 hm
        by_cases hy : o k y = true
        ·simp [hy, hmo _ _ hy]; omega
        ·by_cases hz : o (k + 1) y = true <;> simp [hy, hz] <;> omega
     have := hs (List.range n) (by simp [hb _ _ h1])
     omega
 have hle : ((List.range n).filter (o n)).length ≤ n := by
  have := List.length_filter_le (o n) (List.range n); simpa using this
 obtain ⟨j, hj, h⟩ : ∃ j, j < n ∧ ∀ x, o (j + 1) x = true → o j x = true := by
  rcases hcnt n with h | h
  ·exact h
  ·omega
 have hcl : ∀ x, Reach adj at_ x → a (j + 1) x = true := by
  intro x r
  induction r with
  | base hd => exact hc j _ (hat j) _ hd
  | step _ hd ih => exact hc j _ (h _ (hao _ _ ih)) _ hd
 intro x
 refine ⟨hsa n x, fun r => ?_⟩
 have := hmak (n - (j + 1)) (j + 1) x (hcl x r)
 rwa [show j + 1 + (n - (j + 1)) = n by omega] at this
theorem perm_of {l1 l2 : List Int} (h1 : l1.Nodup) (h2 : l2.Nodup) (h : ∀ a, a ∈ l1 ↔ a ∈ l2) : l1.Perm l2 := (List.perm_ext_iff_of_nodup h1 h2).2 h
end Go.Den.L10.Vq

namespace Go.Den.L10.Vq
abbrev BB := (Nat → Bool) × (Nat → Bool)
def updB (f : Nat → Bool) (x : Nat) : Nat → Bool := fun y => if y = x then true else f y
def setB (p : BB) (x : Nat) : BB := (updB p.1 x, updB p.2 x)
def nmB (p : BB) (ds : List Nat) : BB := ds.foldl setB p
def plB (adj : Nat → List Nat) (p : BB) (i : Nat) : BB := if p.1 i then nmB p (adj i) else p
def rdB (adj : Nat → List Nat) (n : Nat) (p : BB) : BB := (List.range n).foldl (plB adj) p
def itB (adj : Nat → List Nat) (n : Nat) : Nat → BB → BB
 | 0, p => p
 | k + 1, p => rdB adj n (itB adj n k p)
structure LeB (p q : BB) : Prop where
 o : ∀ x, p.1 x = true → q.1 x = true
 a : ∀ x, p.2 x = true → q.2 x = true
theorem LeB.refl (p : BB) : LeB p p := ⟨fun _ h => h, fun _ h => h⟩
theorem LeB.trans {p q r : BB} (h : LeB p q) (g : LeB q r) : LeB p r := ⟨fun x h1 => g.o x (h.o x h1), fun x h1 => g.a x (h.a x h1)⟩
theorem kbe {β : Type} {f : BB → β → BB} (h : ∀ p b, LeB p (f p b)) : ∀ (l : List β) (p : BB), LeB p (l.foldl f p)
 | [], p => .refl p
 | b :: l, p => (h p b).trans (kbe h l _)
theorem kcl (p : BB) (x : Nat) : LeB p (setB p x) := ⟨fun y h => by simp only [setB, updB]; split <;> simp [h], fun y h => by simp only [setB, updB]; split <;> simp [h]⟩
theorem kno (p : BB) (ds : List Nat) : LeB p (nmB p ds) := kbe kcl ds p
theorem khj (adj : Nat → List Nat) (p : BB) (i : Nat) : LeB p (plB adj p i) := by
 unfold plB; split
 ·exact kno _ _
 ·exact .refl _
theorem kan (adj : Nat → List Nat) (n : Nat) (p : BB) : LeB p (rdB adj n p) := kbe (khj adj) _ p
theorem keo (p : BB) (x : Nat) : (setB p x).2 x = true := by simp [setB, updB]
theorem kxm : ∀ (ds : List Nat) (p : BB), ∀ x ∈ ds, (nmB p ds).2 x = true
 | d :: ds, p, x, h => by
  rcases List.mem_cons.1 h with e | e
  ·subst e; exact (kbe kcl ds _).a x (keo p x)
  ·exact kxm ds (setB p d) x e
theorem kjm (adj : Nat → List Nat) : ∀ (l : List Nat) (p : BB) (i : Nat), i ∈ l → p.1 i = true → ∀ x ∈ adj i, (l.foldl (plB adj) p).2 x = true
 | j :: l, p, i, hi, ho, x, hx => by
  rcases List.mem_cons.1 hi with e | e
  ·subst e
   refine (kbe (khj adj) l _).a x ?_
   simp only [plB, ho, if_true]
   exact kxm _ _ x hx
  ·exact kjm adj l _ i e ((khj adj p j).o i ho) x hx
structure WellB (adj : Nat → List Nat) (at_ n : Nat) (p : BB) : Prop where
 b : ∀ x, p.1 x = true → x < n
 ao : ∀ x, p.2 x = true → p.1 x = true
 so : ∀ x, p.1 x = true → x = at_ ∨ Reach adj at_ x
 sa : ∀ x, p.2 x = true → Reach adj at_ x
theorem WellB.set {adj : Nat → List Nat} {at_ n : Nat} {p : BB} (h : WellB adj at_ n p) {x : Nat} (hx : x < n) (hr : Reach adj at_ x) : WellB adj at_ n (setB p x) := by
 constructor
 ·intro y hy; simp only [setB, updB] at hy; split at hy
  ·subst_vars; exact hx
  ·exact h.b y hy
 ·intro y hy; simp only [setB, updB] at hy ⊢; split
  ·rfl
  ·rename_i e; simp only [e, if_false] at hy; exact h.ao y hy
 ·intro y hy; simp only [setB, updB] at hy; split at hy
  ·subst_vars; exact .inr hr
  ·exact h.so y hy
 ·intro y hy; simp only [setB, updB] at hy; split at hy
  ·subst_vars; exact hr
  ·exact h.sa y hy
theorem WellB.nm {adj : Nat → List Nat} {at_ n : Nat} : ∀ (ds : List Nat) {p : BB}, WellB adj at_ n p → (∀ x ∈ ds, x < n ∧ Reach adj at_ x) → WellB adj at_ n (nmB p ds)
 | [], _, h, _ => h
 | d :: ds, p, h, hd => by
  have := WellB.nm ds (h.set (hd d (by simp)).1 (hd d (by simp)).2) (fun x hx => hd x (by simp [hx]))
  simpa [nmB] using this
theorem WellB.pl {adj : Nat → List Nat} {at_ n : Nat} (hadj : ∀ i, ∀ x ∈ adj i, x < n) {p : BB} (h : WellB adj at_ n p) (i : Nat) : WellB adj at_ n (plB adj p i) := by
 unfold plB; split
 ·rename_i ho
  refine h.nm _ (fun x hx => ⟨hadj i x hx, ?_⟩)
  rcases h.so i ho with e | e
  ·subst e; exact .base hx
  ·exact .step e hx
 ·exact h
theorem WellB.pls {adj : Nat → List Nat} {at_ n : Nat} (hadj : ∀ i, ∀ x ∈ adj i, x < n) : ∀ (l : List Nat) {p : BB}, WellB adj at_ n p → WellB adj at_ n (l.foldl (plB adj) p)
 | [], _, h => h
 | i :: l, _, h => WellB.pls hadj l (h.pl hadj i)
theorem WellB.it {adj : Nat → List Nat} {at_ n : Nat} (hadj : ∀ i, ∀ x ∈ adj i, x < n) {p : BB} (h : WellB adj at_ n p) : ∀ k, WellB adj at_ n (itB adj n k p)
 | 0 => h
 | k + 1 => (WellB.it hadj h k).pls hadj _
theorem itB_reach {adj : Nat → List Nat} {at_ n : Nat} (hadj : ∀ i, ∀ x ∈ adj i, x < n) (hat : at_ < n) :
  ∀ x, (itB adj n n (updB (fun _ => false) at_, fun _ => false)).2 x = true ↔ Reach adj at_ x := by
 have hw : ∀ k, WellB adj at_ n (itB adj n k (updB (fun _ => false) at_, fun _ => false)) := WellB.it hadj (by
  constructor
  ·intro x hx; simp only [updB] at hx; split at hx
   ·subst_vars; exact hat
   ·simp at hx
  ·intro x hx; simp at hx
  ·intro x hx; simp only [updB] at hx; split at hx
   ·subst_vars; exact .inl rfl
   ·simp at hx
  ·intro x hx; simp at hx)
 refine klo (o := fun k => (itB adj n k (updB (fun _ => false) at_, fun _ => false)).1) (a := fun k => (itB adj n k (updB (fun _ => false) at_, fun _ => false)).2) (fun k => (hw k).b) ?_ (fun k => (kan adj n _).o) (fun k => (kan adj n _).a) (fun k => (hw k).ao) (fun k => (hw k).so) (fun k => (hw k).sa) ?_
 ·simp [itB, updB]
 ·intro k i hi x hx
  exact kjm adj (List.range n) _ i (List.mem_range.2 ((hw k).b i hi)) hi x hx
theorem ktk {adj : Nat → List Nat} {tg : Int → List Int} {idp : Nat → Int} {n : Nat}
  (hadj : ∀ i, i < n → ∀ d, d ∈ tg (idp i) ↔ ∃ x ∈ adj i, idp x = d) (hlt : ∀ i, ∀ x ∈ adj i, x < n) (hinj : ∀ i j, i < n → j < n → idp i = idp j → i = j) {at_ : Nat} (hat : at_ < n) :
  (∀ x, Reach adj at_ x → Reach tg (idp at_) (idp x)) ∧ (∀ d, Reach tg (idp at_) d → ∃ x, Reach adj at_ x ∧ idp x = d ∧ x < n) := by
 constructor
 ·intro x r
  have : x < n ∧ Reach tg (idp at_) (idp x) := by
   induction r with
   | base hd => exact ⟨hlt _ _ hd, .base ((hadj _ hat _).2 ⟨_, hd, rfl⟩)⟩
   | step _ hd ih => exact ⟨hlt _ _ hd, .step ih.2 ((hadj _ ih.1 _).2 ⟨_, hd, rfl⟩)⟩
  exact this.2
 ·intro d r
  induction r with
  | base hd =>
   obtain ⟨x, hx, e⟩ := (hadj _ hat _).1 hd
   exact ⟨x, .base hx, e, hlt _ _ hx⟩
  | step _ hd ih =>
   obtain ⟨y, ry, ey, hy⟩ := ih
   subst ey
   obtain ⟨x, hx, e⟩ := (hadj _ hy _).1 hd
   exact ⟨x, .step ry hx, e, hlt _ _ hx⟩
theorem reach_iff {adj : Nat → List Nat} {tg : Int → List Int} {idp : Nat → Int} {n : Nat}
  (hadj : ∀ i, i < n → ∀ d, d ∈ tg (idp i) ↔ ∃ x ∈ adj i, idp x = d) (hlt : ∀ i, ∀ x ∈ adj i, x < n) (hinj : ∀ i j, i < n → j < n → idp i = idp j → i = j) {at_ : Nat} (hat : at_ < n) (x : Nat) (hx : x < n) :
  Reach adj at_ x ↔ Reach tg (idp at_) (idp x) := by
 obtain ⟨h1, h2⟩ := ktk hadj hlt hinj hat
 refine ⟨h1 x, fun r => ?_⟩
 obtain ⟨y, ry, e, hy⟩ := h2 _ r
 rwa [hinj x y hx hy e.symm]
end Go.Den.L10.Vq

namespace Go.Den.L10
open Go Go.IntWalk
def fnd (l : List (List D)) (id : Int) : Option (List D) := l.find? (fun r => asI (nthD r 0) == id)
theorem kjl (n9 : Int) (l : List (List D)) (id : Int) (hl : l.length < 4611686018427387904) (ht : ∀ r ∈ l, typL kb r) (A : List D → Rs) (B : Rs) (q1 : Int → Int → Int → Int → Int → ByteArray → List (List D) → Int → Int → Int → Bool → Bool → Rs) (q2 : SV → Int → Bool → SV → Rs)
  (h1 : ∀ a b c d e f g h i n x y, q1 a b c d e f g h i n x y = A [.i .i64 a, .i .i64 b, .i .i64 c, .i .i64 d, .i .i64 e, .s f, .l g, .i .i64 h, .i .i64 i]) (h2 : ∀ a b c d, q2 a b c d = B) :
  ∀ (k i m : Nat) (v w x : SV), i + k = l.length → k < m → l132o0 n9 l id (l.length : Int) q1 q2 m v (i : Int) w x = match fnd (l.drop i) id with | some r => A r | none => B := by
 intro k
 induction k with
 | zero =>
  intro i m v w x hi hm
  obtain ⟨m, rfl⟩ : ∃ m', m = m' + 1 := ⟨m - 1, by omega⟩
  rw [show i = l.length by omega]
  simp [l132o0, fnd, h2]
 | succ k ih =>
  intro i m v w x hi hm
  obtain ⟨m, rfl⟩ : ∃ m', m = m' + 1 := ⟨m - 1, by omega⟩
  have hil : i < l.length := by omega
  have hd : l.drop i = l[i] :: l.drop (i + 1) := List.drop_eq_getElem_cons hil
  have hg : l.getD ((i : Int)).toNat [] = l[i] := by simp [List.getD, hil]
  obtain ⟨x1, x2, x3, x4, x5, x6, x7, x8, x9, hr, -, -, -⟩ := kgb (ht l[i] (List.getElem_mem hil))
  have e1 : (decide ((0 : Int) ≤ (i : Int)) && true && isRow z64 l[i]) = true := by
   rw [hr, show decide ((0 : Int) ≤ (i : Int)) = true from decide_eq_true (by omega)]; rfl
  have e2 : decide ((i : Int) < (l.length : Int)) = true := by simp [hil]
  simp only [l132o0, e2, if_true, hg, e1, ka, hd, fnd, List.find?_cons]
  by_cases hq : (asI (nthD l[i] 0) == id) = true
  ·simp only [hq, if_true, h1]; rw [hr]; rfl
  ·simp only [hq, Bool.false_eq_true, if_false]
   rw [kc i (by omega), ih (i + 1) m _ _ _ (by omega) (by omega)]
   rfl
theorem kug (n1 : Int) (l : List (List D)) (id : Int) (hl : l.length ≤ 1048576) (ht : ∀ r ∈ l, typL kb r) :
  t132 n1 l id = some ([.one (.b (fnd l id).isSome), .agg ((fnd l id).getD [.i .i64 0, .i .i64 0, .i .i64 0, .i .i64 0, .i .i64 0, .s ⟨#[]⟩, .l [], .i .i64 0, .i .i64 0])], []) := by
 unfold t132

 have := kjl n1 l id (by omega) ht (fun r => some ([.one (.b true), .agg r], [])) (some ([.one (.b false), .agg [.i .i64 0, .i .i64 0, .i .i64 0, .i .i64 0, .i .i64 0, .s ⟨#[]⟩, .l [], .i .i64 0, .i .i64 0]], [])) _ _ (fun _ _ _ _ _ _ _ _ _ _ _ _ => rfl) (fun _ _ _ _ => rfl) l.length 0 KK .undef .undef .undef (by omega) (by rw [kl]; omega)
 refine Eq.trans this ?_
 simp only [List.drop_zero]
 cases fnd l id <;> rfl
def ints (o : List Int) : List (List D) := o.map fun x => [D.i .i64 x]
theorem ksd (o : List Int) : (ints o).length = o.length := by simp [ints]
theorem kzf {o : List Int} {i : Nat} (h : i < o.length) : (ints o).getD i [] = [D.i .i64 o[i]] := by simp [ints, List.getD, h]
theorem kln (x n0 : Int) (q1 : Int → Bool → Bool → Rs) (q2 : SV → Int → Bool → SV → Rs) (h1 : ∀ a b c, q1 a b c = some ([.one (.i .i64 a)], [])) (h2 : ∀ a b c d, q2 a b c d = some ([.one (.i .i64 (-1))], [])) (o : List Int) (hl : o.length < 4611686018427387904) : ∀ (k i m : Nat) (u v w : SV), i + k = o.length → k < m →
  ∃ y : Int, l133o0 (ints o) x n0 ((ints o).length : Int) q1 q2 m u i v w = some ([.one (.i .i64 y)], []) ∧ decide (y ≥ 0) = decide (x ∈ o.drop i) := by
 intro k
 induction k with
 | zero =>
  intro i m u v w e hm
  obtain ⟨m, rfl⟩ : ∃ m', m = m' + 1 := ⟨m - 1, by omega⟩
  have ei : decide ((i : Int) < ((ints o).length : Int)) = false := by rw [ksd]; simp; omega
  refine ⟨-1, by simp only [l133o0, ei, h2, Bool.false_eq_true, if_false], ?_⟩
  rw [show i = o.length by omega]; simp
 | succ k ih =>
  intro i m u v w e hm
  obtain ⟨m, rfl⟩ : ∃ m', m = m' + 1 := ⟨m - 1, by omega⟩
  have hi : i < o.length := by omega
  have e1 := kj (i := i) (n := (ints o).length) (by rw [ksd]; omega)
  have ez : isRow z3 [D.i .i64 o[i]] = true := rfl
  have en : asI (nthD [D.i .i64 o[i]] 0) = o[i] := rfl
  have hw := kc i (by omega)
  simp only [l133o0, e1, kxb, Int.toNat_natCast, kzf hi, ez, en, Bool.and_true, ka, if_true, hw, List.drop_eq_getElem_cons hi, List.mem_cons]
  by_cases hb : x = o[i]
  ·have : (x == o[i]) = true := by simpa using hb
   exact ⟨i, by simp only [this, if_true, h1], by simp [hb]⟩
  ·have : (x == o[i]) = false := by simpa using hb
   simp only [this, Bool.false_eq_true, if_false, hb, false_or]
   exact ih (i + 1) m _ _ _ (by omega) (by omega)
theorem kij (o : List Int) (hl : o.length ≤ 1048576) (x : Int) : t101 (ints o) x = some ([.one (.b (decide (x ∈ o)))], []) := by
 obtain ⟨y, hy, hd⟩ := kln x 0 (fun a _ _ => some ([.one (.i .i64 a)], [])) (fun _ _ _ _ => some ([.one (.i .i64 (-1))], [])) (fun _ _ _ => rfl) (fun _ _ _ _ => rfl) o (by omega) o.length 0 KK .undef .undef .undef (by omega) (by rw [kl]; omega)
 have hy' : t133 (ints o) x = some ([.one (.i .i64 y)], []) := hy
 have ew : okR zr133 zo133 (some ([.one (.i .i64 y)], [])) = true := rfl
 have eb : asI (resC (some ([.one (.i .i64 y)], [])) 0 0) = y := rfl
 simp only [t101, ta101, hy', ew, eb, ka, hd, List.drop_zero]
def idOf (r : List D) : Int := asI (nthD r 1)
def kac (l : List (List D)) : List Int := l.map idOf
theorem gz2 : ∀ b, okR zr101 zo101 (some ([.one (.b b)], [])) = true := fun _ => id rfl
theorem gz3 : ∀ b, asB (resC (some ([.one (.b b)], [])) 0 0) = b := fun _ => id rfl
theorem knl (n0 : Int) (l0 : List (List D)) (n1 n2 : Int) (b0 b1 : Bool) (L : List (List D)) (hL : ∀ r ∈ L, typL ks r) (hl : L.length ≤ 1048576) (q1 : SV → Int → Bool → SV → List (List D) → List (List D) → Rs) (s : Int) :
  ∀ (k i m : Nat) (v w x : SV) (o : List Int), i + k = L.length → k < m → o.length + k + 1 ≤ 1048576 →
   ∃ a b c d, la100o3 t101 t132 n0 l0 n1 n2 b0 b1 L (L.length : Int) q1 m v (i : Int) w x (ints o) (ints (s :: o)) = q1 a b c d (ints (Vq.ins o (kac (L.drop i)))) (ints (s :: Vq.ins o (kac (L.drop i)))) := by
 intro k
 induction k with
 | zero =>
  intro i m v w x o e hm _
  obtain ⟨m, rfl⟩ : ∃ m', m = m' + 1 := ⟨m - 1, by omega⟩
  rw [show i = L.length by omega]
  simp only [la100o3, Int.lt_irrefl, decide_false, Bool.false_eq_true, if_false, List.drop_length, kac, List.map_nil, Vq.ins]
  exact ⟨_, _, _, _, rfl⟩
 | succ k ih =>
  intro i m v w x o e hm ho
  obtain ⟨m, rfl⟩ : ∃ m', m = m' + 1 := ⟨m - 1, by omega⟩
  have hi : i < L.length := by omega
  have hg : L.getD i [] = L[i] := by simp [List.getD, hi]
  obtain ⟨x1, x2, hr, -⟩ := kgf (hL L[i] (List.getElem_mem hi))
  have e1 := kj (i := i) (n := L.length) (by omega)
  have ez : isRow z129 L[i] = true := by rw [hr]; rfl
  have eid : asI (nthD L[i] 1) = idOf L[i] := rfl
  have hw := kc i (by omega)
  have ec := kij o (by omega) (idOf L[i])
  simp only [la100o3, e1, kxb, Int.toNat_natCast, hg, ez, eid, ec, gz2, gz3, Bool.and_true, ka, if_true, hw, List.drop_eq_getElem_cons hi, kac, List.map_cons, Vq.ins]
  by_cases hb : idOf L[i] ∈ o
  ·simp only [hb, decide_true, Bool.not_true, Bool.false_eq_true, if_false, if_true]
   exact ih (i + 1) m _ _ _ o (by omega) (by omega) (by omega)
  ·have hc : ∀ n : Nat, n + 1 ≤ 1048577 → (flatR 1 ([[.i .i64 (idOf L[i])]] : List (List D)) && decide (n + ([[D.i .i64 (idOf L[i])]] : List (List D)).length ≤ lim)) = true := by
    intro n hn
    have : n + 1 ≤ lim := by unfold lim; omega
    have f : flatR 1 ([[D.i .i64 (idOf L[i])]] : List (List D)) = true := rfl
    rw [f]; simpa using this
   simp only [hb, decide_false, Bool.not_false, if_true, if_false]
   rw [hc _ (by rw [ksd]; omega), hc _ (by rw [ksd]; simp; omega)]
   simp only [ka]
   have a1 : ints o ++ [[D.i .i64 (idOf L[i])]] = ints (o ++ [idOf L[i]]) := by simp [ints]
   have a2 : ints (s :: o) ++ [[D.i .i64 (idOf L[i])]] = ints (s :: (o ++ [idOf L[i]])) := by simp [ints]
   rw [a1, a2]
   exact ih (i + 1) m _ _ _ (o ++ [idOf L[i]]) (by omega) (by omega) (by simp; omega)
theorem keb {α σ : Type} (L : Nat → Nat → α → σ → Rs) (n : Nat) (P : Nat → α → Prop) (Q : Rs → Prop)
  (he : ∀ m a s, P n a → Q (L (m + 1) n a s))
  (hs : ∀ i m a s, i < n → P i a → (∃ a' s', L (m + 1) i a s = L m (i + 1) a' s' ∧ P (i + 1) a') ∨ Q (L (m + 1) i a s)) :
  ∀ (k i m : Nat) (a : α) (s : σ), i + k = n → k < m → P i a → Q (L m i a s) := by
 intro k
 induction k with
 | zero =>
  intro i m a s e hm hp
  obtain ⟨m, rfl⟩ : ∃ m', m = m' + 1 := ⟨m - 1, by omega⟩
  have : i = n := by omega
  subst this
  exact he m a s hp
 | succ k ih =>
  intro i m a s e hm hp
  obtain ⟨m, rfl⟩ : ∃ m', m = m' + 1 := ⟨m - 1, by omega⟩
  rcases hs i m a s (by omega) hp with ⟨a', s', h1, h2⟩ | h
  ·rw [h1]; exact ih (i + 1) m a' s' (by omega) (by omega) h2
  ·exact h
def allW (f : Nat → Bool) : Nat → Nat → Bool
 | 0, _ => true
 | k + 1, i => f i && allW f k (i + 1)
theorem kvb {f : Nat → Bool} : ∀ (k i : Nat), allW f k i = true ↔ ∀ j, i ≤ j → j < i + k → f j = true
 | 0, i => by simp [allW]; omega
 | k + 1, i => by
  rw [allW, Bool.and_eq_true, kvb]
  constructor
  ·rintro ⟨h1, h2⟩ j hj hk
   by_cases e : j = i
   ·rw [e]; exact h1
   ·exact h2 j (by omega) (by omega)
  ·intro h
   exact ⟨h i (by omega) (by omega), fun j hj hk => h j (by omega) (by omega)⟩
theorem kyc {σ : Type} (L : Nat → Nat → σ → Rs) (n : Nat) (f : Nat → Bool) (A B : Rs)
  (he : ∀ m s, L (m + 1) n s = B)
  (hs : ∀ i m s, i < n → (f i = true ∧ ∃ s', L (m + 1) i s = L m (i + 1) s') ∨ (f i = false ∧ L (m + 1) i s = A)) :
  ∀ (k i m : Nat) (s : σ), i + k = n → k < m → L m i s = if allW f k i = true then B else A := by
 intro k
 induction k with
 | zero =>
  intro i m s e hm
  obtain ⟨m, rfl⟩ : ∃ m', m = m' + 1 := ⟨m - 1, by omega⟩
  have : i = n := by omega
  subst this
  simp [allW, he]
 | succ k ih =>
  intro i m s e hm
  obtain ⟨m, rfl⟩ : ∃ m', m = m' + 1 := ⟨m - 1, by omega⟩
  rw [allW]
  rcases hs i m s (by omega) with ⟨h0, s', h1⟩ | ⟨h0, h1⟩
  ·rw [h1, h0, Bool.true_and]; exact ih (i + 1) m s' (by omega) (by omega)
  ·rw [h1, h0]; simp
theorem kaj {i n : Nat} (h : i < n) : decide ((0 : Int) ≤ (i : Int) ∧ (i : Int) < (n : Int)) = true := by simp; omega
theorem ko (n : Nat) : decide ((n : Int) < (n : Int)) = false := by simp
def byB (s : ByteArray) (i : Nat) : Int := ((s.get! i).toNat : Int)
def nbB (n1 : Int) : Bool := ((((((decide (n1 ≥ (97 : Int))) && (decide (n1 ≤ (122 : Int)))) || ((decide (n1 ≥ (48 : Int))) && (decide (n1 ≤ (57 : Int))))) || (n1 == (46 : Int))) || (n1 == (95 : Int))) || (n1 == (45 : Int)))
def khd (s : ByteArray) : Bool := (((decide ((s.size : Int) ≥ 1) && decide ((s.size : Int) ≤ 8)) && !(s.toList == (⟨#[46]⟩ : ByteArray).toList)) && !(s.toList == (⟨#[46, 46]⟩ : ByteArray).toList)) && allW (fun i => nbB (byB s i)) s.size 0
def khg (s : ByteArray) : Bool := (decide ((s.size : Int) ≥ 1) && decide ((s.size : Int) ≤ 60)) && allW (fun i => byB s i == 47 || nbB (byB s i)) s.size 0
theorem kzi (s : ByteArray) (i : Nat) : ((s.get! ((i : Int)).toNat).toNat : Int) = byB s i := by rw [Int.toNat_natCast]; rfl
theorem gz4 : ∀ x, okR zr57 zo57 (some ([.one (.b x)], [])) = true := fun _ => id rfl
theorem gz5 : ∀ x, asB (resC (some ([.one (.b x)], [])) 0 0) = x := fun _ => id rfl
theorem ksk (s : ByteArray) (hs : s.size < 4611686018427387904) : t125 s = some ([.one (.b (khd s))], []) := by
 have key := fun b7 b9 => kyc (σ := SV × SV) (fun m i s' => la125o1 t57 t139 s b7 b9 (fun _ _ _ => some ([.one (.b false)], [])) (fun _ _ _ => some ([.one (.b true)], [])) m (i : Int) s'.1 s'.2) s.size (fun i => nbB (byB s i)) (some ([.one (.b false)], [])) (some ([.one (.b true)], []))
  (by intro m s'; simp only [la125o1, ko, Bool.false_eq_true, if_false])
  (by
   intro i m s' hi
   have e : t139 (byB s i) = some ([.one (.b (nbB (byB s i)))], []) := rfl
   simp only [la125o1, kj hi, kaj hi, kzi, e, ka, if_true, kc i (by omega)]
   cases h : nbB (byB s i)
   ·exact .inr ⟨rfl, rfl⟩
   ·exact .inl ⟨rfl, (_, _), rfl⟩) s.size 0 KK (SV.undef, SV.undef) (by omega) (by rw [kl]; omega)
 simp only [t125, ta125, kod, gz4, gz5, ka]
 rw [kal _ ((decide ((s.size : Int) ≥ 1) && decide ((s.size : Int) ≤ 8) && !(s.toList == (⟨#[46]⟩ : ByteArray).toList)) && !(s.toList == (⟨#[46, 46]⟩ : ByteArray).toList))]
 ·unfold khd
  split
  ·rename_i h
   rw [h, Bool.true_and]
   refine Eq.trans (key _ _) ?_
   split <;> (rename_i h2; simp only [h2, Bool.not_eq_true] at * <;> simp [h2])
  ·rename_i h
   rw [Bool.not_eq_true] at h
   rw [h, Bool.false_and]
 ·simp only [Bool.not_and, Bool.not_not, ge_iff_le]
theorem kok (s : ByteArray) (hs : s.size < 4611686018427387904) : t142 s = some ([.one (.b (khd s))], []) := by
 have key := fun b7 B => kyc (σ := SV × SV × SV) (fun m i s' => la142o0 t63 t141 s b7 (s.size : Int) (fun _ _ _ => some ([.one (.b false)], [])) (fun _ _ _ _ => B) m s'.1 (i : Int) s'.2.1 s'.2.2) s.size (fun i => nbB (byB s i)) (some ([.one (.b false)], [])) B
  (by intro m s'; simp only [la142o0, ko, Bool.false_eq_true, if_false])
  (by
   intro i m s' hi
   have e : t141 (byB s i) = some ([.one (.b (nbB (byB s i)))], []) := rfl
   simp only [la142o0, kj hi, kaj hi, kzi, e, ka, if_true, kc i (by omega)]
   cases h : nbB (byB s i)
   ·exact .inr ⟨rfl, rfl⟩
   ·exact .inl ⟨rfl, (_, _, _), rfl⟩) s.size 0 KK (SV.undef, SV.undef, SV.undef) (by omega) (by rw [kl]; omega)
 refine Eq.trans (key _ _) ?_
 unfold khd
 split
 ·rename_i h
  rw [h, Bool.and_true]; rfl
 ·rename_i h
  rw [Bool.not_eq_true] at h
  rw [h, Bool.and_false]
theorem knk (s : ByteArray) (hs : s.size < 4611686018427387904) : t124 s = some ([.one (.b (khg s))], []) := by
 have key := fun b7 b9 => kyc (σ := SV × SV) (fun m i s' => la124o1 t57 t139 s b7 b9 (fun _ _ _ => some ([.one (.b false)], [])) (fun _ _ _ => some ([.one (.b true)], [])) m (i : Int) s'.1 s'.2) s.size (fun i => byB s i == 47 || nbB (byB s i)) (some ([.one (.b false)], [])) (some ([.one (.b true)], []))
  (by intro m s'; simp only [la124o1, ko, Bool.false_eq_true, if_false])
  (by
   intro i m s' hi
   have e : t139 (byB s i) = some ([.one (.b (nbB (byB s i)))], []) := rfl
   simp only [la124o1, kj hi, kaj hi, kzi, e, ka, if_true, kc i (by omega), Bool.true_or, bne]
   cases h : nbB (byB s i) <;> cases h2 : byB s i == 47
   ·exact .inr ⟨rfl, rfl⟩
   ·exact .inl ⟨rfl, (_, _), rfl⟩
   ·exact .inl ⟨rfl, (_, _), rfl⟩
   ·exact .inl ⟨rfl, (_, _), rfl⟩) s.size 0 KK (SV.undef, SV.undef) (by omega) (by rw [kl]; omega)
 simp only [t124, ta124, kod, gz4, gz5, ka]
 rw [kal _ (decide ((s.size : Int) ≥ 1) && decide ((s.size : Int) ≤ 60)) rfl]
 unfold khg
 split
 ·rename_i h
  rw [h, Bool.true_and]
  refine Eq.trans (key _ _) ?_
  split <;> (rename_i h2; simp only [h2, Bool.not_eq_true] at * <;> simp [h2])
 ·rename_i h
  rw [Bool.not_eq_true] at h
  rw [h, Bool.false_and]
theorem kqk (s : ByteArray) (hs : s.size < 4611686018427387904) : t130 s = some ([.one (.b (khg s))], []) := by
 have key := fun b7 B => kyc (σ := SV × SV × SV) (fun m i s' => la130o0 t63 t141 s b7 (s.size : Int) (fun _ _ _ => some ([.one (.b false)], [])) (fun _ _ _ _ => B) m s'.1 (i : Int) s'.2.1 s'.2.2) s.size (fun i => byB s i == 47 || nbB (byB s i)) (some ([.one (.b false)], [])) B
  (by intro m s'; simp only [la130o0, ko, Bool.false_eq_true, if_false])
  (by
   intro i m s' hi
   have e : t141 (byB s i) = some ([.one (.b (nbB (byB s i)))], []) := rfl
   simp only [la130o0, kj hi, kaj hi, kzi, e, ka, if_true, kc i (by omega), Bool.true_or, bne]
   cases h : nbB (byB s i) <;> cases h2 : byB s i == 47
   ·exact .inr ⟨rfl, rfl⟩
   ·exact .inl ⟨rfl, (_, _, _), rfl⟩
   ·exact .inl ⟨rfl, (_, _, _), rfl⟩
   ·exact .inl ⟨rfl, (_, _, _), rfl⟩) s.size 0 KK (SV.undef, SV.undef, SV.undef) (by omega) (by rw [kl]; omega)
 refine Eq.trans (key _ _) ?_
 unfold khg
 split
 ·rename_i h
  rw [h, Bool.and_true]; rfl
 ·rename_i h
  rw [Bool.not_eq_true] at h
  rw [h, Bool.and_false]
def nmsL (r : List D) : List (List D) := asL (nthD r 6)
def idI (r : List D) : Int := asI (nthD r 0)
def tgV (l : List (List D)) (id : Int) : List Int := match fnd l id with | some r => kac (nmsL r) | none => []
def univ (l : List (List D)) : List Int := l.flatMap fun r => kac (nmsL r)
structure Few (l : List (List D)) : Prop where
 n : l.length ≤ 24
 t : ∀ r ∈ l, typL kb r
 k : ∀ r ∈ l, (nmsL r).length ≤ 12
theorem kcf {l : List (List D)} {id : Int} {r : List D} (h : fnd l id = some r) : r ∈ l ∧ idI r = id := by
 refine ⟨List.mem_of_find?_eq_some h, ?_⟩
 have := List.find?_some h
 simpa [idI] using this
theorem kaf {r : List D} (h : typL kb r) : ∀ d ∈ nmsL r, typL ks d := by
 obtain ⟨x1, x2, x3, x4, x5, x6, x7, x8, x9, rfl, -, -, h⟩ := kgb h
 exact h
theorem kbl {l : List (List D)} {x d : Int} (h : d ∈ tgV l x) : d ∈ univ l := by
 unfold tgV at h
 split at h
 ·rename_i r hr
  exact List.mem_flatMap.2 ⟨r, (kcf hr).1, h⟩
 ·cases h
theorem krg {l : List (List D)} (h : Few l) : (univ l).length ≤ 288 := by
 have : ∀ (l : List (List D)) (n : Nat), (∀ r ∈ l, (nmsL r).length ≤ 12) → l.length ≤ n → (univ l).length ≤ n * 12 := by
  intro l
  induction l with
  | nil => intro n _ _; simp [univ]
  | cons r l ih =>
   intro n hk hn
   obtain ⟨n, rfl⟩ : ∃ n', n = n' + 1 := ⟨n - 1, by simp at hn; omega⟩
   have h1 := ih n (fun r hr => hk r (by simp [hr])) (by simpa using hn)
   have h2 := hk r (by simp)
   simp only [univ, List.flatMap_cons, List.length_append, kac, List.length_map] at h1 ⊢
   omega
 exact this l 24 h.k h.n
theorem kmh {l : List (List D)} {s d : Int} (h : Vq.Reach (tgV l) s d) : d ∈ univ l := by
 cases h with
 | base h => exact kbl h
 | step _ h => exact kbl h
theorem kqh {l : List (List D)} (h : Few l) {s : Int} {o : List Int} {i : Nat} (hi : Vq.Inv (tgV l) s o i) : o.length ≤ (univ l).length := List.Nodup.length_le_of_subset hi.nd fun d hd => kmh (hi.sound d hd)
theorem kxl (n1 : Int) (l : List (List D)) (hf : Few l) (s n0 : Int) (q1 : Int → SV → Bool → SV → SV → SV → SV → SV → SV → List (List D) → List (List D) → Rs) (h1 : ∀ a b c d e f g h i j k, q1 a b c d e f g h i j k = some ([.one (.l j)], [])) :
  ∀ (k i m : Nat) (a b c d e f g h : SV) (o : List Int), i + k = (univ l).length + 2 → k < m → Vq.Inv (tgV l) s o i → i ≤ o.length + 1 →
   ∃ o', Vq.Inv (tgV l) s o' (o'.length + 1) ∧ la100o0 t101 t132 n1 l n0 q1 m (i : Int) a b c d e f g h (ints o) (ints (s :: o)) = some ([.one (.l (ints o'))], []) := by
 intro k
 have hu := krg hf
 have hn := hf.n
 induction k with
 | zero =>
  intro i m a b c d e f g h o e1 hm hi hl
  have := kqh hf hi
  omega
 | succ k ih =>
  intro i m a b c d e f g h o e1 hm hi hl
  obtain ⟨m, rfl⟩ : ∃ m', m = m' + 1 := ⟨m - 1, by omega⟩
  have ho := kqh hf hi
  have hlen : (ints (s :: o)).length = o.length + 1 := by rw [ksd]; simp
  by_cases hx : i < o.length + 1
  ·have hx' : i < (s :: o).length := by simpa using hx
   have hg : (ints (s :: o)).getD i [] = [D.i .i64 (s :: o)[i]] := kzf hx'
   have hs : (s :: o)[i]? = some (s :: o)[i] := List.getElem?_eq_getElem hx'
   generalize (s :: o)[i] = x at hg hs
   have hnx := hi.next hs
   have e2 := kj (i := i) (n := (ints (s :: o)).length) (by omega)
   have e3 : (decide ((0 : Int) ≤ (i : Int)) && decide ((i : Int) < ((ints (s :: o)).length : Int))) = true := by rw [e2]; simp
   have e4 : (decide (1 ≤ ([D.i .i64 x] : List D).length) && isF z3 0 [D.i .i64 x]) = true := rfl
   have e5 : asI (nthD [D.i .i64 x] 0) = x := rfl
   have e6 := kug n1 l x (by omega) hf.t
   have hw := kc i (by omega)
   cases hr : fnd l x with
   | none =>
    rw [hr] at e6
    have htg : tgV l x = [] := by simp [tgV, hr]
    rw [htg] at hnx
    have hnx : Vq.Inv (tgV l) s o (i + 1) := hnx
    have e7 : okR zr132 zo132 (some ([.one (.b (none : Option (List D)).isSome), .agg ((none : Option (List D)).getD [.i .i64 0, .i .i64 0, .i .i64 0, .i .i64 0, .i .i64 0, .s ⟨#[]⟩, .l [], .i .i64 0, .i .i64 0])], [])) = true := rfl
    have e8 : asB (resC (some ([.one (.b (none : Option (List D)).isSome), .agg ((none : Option (List D)).getD [.i .i64 0, .i .i64 0, .i .i64 0, .i .i64 0, .i .i64 0, .s ⟨#[]⟩, .l [], .i .i64 0, .i .i64 0])], [])) 0 0) = false := rfl
    simp only [la100o0, e2, e3, Int.toNat_natCast, hg, e4, e5, e6, e7, e8, ka, if_true, Bool.not_false, hw]
    exact ih (i + 1) m _ _ _ _ _ _ _ _ o (by omega) (by omega) hnx (by omega)
   | some r =>
    obtain ⟨hrm, hrid⟩ := kcf hr
    obtain ⟨x1, x2, x3, x4, x5, x6, x7, x8, x9, er, -, -, ht⟩ := kgb (hf.t r hrm)
    have hk : x7.length ≤ 12 := by have := hf.k r hrm; rw [er] at this; exact this
    have htg : tgV l x = kac x7 := by simp only [tgV, hr]; rw [er]; rfl
    rw [htg] at hnx
    rw [hr, er] at e6
    simp only [la100o0, e2, e3, Int.toNat_natCast, hg, e4, e5, e6, ka, if_true]
    obtain ⟨a', b', c', d', e9⟩ := knl n1 l n0 (i : Int) true false x7 ht (by omega) (fun (v0 : SV) (n2 : Int) (b0 : Bool) (v1 : SV) (l0 : List (List D)) (l1 : List (List D)) =>
     la100o0 t101 t132 n1 l n0 q1 m (w64 ((i : Int) + (1 : Int))) (keepV [704, 832] v0) (.d (.b true)) (.d (.b false)) (.d (.l x7)) (.d (.i .i64 (x7.length : Int))) (.d (.i .i64 n2)) (.d (.b b0)) (keepV [704, 832] v1) l0 l1) s x7.length 0 KK (SV.op true [.i .i64 x1, .i .i64 x2, .i .i64 x3, .i .i64 x4, .i .i64 x5, .s x6, .l x7, .i .i64 x8, .i .i64 x9]) g h o (by omega) (by rw [kl]; omega) (by omega)
    have hp : o.length ≤ (Vq.ins o (kac x7)).length := (Vq.ins_pre (ds := kac x7) (o := o)).length_le
    obtain ⟨o', hi', ho'⟩ := ih (i + 1) m (keepV [704, 832] a') (.d (.b true)) (.d (.b false)) (.d (.l x7)) (.d (.i .i64 (x7.length : Int))) (.d (.i .i64 b')) (.d (.b c')) (keepV [704, 832] d') (Vq.ins o (kac x7)) (by omega) (by omega) hnx (by omega)
    refine ⟨o', hi', ?_⟩
    rw [← hw] at ho'
    exact Eq.trans e9 ho'
  ·refine ⟨o, ?_, ?_⟩
   ·rw [show o.length + 1 = i by omega]; exact hi
   ·have e2 : decide ((i : Int) < ((ints (s :: o)).length : Int)) = false := by simp; omega
    simp only [la100o0, e2, Bool.false_eq_true, if_false, h1]
theorem kzj (n1 : Int) (l : List (List D)) (hf : Few l) (s : Int) : ∃ o : List Int, o.Nodup ∧ o.length ≤ 288 ∧ (∀ d, d ∈ o ↔ Vq.Reach (tgV l) s d) ∧ t100 n1 l s = some ([.one (.l (ints o))], []) := by
 obtain ⟨o, hi, h⟩ := kxl n1 l hf s s (fun (n0 : Int) (v0 : SV) (b0 : Bool) (v1 : SV) (v2 : SV) (v3 : SV) (v4 : SV) (v5 : SV) (v6 : SV) (l0 : List (List D)) (l1 : List (List D)) => some ([.one (.l l0)], [])) (fun _ _ _ _ _ _ _ _ _ _ _ => rfl) ((univ l).length + 2) 0 KK SV.undef SV.undef SV.undef SV.undef SV.undef SV.undef SV.undef SV.undef [] (by omega) (by rw [kl]; have := krg hf; omega) Vq.Inv.start (by omega)
 exact ⟨o, hi.nd, Nat.le_trans (kqh hf hi) (krg hf), hi.last (Nat.le_refl _), h⟩
def plc : List (List D) → Int → Option Nat
 | [], _ => none
 | r :: l, id => if idI r == id then some 0 else (plc l id).map (· + 1)
def atI (l : List (List D)) (id : Int) : Int := match plc l id with | some i => (i : Int) | none => -1
theorem kmc : ∀ {l : List (List D)} {id : Int} {i : Nat}, plc l id = some i → i < l.length ∧ idI (l.getD i []) = id ∧ fnd l id = some (l.getD i [])
 | [], _, _, h => by simp [plc] at h
 | r :: l, id, i, h => by
  rw [plc] at h
  by_cases hq : (idI r == id) = true
  ·simp only [hq, if_true, Option.some.injEq] at h
   subst h
   refine ⟨by simp, by simpa using hq, ?_⟩
   have : (asI (nthD r 0) == id) = true := hq
   simp only [fnd, List.find?_cons, this, List.getD_cons_zero]
  ·simp only [hq, Bool.false_eq_true, if_false, Option.map_eq_some_iff] at h
   obtain ⟨j, hj, rfl⟩ := h
   obtain ⟨h1, h2, h3⟩ := kmc hj
   have hq' : (asI (nthD r 0) == id) = false := by simpa [idI] using hq
   refine ⟨by simp; omega, by simpa using h2, ?_⟩
   simp only [fnd, List.find?_cons, hq']
   rw [show List.find? (fun r => asI (nthD r 0) == id) l = fnd l id from rfl, h3]
   simp
theorem ktg : ∀ {l : List (List D)} {id : Int}, plc l id = none → fnd l id = none
 | [], _, _ => rfl
 | r :: l, id, h => by
  rw [plc] at h
  by_cases hq : (idI r == id) = true
  ·simp [hq] at h
  ·simp only [hq, Bool.false_eq_true, if_false, Option.map_eq_none_iff] at h
   have hq' : (asI (nthD r 0) == id) = false := by simpa [idI] using hq
   simp only [fnd, List.find?_cons, hq']
   exact ktg h
theorem klf (l : List (List D)) (id : Int) : (plc l id).isSome = (fnd l id).isSome := by
 cases h : plc l id with
 | none => rw [ktg h]; rfl
 | some i => rw [(kmc h).2.2]; rfl
theorem knn {l : List (List D)} {id : Int} {i : Nat} (hi : i < l.length) : plc (l.drop i) id = if idI l[i] == id then some 0 else (plc (l.drop (i + 1)) id).map (· + 1) := by
 rw [List.drop_eq_getElem_cons hi, plc]
theorem kq : ∀ r, typL kb r → isRow z64 r = true := fun r h => by
 obtain ⟨x1, x2, x3, x4, x5, x6, x7, x8, x9, rfl, -⟩ := kgb h; rfl
theorem kbc : ∀ r, typL ks r → isRow z129 r = true := fun r h => by
 obtain ⟨x1, x2, rfl, -⟩ := kgf h; rfl
theorem kof {es : List Sh} {z : List D} {l : List (List D)} (h : ∀ r ∈ l, typL es r) (hz : ∀ r, typL es r → isRow z r = true) (i : Nat) (hi : i < l.length) : (decide ((0 : Int) ≤ (i : Int)) && decide ((i : Int) < (l.length : Int)) && isRow z (l.getD i [])) = true := by
 rw [kxb, kj hi, hz _ (kpc h hi)]; rfl
theorem ktb {es : List Sh} {z : List D} {l : List (List D)} (h : ∀ r ∈ l, typL es r) (hz : ∀ r, typL es r → isRow z r = true) (i : Nat) (hi : i < l.length) : (decide ((0 : Int) ≤ (i : Int)) && true && isRow z (l.getD i [])) = true := by
 rw [kxb, hz _ (kpc h hi)]; rfl
theorem ktc {es : List Sh} {z : List D} {l : List (List D)} (h : ∀ r ∈ l, typL es r) (hz : ∀ r, typL es r → isRow z r = true) (i : Nat) (hi : i < l.length) : (decide ((0 : Int) ≤ (i : Int)) && true && isRow z l[i]) = true := by
 rw [kxb, hz _ (h _ (List.getElem_mem hi))]; rfl
theorem kol (n1 : Int) (l : List (List D)) (id : Int) (hl : l.length ≤ 1048576) (ht : ∀ r ∈ l, typL kb r) : t126 n1 l id = some ([.one (.i .i64 (atI l id))], []) := by
 refine keb (α := Unit) (σ := SV × SV) (fun m i _ s' => l126o0 n1 l id 0 n1 l (fun n _ _ => some ([.one (.i .i64 n)], [])) (fun _ _ _ => some ([.one (.i .i64 (-1))], [])) m (i : Int) s'.1 s'.2) l.length (fun i _ => plc l id = (plc (l.drop i) id).map (· + i)) (fun x => x = some ([.one (.i .i64 (atI l id))], []))
  (by
   intro m a s' hp
   simp only [l126o0, ko, Bool.false_eq_true, if_false]
   simp only [List.drop_length, plc, Option.map_none] at hp
   simp only [atI, hp])
  (by
   intro i m a s' hi hp
   have hg : l.getD i [] = l[i] := khb hi
   simp only [l126o0, kj hi, Int.toNat_natCast, ktc ht kq i hi, ka, if_true, kc i (by omega), hg]
   rw [knn hi] at hp
   by_cases hq : (idI l[i] == id) = true
   ·right
    have hq' : (asI (nthD l[i] 0) == id) = true := hq
    simp only [hq', if_true]
    simp only [hq, if_true, Option.map_some, Nat.zero_add] at hp
    simp only [atI, hp]
   ·left
    have hq' : (asI (nthD l[i] 0) == id) = false := by simpa [idI] using hq
    simp only [hq', Bool.false_eq_true, if_false]
    refine ⟨(), (_, _), rfl, ?_⟩
    simp only [hq, Bool.false_eq_true, if_false, Option.map_map] at hp
    rw [hp]; congr 1; funext x; simp; omega) l.length 0 KK () (SV.undef, SV.undef) (by omega) (by rw [kl]; omega) (by simp)
def km (f : Nat → Bool) (n : Nat) : List (List D) := (List.range n).map fun i => [D.b (f i)]
theorem kkc (f : Nat → Bool) (n : Nat) : (km f n).length = n := by simp [km]
theorem kyg {f : Nat → Bool} {n i : Nat} (h : i < n) : (km f n).getD i [] = [D.b (f i)] := by simp [km, List.getD, h]
theorem kkm (n : Nat) : List.replicate n z4 = km (fun _ => false) n := by
 apply List.ext_getElem
 ·simp [km]
 ·intro i h1 h2; simp [km, z4]
theorem kii {f : Nat → Bool} {n x : Nat} (h : x < n) : stR (km f n) x 0 [.b true] = km (Vq.updB f x) n := by
 apply List.ext_getElem
 ·simp [stR, km]
 ·intro i h1 h2
  have hi : i < n := by simpa [stR, km] using h1
  simp only [stR, km, List.getElem_modify, List.getElem_map, List.getElem_range, Vq.updB]
  by_cases e : x = i
  ·subst e; simp
  ·simp only [e, if_false, show ¬ i = x from fun q => e q.symm]
theorem kpk {f g : Nat → Bool} {n : Nat} (h : ∀ i, i < n → f i = g i) : km f n = km g n := by
 unfold km
 apply List.map_congr_left
 intro i hi
 rw [h i (List.mem_range.1 hi)]
def adjV (l : List (List D)) (i : Nat) : List Nat := (kac (nmsL (l.getD i []))).filterMap (plc l)
theorem kfl {l : List (List D)} {i : Nat} : ∀ x ∈ adjV l i, x < l.length := by
 intro x hx
 obtain ⟨d, -, hd⟩ := List.mem_filterMap.1 hx
 exact (kmc hd).1
theorem gz6 : ∀ y, okR zr126 zo126 (some ([.one (.i .i64 y)], [])) = true := fun _ => id rfl
theorem gz7 : ∀ y, asI (resC (some ([.one (.i .i64 y)], [])) 0 0) = y := fun _ => id rfl
theorem kzn (n1 : Int) (l0 : List (List D)) (n2 n3 n4 : Int) (b0 b1 b2 b3 : Bool) (n0 : Int) (l : List (List D)) (hl : l.length ≤ 1048576) (ht : ∀ r ∈ l, typL kb r) (i : Nat) (hi : i < l.length) (hk : (nmsL (l.getD i [])).length ≤ 1048576) (q1 : Int → SV → Bool → SV → List (List D) → List (List D) → Rs) (p : Vq.BB) (v w x : SV) :
  ∃ a b c d, la92o6 t126 n1 l0 n2 n3 n4 (i : Int) b0 b1 b2 b3 n0 l q1 KK 0 v w x (km p.2 l.length) (km p.1 l.length) = q1 a b c d (km (Vq.nmB p (adjV l i)).2 l.length) (km (Vq.nmB p (adjV l i)).1 l.length) := by
 have hri := kof ht kq i hi
 refine keb (α := Vq.BB) (σ := SV × SV × SV) (fun m j p s' => la92o6 t126 n1 l0 n2 n3 n4 (i : Int) b0 b1 b2 b3 n0 l q1 m (j : Int) s'.1 s'.2.1 s'.2.2 (km p.2 l.length) (km p.1 l.length)) (nmsL (l.getD i [])).length (fun j p' => p' = Vq.nmB p ((kac ((nmsL (l.getD i [])).take j)).filterMap (plc l))) (fun y => ∃ a b c d, y = q1 a b c d (km (Vq.nmB p (adjV l i)).2 l.length) (km (Vq.nmB p (adjV l i)).1 l.length))
  ?_ ?_ (nmsL (l.getD i [])).length 0 KK p (v, w, x) (by omega) (by rw [kl]; omega) (by simp [kac, Vq.nmB])
 ·intro m p' s' hp
  rw [List.take_length] at hp
  have e : decide (((nmsL (l.getD i [])).length : Int) < ((asL (nthD (l.getD i []) 6)).length : Int)) = false := ko _
  simp only [la92o6, Int.toNat_natCast, hri, e, ka, Bool.false_eq_true, if_false, hp]
  exact ⟨_, _, _, _, rfl⟩
 ·intro j m p' s' hj hp
  left
  have e : decide ((j : Int) < ((asL (nthD (l.getD i []) 6)).length : Int)) = true := kj hj
  have hrj := ktc (kaf (kpc ht hi)) kbc j hj
  have hg : (asL (nthD (l.getD i []) 6)).getD j [] = (nmsL (l.getD i []))[j] := khb hj
  have ht1 : (kac ((nmsL (l.getD i [])).take (j + 1))).filterMap (plc l) = (kac ((nmsL (l.getD i [])).take j)).filterMap (plc l) ++ [asI (nthD (nmsL (l.getD i []))[j] 1)].filterMap (plc l) := by
   rw [List.take_succ_eq_append_getElem hj]; simp only [kac, List.map_append, List.filterMap_append, List.map_cons, List.map_nil]; rfl
  simp only [la92o6, Int.toNat_natCast, hri, e, hg, hrj, kol n0 l _ hl ht, gz6, gz7, ka, if_true, kc j (by omega)]
  cases hq : plc l (asI (nthD (nmsL (l.getD i []))[j] 1)) with
  | none =>
   have h1 : atI l (asI (nthD (nmsL (l.getD i []))[j] 1)) = -1 := by simp only [atI, hq]
   have m1 : decide ((-1 : Int) ≥ 0) = false := rfl
   simp only [h1, m1, Bool.false_eq_true, if_false]
   refine ⟨p', (_, _, _), rfl, ?_⟩
   rw [ht1, hp]; simp only [List.filterMap_cons, hq, List.filterMap_nil, List.append_nil]
  | some y =>
   have h1 : atI l (asI (nthD (nmsL (l.getD i []))[j] 1)) = (y : Int) := by simp only [atI, hq]
   have hy := (kmc hq).1
   simp only [h1]
   have a1 : decide ((y : Int) ≥ 0) = true := by simp
   have a2 : ∀ f, decide ((y : Int) < ((km f l.length).length : Int)) = true := by intro f; rw [kkc, kj hy]
   have a3 : ∀ f, decide (1 ≤ 1 ∧ y < (km f l.length).length) = true := by intro f; rw [kkc]; simpa using hy
   simp only [a1, kxb, a2, a3, Bool.and_true, if_true, ka, Int.toNat_natCast, kii hy]
   refine ⟨Vq.setB p' y, (_, _, _), rfl, ?_⟩
   rw [ht1, hp]; simp only [List.filterMap_cons, hq, List.filterMap_nil, Vq.nmB, List.foldl_append, List.foldl_cons, List.foldl_nil]
theorem kio (n1 : Int) (l0 : List (List D)) (n0 n2 n3 : Int) (b0 b1 : Bool) (n4 : Int) (l : List (List D)) (hl : l.length ≤ 1048576) (ht : ∀ r ∈ l, typL kb r) (hk : ∀ r ∈ l, (nmsL r).length ≤ 1048576) (q1 : Int → SV → SV → Bool → SV → SV → SV → List (List D) → List (List D) → Rs) (p : Vq.BB) (s : SV × SV × SV × SV × SV × SV) :
  ∃ a b c d e f g, la92o3 t126 n1 l0 n0 n2 n3 b0 b1 n4 l q1 KK 0 s.1 s.2.1 s.2.2.1 s.2.2.2.1 s.2.2.2.2.1 s.2.2.2.2.2 (km p.2 l.length) (km p.1 l.length) = q1 a b c d e f g (km (Vq.rdB (adjV l) l.length p).2 l.length) (km (Vq.rdB (adjV l) l.length p).1 l.length) := by
 refine keb (α := Vq.BB) (σ := SV × SV × SV × SV × SV × SV) (fun m j p s => la92o3 t126 n1 l0 n0 n2 n3 b0 b1 n4 l q1 m (j : Int) s.1 s.2.1 s.2.2.1 s.2.2.2.1 s.2.2.2.2.1 s.2.2.2.2.2 (km p.2 l.length) (km p.1 l.length)) l.length (fun j p' => p' = (List.range j).foldl (Vq.plB (adjV l)) p) (fun y => ∃ a b c d e f g, y = q1 a b c d e f g (km (Vq.rdB (adjV l) l.length p).2 l.length) (km (Vq.rdB (adjV l) l.length p).1 l.length))
  ?_ ?_ l.length 0 KK p s (by omega) (by rw [kl]; omega) (by simp)
 ·intro m p' s' hp
  have e := ko l.length
  simp only [la92o3, e, Bool.false_eq_true, if_false, hp]
  exact ⟨_, _, _, _, _, _, _, rfl⟩
 ·intro j m p' s' hj hp
  left
  have a2 : (decide ((0 : Int) ≤ (j : Int)) && decide ((j : Int) < ((km p'.1 l.length).length : Int))) = true := by rw [kkc, kxb, kj hj]; rfl
  have a4 : (decide (1 ≤ ([D.b (p'.1 j)] : List D).length) && isF z4 0 [D.b (p'.1 j)]) = true := rfl
  have a5 : asB (nthD [D.b (p'.1 j)] 0) = p'.1 j := rfl
  have hfold : (List.range (j + 1)).foldl (Vq.plB (adjV l)) p = Vq.plB (adjV l) p' j := by rw [List.range_succ, List.foldl_append, hp]; rfl
  simp only [la92o3, kj hj, a2, Int.toNat_natCast, kyg hj, a4, a5, ka, if_true, kc j (by omega)]
  cases ho : p'.1 j with
  | false =>
   simp only [Bool.not_false, if_true]
   refine ⟨p', (_, _, _, _, _, _), rfl, ?_⟩
   rw [hfold, Vq.plB, ho]; rfl
  | true =>
   simp only [Bool.not_true, Bool.false_eq_true, if_false]
   obtain ⟨a, b, c, d, he⟩ := kzn n1 l0 n0 n2 n3 b0 b1 true false n4 l hl ht j hj (hk _ (kqb hj)) (fun (n5 : Int) (v0 : SV) (b2 : Bool) (v1 : SV) (l1 : List (List D)) (l2 : List (List D)) =>
    la92o3 t126 n1 l0 n0 n2 n3 b0 b1 n4 l q1 m ((j + 1 : Nat) : Int) (.d (.i .i64 n5)) (keepV [128, 960, 1216] v0) (.d (.b true)) (.d (.b false)) (.d (.b b2)) (keepV [128, 960, 1216] v1) l1 l2) p' s'.2.1 s'.2.2.2.2.1 s'.2.2.2.2.2
   refine ⟨Vq.nmB p' (adjV l j), (_, _, _, _, _, _), he, ?_⟩
   rw [hfold, Vq.plB, ho]; rfl
theorem kdo (n1 : Int) (l0 : List (List D)) (n0 n2 : Int) (b0 : Bool) (n3 : Int) (l : List (List D)) (hl : l.length ≤ 1048576) (ht : ∀ r ∈ l, typL kb r) (hk : ∀ r ∈ l, (nmsL r).length ≤ 1048576) (q1 : Int → SV → SV → SV → Bool → SV → SV → SV → SV → List (List D) → List (List D) → Rs) (h1 : ∀ a b c d e f g h i j k, q1 a b c d e f g h i j k = some ([.one (.l j)], [])) (p : Vq.BB) (s : SV × SV × SV × SV × SV × SV × SV × SV) :
    la92o1 t126 n1 l0 n0 n2 b0 n3 l q1 KK 0 s.1 s.2.1 s.2.2.1 s.2.2.2.1 s.2.2.2.2.1 s.2.2.2.2.2.1 s.2.2.2.2.2.2.1 s.2.2.2.2.2.2.2 (km p.2 l.length) (km p.1 l.length) = some ([.one (.l (km (Vq.itB (adjV l) l.length l.length p).2 l.length))], []) := by
  refine keb (α := Vq.BB) (σ := SV × SV × SV × SV × SV × SV × SV × SV) (fun m j p s => la92o1 t126 n1 l0 n0 n2 b0 n3 l q1 m (j : Int) s.1 s.2.1 s.2.2.1 s.2.2.2.1 s.2.2.2.2.1 s.2.2.2.2.2.1 s.2.2.2.2.2.2.1 s.2.2.2.2.2.2.2 (km p.2 l.length) (km p.1 l.length)) l.length (fun j p' => p' = Vq.itB (adjV l) l.length j p) (fun y => y = some ([.one (.l (km (Vq.itB (adjV l) l.length l.length p).2 l.length))], []))
    ?_ ?_ l.length 0 KK p s (by omega) (by rw [kl]; omega) rfl
  · intro m p' s' hp
    simp only [la92o1, ko, Bool.false_eq_true, if_false, hp, h1]
  · intro j m p' s' hj hp
    left
    simp only [la92o1, kj hj, if_true, kc j (by omega)]
    obtain ⟨a, b, c, d, e, f, g, he⟩ := kio n1 l0 n0 n2 (j : Int) b0 true n3 l hl ht hk (fun (n4 : Int) (v0 : SV) (v1 : SV) (b1 : Bool) (v2 : SV) (v3 : SV) (v4 : SV) (l1 : List (List D)) (l2 : List (List D)) =>
       la92o1 t126 n1 l0 n0 n2 b0 n3 l q1 m ((j + 1 : Nat) : Int) (.d (.i .i64 n4)) (keepV [128, 960, 1216] v0) (keepV [128, 960, 1216] v1) (.d (.b true)) (.d (.b b1)) (keepV [128, 960, 1216] v2) (keepV [128, 960, 1216] v3) (keepV [128, 960, 1216] v4) l1 l2) p' (s'.2.1, s'.2.2.1, s'.2.2.2.2.1, s'.2.2.2.2.2.1, s'.2.2.2.2.2.2.1, s'.2.2.2.2.2.2.2)
    exact ⟨Vq.rdB (adjV l) l.length p', (_, _, _, _, _, _, _, _), he, by rw [hp]; rfl⟩
structure GoodV (l : List (List D)) : Prop extends Few l where
 up : ∀ i j, i < j → j < l.length → idI (l.getD i []) < idI (l.getD j [])
 all : ∀ r ∈ l, ∀ d ∈ kac (nmsL r), (fnd l d).isSome = true
 dat : ∀ r ∈ l, (asS (nthD r 5)).size ≤ 64
 pln : ∀ r ∈ l, asI (nthD r 1) ≠ 2 → asI (nthD r 7) = 0 ∧ asI (nthD r 8) = 0
theorem GoodV.inj {l : List (List D)} (h : GoodV l) : ∀ i j, i < l.length → j < l.length → idI (l.getD i []) = idI (l.getD j []) → i = j := by
 intro i j hi hj e
 rcases Nat.lt_trichotomy i j with g | g | g
 ·have := h.up i j g hj; omega
 ·exact g
 ·have := h.up j i g hi; omega
theorem GoodV.place {l : List (List D)} (h : GoodV l) {i : Nat} (hi : i < l.length) : plc l (idI (l.getD i [])) = some i := by
 cases hq : plc l (idI (l.getD i [])) with
 | none =>
  have := ktg hq
  have h2 : (fnd l (idI (l.getD i []))).isSome = true := by
   unfold fnd; rw [List.find?_isSome]; exact ⟨_, kqb hi, by simp [idI]⟩
  rw [this] at h2; simp at h2
 | some j =>
  obtain ⟨h1, h2, -⟩ := kmc hq
  rw [h.inj j i h1 hi h2]
theorem GoodV.found {l : List (List D)} (h : GoodV l) {i : Nat} (hi : i < l.length) : fnd l (idI (l.getD i [])) = some (l.getD i []) := (kmc (h.place hi)).2.2
theorem GoodV.adj {l : List (List D)} (h : GoodV l) : ∀ i, i < l.length → ∀ d, d ∈ tgV l (idI (l.getD i [])) ↔ ∃ x ∈ adjV l i, idI (l.getD x []) = d := by
 intro i hi d
 simp only [tgV, h.found hi]
 constructor
 ·intro hd
  have := h.all _ (kqb hi) d hd
  rw [← klf, Option.isSome_iff_exists] at this
  obtain ⟨x, hx⟩ := this
  exact ⟨x, List.mem_filterMap.2 ⟨d, hd, hx⟩, (kmc hx).2.1⟩
 ·rintro ⟨x, hx, e⟩
  obtain ⟨d', hd, hx⟩ := List.mem_filterMap.1 hx
  rw [(kmc hx).2.1] at e
  exact e ▸ hd
open Classical in
theorem klh (n1 : Int) (l : List (List D)) (h : GoodV l) (i : Nat) (hi : i < l.length) : t92 n1 l (idI (l.getD i [])) = some ([.one (.l (km (fun x => decide (Vq.Reach (tgV l) (idI (l.getD i [])) (idI (l.getD x [])))) l.length))], []) := by
 have hn := h.n
 have hl : l.length ≤ 1048576 := by omega
 have e1 : decide (0 ≤ (l.length : Int) ∧ (l.length : Int) ≤ lim ∧ True) = true := by unfold lim; simp; omega
 have e2 : atI l (idI (l.getD i [])) = (i : Int) := by simp only [atI, h.place hi]
 have e3 : decide ((i : Int) < 0) = false := by simp
 have a2 : ∀ f, (decide ((0 : Int) ≤ (i : Int)) && decide ((i : Int) < ((km f l.length).length : Int))) = true := by intro f; rw [kkc, kxb, kj hi]; rfl
 have a3 : ∀ f, decide (1 ≤ 1 ∧ i < (km f l.length).length) = true := by intro f; rw [kkc]; simpa using hi
 simp only [t92, ta92, kol n1 l _ hl h.t, gz6, gz7, e1, e2, e3, ka, Bool.false_eq_true, if_false, Int.toNat_natCast, kkm, a2, a3, kii hi]
 refine Eq.trans (kdo n1 l (idI (l.getD i [])) (i : Int) false n1 l hl h.t (fun r hr => by have := h.k r hr; omega) _ (fun _ _ _ _ _ _ _ _ _ _ _ => rfl) (Vq.updB (fun _ => false) i, fun _ => false) (SV.undef, SV.undef, SV.undef, SV.undef, SV.undef, SV.undef, SV.undef, SV.undef)) ?_
 have : km (Vq.itB (adjV l) l.length l.length (Vq.updB (fun _ => false) i, fun _ => false)).2 l.length = km (fun x => decide (Vq.Reach (tgV l) (idI (l.getD i [])) (idI (l.getD x [])))) l.length := by
  apply kpk
  intro x hx
  rw [Bool.eq_iff_iff, Vq.itB_reach (fun i => kfl) hi, decide_eq_true_eq]
  exact Vq.reach_iff h.adj (fun i => kfl) h.inj hi x hx
 rw [this]
theorem kjg (a b : Nat) (h : a + b < 4611686018427387904) : w64 ((a : Int) + (b : Int)) = ((a + b : Nat) : Int) := by
 rw [ki _ (by omega)]; omega
theorem kvj {α : Type} {f : α → Nat} {c : Nat} : ∀ (l : List α), (∀ x ∈ l, f x ≤ c) → (l.map f).sum ≤ l.length * c
 | [], _ => by simp
 | x :: l, h => by
  have h1 := kvj l (fun x hx => h x (by simp [hx]))
  have h2 := h x (by simp)
  simp only [List.map_cons, List.sum_cons, List.length_cons, Nat.add_mul]; omega
theorem kse {α : Type} (f : α → Nat) {l : List α} {i : Nat} (hi : i < l.length) : ((l.take (i + 1)).map f).sum = ((l.take i).map f).sum + f l[i] := by
 rw [List.take_succ_eq_append_getElem hi, List.map_append, List.sum_append_nat]; simp
theorem ked {α : Type} {f : α → Nat} {c : Nat} {l : List α} (h : ∀ x ∈ l, f x ≤ c) {i n : Nat} (hn : l.length ≤ n) : ((l.take i).map f).sum ≤ n * c := by
 refine Nat.le_trans (kvj _ fun x hx => h x (List.mem_of_mem_take hx)) ?_
 exact Nat.mul_le_mul_right _ (by simp; omega)
def datN (r : List D) : Nat := (asS (nthD r 5)).size
open Classical in
noncomputable def blw (l : List (List D)) (s : Int) (n : Nat) : List Nat := (List.range n).filter fun x => decide (Vq.Reach (tgV l) s (idI (l.getD x [])))
noncomputable def usB (l : List (List D)) (s : Int) : Nat := ((blw l s l.length).map fun x => datN (l.getD x [])).sum
noncomputable def usN (l : List (List D)) (s : Int) : Nat := (blw l s l.length).length
theorem gz8 : ∀ y, okR zr100 zo100 (some ([.one (.l y)], [])) = true := fun _ => id rfl
theorem gz9 : ∀ y, asL (resC (some ([.one (.l y)], [])) 0 0) = y := fun _ => id rfl
theorem gz10 : ∀ b r, asB (resC (some ([.one (.b b), .agg r], [])) 0 0) = b := fun _ _ => id rfl
theorem kul (n1 : Int) (l : List (List D)) (h : GoodV l) (s : Int) : t135 n1 l s = some ([.one (.i .i64 (usB l s)), .one (.i .i64 (usN l s))], []) := by
 obtain ⟨o, hnd, hlen, hmem, hb⟩ := kzj n1 l h.toFew s
 have hn := h.n
 let g : Int → Nat := fun x => match fnd l x with | some r => datN r | none => 0
 have hg : ∀ x ∈ o, g x ≤ 64 := by
  intro x hx
  simp only [g]
  cases hq : fnd l x with
  | none => simp
  | some r => exact h.dat r (kcf hq).1
 have hperm : o.Perm ((blw l s l.length).map fun x => idI (l.getD x [])) := by
  refine Vq.perm_of hnd ?_ ?_
  ·unfold blw List.Nodup
   rw [List.pairwise_map]
   refine List.Pairwise.imp_of_mem ?_ (List.nodup_range.filter _ : List.Pairwise _ _)
   intro a b ha hb2 hab e
   exact hab (h.inj a b (List.mem_range.1 (List.mem_filter.1 ha).1) (List.mem_range.1 (List.mem_filter.1 hb2).1) e)
  ·intro a
   rw [hmem]
   simp only [List.mem_map, blw, List.mem_filter, List.mem_range, decide_eq_true_eq]
   constructor
   ·intro hr
    have hu := kmh hr
    obtain ⟨r, hr1, hr2⟩ := List.mem_flatMap.1 hu
    have := h.all r hr1 a hr2
    rw [← klf, Option.isSome_iff_exists] at this
    obtain ⟨x, hx⟩ := this
    obtain ⟨h1, h2, -⟩ := kmc hx
    exact ⟨x, ⟨h1, by rw [h2]; exact hr⟩, h2⟩
   ·rintro ⟨x, ⟨_, h2⟩, rfl⟩; exact h2
 have hsum : (o.map g).sum = usB l s := by
  rw [(hperm.map g).sum_nat, List.map_map]
  unfold usB
  congr 1
  apply List.map_congr_left
  intro x hx
  have hx := List.mem_range.1 (List.mem_filter.1 hx).1
  simp only [Function.comp, g, h.found hx]
 have hl2 : o.length = usN l s := by rw [hperm.length_eq, List.length_map]; rfl
 have hlo := ksd o
 have ew2 : ∀ b r, (r = [.i .i64 0, .i .i64 0, .i .i64 0, .i .i64 0, .i .i64 0, .s ⟨#[]⟩, .l [], .i .i64 0, .i .i64 0] ∨ typL kb r) → okR zr132 zo132 (some ([.one (.b b), .agg r], [])) = true := by
  intro b r hr
  rcases hr with rfl | hr
  ·rfl
  ·obtain ⟨x1, x2, x3, x4, x5, x6, x7, x8, x9, rfl, -⟩ := kgb hr; rfl
 simp only [t135, ta135, hb, gz8, gz9, ka]
 refine keb (α := Nat) (σ := SV × SV × SV × SV) (fun m i b s' => la135o0 t100 t132 n1 l s 0 0 ((ints o).length : Int) (ints o) (fun (n0 : Int) (v0 : SV) (v1 : SV) (n2 : Int) (b0 : Bool) (v2 : SV) => some ([.one (.i .i64 n0), .one (.i .i64 ((ints o).length : Int))], [])) m (b : Int) s'.1 s'.2.1 (i : Int) s'.2.2.1 s'.2.2.2) o.length (fun i b => b = ((o.take i).map g).sum) (fun y => y = some ([.one (.i .i64 (usB l s)), .one (.i .i64 (usN l s))], []))
  ?_ ?_ o.length 0 KK 0 (SV.undef, SV.undef, SV.undef, SV.undef) (by omega) (by rw [kl]; omega) (by simp)
 ·intro m b s' hp
  rw [List.take_length, hsum] at hp
  have e : decide ((o.length : Int) < ((ints o).length : Int)) = false := by rw [hlo]; simp
  simp only [la135o0, e, Bool.false_eq_true, if_false, hp]
  rw [hlo, hl2]
 ·intro i m b s' hi hp
  left
  have e : decide ((i : Int) < ((ints o).length : Int)) = true := by rw [hlo]; exact kj hi
  have hbl : b ≤ 288 * 64 := by rw [hp]; exact ked hg hlen
  have a4 : (decide (1 ≤ ([D.i .i64 o[i]] : List D).length) && isF z3 0 [D.i .i64 o[i]]) = true := rfl
  have a5 : asI (nthD [D.i .i64 o[i]] 0) = o[i] := rfl
  have hst := kse g hi
  have hw := kc i (by omega)
  have e6 := kug n1 l o[i] (by omega) h.t
  cases hq : fnd l o[i] with
  | none =>
   rw [hq] at e6
   have hg0 : g o[i] = 0 := by simp only [g, hq]
   simp only [la135o0, e, kxb, Bool.and_true, Int.toNat_natCast, kzf hi, a4, a5, e6, ew2 _ _ (.inl rfl), gz10, Option.isSome_none, Option.getD_none, ka, if_true, Bool.not_false, Bool.not_true, Bool.false_eq_true, if_false, hw]
   exact ⟨b, (_, _, _, _), rfl, by omega⟩
  | some r =>
   rw [hq] at e6
   have hr := (kcf hq).1
   have hg0 : g o[i] = datN r := by simp only [g, hq]
   have hd := h.dat r hr
   have e7 : asS (resC (some ([.one (.b true), .agg r], [])) 1 5) = asS (nthD r 5) := by
    obtain ⟨x1, x2, x3, x4, x5, x6, x7, x8, x9, rfl, -⟩ := kgb (h.t r hr); rfl
   have hw2 : w64 ((b : Int) + ((asS (nthD r 5)).size : Int)) = ((b + datN r : Nat) : Int) := kjg b (datN r) (by unfold datN; omega)
   simp only [la135o0, e, kxb, Bool.and_true, Int.toNat_natCast, kzf hi, a4, a5, e6, ew2 _ _ (.inr (h.t r hr)), gz10, Option.isSome_some, Option.getD_some, ka, if_true, Bool.not_true, Bool.not_false, hw, e7, hw2]
   exact ⟨b + datN r, (_, _, _, _), rfl, by omega⟩
theorem gz11 : ∀ y, okR zr92 zo92 (some ([.one (.l y)], [])) = true := fun _ => id rfl
theorem gz12 : ∀ b, (decide (1 ≤ ([D.b b] : List D).length) && isF z4 0 [D.b b]) = true := fun _ => id rfl
theorem gz13 : ∀ b, asB (nthD [D.b b] 0) = b := fun _ => id rfl
theorem kll (n1 : Int) (l : List (List D)) (h : GoodV l) (j : Nat) (hj : j < l.length) : t127 n1 l (idI (l.getD j [])) = some ([.one (.i .i64 (usB l (idI (l.getD j [])))), .one (.i .i64 (usN l (idI (l.getD j []))))], []) := by
 have hn := h.n
 have hb := klh n1 l h j hj
 generalize idI (l.getD j []) = s at hb ⊢
 simp only [t127, ta127, hb, gz11, gz9, ka]
 have hbl : ∀ i, i ≤ l.length → (blw l s i).length ≤ 24 ∧ ((blw l s i).map fun x => datN (l.getD x [])).sum ≤ 1536 := by
  intro i hi
  have h1 : (blw l s i).length ≤ 24 := by
   unfold blw
   have := List.length_filter_le (fun x => @decide (Vq.Reach (tgV l) s (idI (l.getD x []))) (Classical.propDecidable _)) (List.range i)
   simp only [List.length_range] at this
   omega
  refine ⟨h1, ?_⟩
  have := kvj (f := fun x => datN (l.getD x [])) (c := 64) (blw l s i) (fun x hx => by
   have hx := (List.mem_filter.1 hx).1
   exact h.dat _ (kqb (by have := List.mem_range.1 hx; omega)))
  omega
 refine keb (α := Nat × Nat) (σ := SV × SV) (fun m i b s' => la127o0 t92 n1 l s 0 0 n1 l (km (fun x => @decide (Vq.Reach (tgV l) s (idI (l.getD x []))) (Classical.propDecidable _)) l.length) (fun (n0 : Int) (n2 : Int) (n3 : Int) (b0 : Bool) (v0 : SV) => some ([.one (.i .i64 n0), .one (.i .i64 n2)], [])) m (b.1 : Int) (b.2 : Int) (i : Int) s'.1 s'.2) l.length (fun i b => b.1 = ((blw l s i).map fun x => datN (l.getD x [])).sum ∧ b.2 = (blw l s i).length) (fun y => y = some ([.one (.i .i64 (usB l s)), .one (.i .i64 (usN l s))], []))
  ?_ ?_ l.length 0 KK (0, 0) (SV.undef, SV.undef) (by omega) (by rw [kl]; omega) (by simp [blw])
 ·intro m b s' hp
  have e : ∀ f, decide ((l.length : Int) < ((km f l.length).length : Int)) = false := by intro f; rw [kkc]; simp
  simp only [la127o0, e, Bool.false_eq_true, if_false, hp.1, hp.2]
  rfl
 ·intro i m b s' hi hp
  left
  have e : ∀ f, decide ((i : Int) < ((km f l.length).length : Int)) = true := by intro f; rw [kkc]; exact kj hi
  have hbb := hbl i (by omega)
  have hw := kc i (by omega)
  have hr := kof h.t kq i hi
  have hd := h.dat _ (kqb hi)
  have hst : blw l s (i + 1) = blw l s i ++ if @decide (Vq.Reach (tgV l) s (idI (l.getD i []))) (Classical.propDecidable _) = true then [i] else [] := by
   unfold blw; rw [List.range_succ, List.filter_append]
   congr 1
   simp only [List.filter_cons, List.filter_nil]
  simp only [la127o0, e, kxb, Bool.and_true, Int.toNat_natCast, kyg hi, gz12, gz13, ka, if_true, hw]
  cases hc : @decide (Vq.Reach (tgV l) s (idI (l.getD i []))) (Classical.propDecidable _) with
  | false =>
   rw [hc] at hst
   simp only [Bool.false_eq_true, if_false, List.append_nil] at hst ⊢
   exact ⟨b, (_, _), rfl, by rw [hst]; exact hp⟩
  | true =>
   rw [hc] at hst
   simp only [if_true] at hst ⊢
   have hw2 : w64 ((b.1 : Int) + ((asS (nthD (l.getD i []) 5)).size : Int)) = ((b.1 + datN (l.getD i []) : Nat) : Int) := kjg b.1 (datN (l.getD i [])) (by have hd' : datN (l.getD i []) ≤ 64 := hd; omega)
   have hw3 : w64 ((b.2 : Int) + 1) = ((b.2 + 1 : Nat) : Int) := kc _ (by omega)
   rw [kxb, Bool.true_and] at hr
   simp only [Bool.true_and, hr, ka, hw2, hw3]
   refine ⟨(b.1 + datN (l.getD i []), b.2 + 1), (_, _), rfl, ?_⟩
   rw [hst]
   simp only [List.map_append, List.sum_append_nat, List.map_cons, List.map_nil, List.sum_cons, List.sum_nil, List.length_append, List.length_cons, List.length_nil]
   omega
noncomputable def kgd (l : List (List D)) (r : List D) : Bool := ((decide (asI (nthD r 7) > (0 : Int))) && (decide ((usB l (idI r) : Int) > asI (nthD r 7)))) || ((decide (asI (nthD r 8) > (0 : Int))) && (decide ((usN l (idI r) : Int) > asI (nthD r 8))))
noncomputable def kid (l : List (List D)) : Bool := !allW (fun i => !kgd l (l.getD i [])) l.length 0
theorem gz14 : ∀ x y, okR zr135 zo135 (some ([.one (.i .i64 x), .one (.i .i64 y)], [])) = true := fun _ _ => id rfl
theorem khm (n1 : Int) (l : List (List D)) (h : GoodV l) (a1 a2 a3 a4 a5 : Int) (s6 : ByteArray) (l7 : List (List D)) (a8 a9 : Int) : t105 n1 l a1 a2 a3 a4 a5 s6 l7 a8 a9 = some ([.one (.b (kgd l [.i .i64 a1, .i .i64 a2, .i .i64 a3, .i .i64 a4, .i .i64 a5, .s s6, .l l7, .i .i64 a8, .i .i64 a9]))], []) := by
 simp only [t105, ta105, kul n1 l h, gz14, ka]
 rfl
theorem gz15 : ∀ x, okR zr105 zo105 (some ([.one (.b x)], [])) = true := fun _ => id rfl
theorem gz16 : ∀ x, okR zr134 zo134 (some ([.one (.i .i64 x)], [])) = true := fun _ => id rfl
theorem gz17 : ∀ x, asI (resC (some ([.one (.i .i64 x)], [])) 0 0) = x := fun _ => id rfl
theorem kap (n1 : Int) (l : List (List D)) (h : GoodV l) : t104 l n1 l = some ([.one (.b (kid l))], []) := by
 have hn := h.n
 have key : ∃ z : Int, t134 l n1 l = some ([.one (.i .i64 z)], []) ∧ decide (z ≥ 0) = kid l := by
  refine keb (α := Unit) (σ := SV × SV × SV) (fun m i _ s' => la134o0 t105 l n1 l 0 (l.length : Int) (fun (n0 : Int) (b0 : Bool) (b1 : Bool) => some ([.one (.i .i64 n0)], [])) (fun (v0 : SV) (n2 : Int) (b2 : Bool) (v1 : SV) => some ([.one (.i .i64 (-1 : Int))], [])) m s'.1 (i : Int) s'.2.1 s'.2.2) l.length (fun i _ => ∀ j, j < i → kgd l (l.getD j []) = false) (fun y => ∃ z : Int, y = some ([.one (.i .i64 z)], []) ∧ decide (z ≥ 0) = kid l)
   ?_ ?_ l.length 0 KK () (SV.undef, SV.undef, SV.undef) (by omega) (by rw [kl]; omega) (by intro j hj; omega)
  ·intro m _ s' hp
   simp only [la134o0, ko, Bool.false_eq_true, if_false]
   refine ⟨-1, rfl, ?_⟩
   have : allW (fun i => !kgd l (l.getD i [])) l.length 0 = true := (kvb _ _).2 (fun j _ hj => by simp only [hp j (by omega), Bool.not_false])
   simp only [kid, this]
   rfl
  ·intro i m _ s' hi hp
   have hr := ktb h.t kq i hi
   have hg := kqb hi
   obtain ⟨x1, x2, x3, x4, x5, x6, x7, x8, x9, er, -⟩ := kgb (h.t _ hg)
   have ho := khm n1 l h x1 x2 x3 x4 x5 x6 x7 x8 x9
   rw [← er] at ho
   have eo : t105 n1 l (asI (nthD (l.getD i []) 0)) (asI (nthD (l.getD i []) 1)) (asI (nthD (l.getD i []) 2)) (asI (nthD (l.getD i []) 3)) (asI (nthD (l.getD i []) 4)) (asS (nthD (l.getD i []) 5)) (asL (nthD (l.getD i []) 6)) (asI (nthD (l.getD i []) 7)) (asI (nthD (l.getD i []) 8)) = some ([.one (.b (kgd l (l.getD i [])))], []) := by
    rw [← ho, er]; rfl
   simp only [la134o0, kj hi, Int.toNat_natCast, hr, eo, gz15, gz5, ka, if_true, kc i (by omega)]
   cases hc : kgd l (l.getD i []) with
   | false =>
    left
    simp only [Bool.false_eq_true, if_false]
    refine ⟨(), (_, _, _), rfl, ?_⟩
    intro j hj
    by_cases e : j = i
    ·rw [e]; exact hc
    ·exact hp j (by omega)
   | true =>
    right
    simp only [if_true]
    refine ⟨i, rfl, ?_⟩
    have : allW (fun i => !kgd l (l.getD i [])) l.length 0 = false := by
     rw [Bool.eq_false_iff]
     intro hq
     have := (kvb _ _).1 hq i (by omega) (by omega)
     simp only [hc, Bool.not_true] at this
     cases this
    simp only [kid, this]
    simp
 obtain ⟨z, hz, hd⟩ := key
 simp only [t104, ta104, hz, gz16, gz17, ka, hd]
theorem gz18 : ∀ x y, okR zr127 zo127 (some ([.one (.i .i64 x), .one (.i .i64 y)], [])) = true := fun _ _ => id rfl
theorem gz19 : ∀ x y, asI (resC (some ([.one (.i .i64 x), .one (.i .i64 y)], [])) 0 0) = x := fun _ _ => id rfl
theorem gz20 : ∀ x y, asI (resC (some ([.one (.i .i64 x), .one (.i .i64 y)], [])) 1 0) = y := fun _ _ => id rfl
theorem kwm (n1 : Int) (l : List (List D)) (h : GoodV l) : t95 n1 l = some ([.one (.b (kid l))], []) := by
 have hn := h.n
 have key := kyc (σ := SV × SV × SV × SV × SV) (fun m i s' => la95o0 t127 n1 l false n1 l (fun _ _ _ _ _ _ _ _ _ _ _ _ _ _ _ => some ([.one (.b true)], [])) (fun _ _ _ _ _ _ => some ([.one (.b false)], [])) m (i : Int) s'.1 s'.2.1 s'.2.2.1 s'.2.2.2.1 s'.2.2.2.2) l.length (fun i => !kgd l (l.getD i [])) (some ([.one (.b true)], [])) (some ([.one (.b false)], []))
  (by intro m s'; simp only [la95o0, ko, Bool.false_eq_true, if_false])
  (by
   intro i m s' hi
   have hr := ktb h.t kq i hi
   have hp := h.pln _ (kqb hi)
   have hu := kll n1 l h i hi
   have hu : t127 n1 l (asI (nthD (l.getD i []) 0)) = some ([.one (.i .i64 (usB l (idI (l.getD i [])))), .one (.i .i64 (usN l (idI (l.getD i []))))], []) := hu
   simp only [la95o0, kj hi, Int.toNat_natCast, hr, hu, gz18, gz19, gz20, ka, if_true, kc i (by omega)]
   by_cases hc : ((asI (nthD (l.getD i []) 1) != 2) || ((asI (nthD (l.getD i []) 7) == 0) && (asI (nthD (l.getD i []) 8) == 0))) = true
   ·left
    have hz : asI (nthD (l.getD i []) 7) = 0 ∧ asI (nthD (l.getD i []) 8) = 0 := by
     simp only [Bool.or_eq_true, Bool.and_eq_true, bne_iff_ne, beq_iff_eq] at hc
     rcases hc with hc | hc
     ·exact hp hc
     ·exact hc
    simp only [hc, if_true]
    refine ⟨?_, (_, _, _, _, _), rfl⟩
    simp only [kgd, hz.1, hz.2]
    simp
   ·rw [Bool.not_eq_true] at hc
    simp only [hc, Bool.false_eq_true, if_false]
    cases ho : kgd l (l.getD i []) with
    | true =>
     right
     have ho' := ho
     unfold kgd at ho'
     simp only [ho', if_true]
     exact ⟨rfl, trivial⟩
    | false =>
     left
     have ho' := ho
     unfold kgd at ho'
     simp only [ho', Bool.false_eq_true, if_false]
     exact ⟨rfl, (_, _, _, _, _), rfl⟩) l.length 0 KK (SV.undef, SV.undef, SV.undef, SV.undef, SV.undef) (by omega) (by rw [kl]; omega)
 refine Eq.trans key ?_
 unfold kid
 split
 ·rename_i hq; rw [hq]; rfl
 ·rename_i hq; rw [Bool.not_eq_true] at hq; rw [hq]; rfl
def cntN (id : Int) (r : List D) : Nat := ((nmsL r).filter fun e => idOf e == id).length
def nmdN (l : List (List D)) (id : Int) : Nat := (l.map (cntN id)).sum
def totN (l : List (List D)) : Nat := (l.map datN).sum
theorem kcm {l : List (List D)} (h : Few l) (id : Int) : ∀ r ∈ l, cntN id r ≤ 12 := by
 intro r hr
 have := h.k r hr
 have h2 := List.length_filter_le (fun e => idOf e == id) (nmsL r)
 unfold cntN; omega
theorem klj {id : Int} {L : List (List D)} {j : Nat} (hj : j < L.length) : ((L.take (j + 1)).filter fun e => idOf e == id).length = ((L.take j).filter fun e => idOf e == id).length + if idOf L[j] == id then 1 else 0 := by
 rw [List.take_succ_eq_append_getElem hj, List.filter_append, List.length_append]
 congr 1
 simp only [List.filter_cons, List.filter_nil]
 split <;> rfl
theorem kam (n1 : Int) (l : List (List D)) (h : GoodV l) : t103 n1 l = some ([.one (.i .i64 (totN l))], []) := by
 have hn := h.n
 refine keb (α := Nat) (σ := SV) (fun m i b s' => l103o0 n1 l 0 l (l.length : Int) (fun n0 _ _ => some ([.one (.i .i64 n0)], [])) m (b : Int) (i : Int) s') l.length (fun i b => b = ((l.take i).map datN).sum) (fun y => y = some ([.one (.i .i64 (totN l))], []))
  ?_ ?_ l.length 0 KK 0 SV.undef (by omega) (by rw [kl]; omega) (by simp)
 ·intro m b s' hp
  rw [List.take_length] at hp
  simp only [l103o0, ko, Bool.false_eq_true, if_false, hp]
  rfl
 ·intro i m b s' hi hp
  left
  have hr := ktc h.t kq i hi
  have hb : b ≤ 24 * 64 := by rw [hp]; exact ked h.dat hn
  have hd : datN l[i] ≤ 64 := h.dat _ (List.getElem_mem hi)
  have hw2 : w64 ((b : Int) + ((asS (nthD l[i] 5)).size : Int)) = ((b + datN l[i] : Nat) : Int) := kjg b (datN l[i]) (by omega)
  have hg : l.getD i [] = l[i] := khb hi
  simp only [l103o0, kj hi, Int.toNat_natCast, hg, hr, ka, if_true, kc i (by omega), hw2]
  exact ⟨_, _, rfl, by rw [kse datN hi, hp]⟩
theorem kyl (n1 : Int) (l : List (List D)) (h : GoodV l) : t94 n1 l = some ([.one (.i .i64 (totN l))], []) := by
 have hn := h.n
 refine keb (α := Nat) (σ := SV) (fun m i b s' => l94o0 n1 l 0 n1 l (fun n0 _ _ => some ([.one (.i .i64 n0)], [])) m (b : Int) (i : Int) s') l.length (fun i b => b = ((l.take i).map datN).sum) (fun y => y = some ([.one (.i .i64 (totN l))], []))
  ?_ ?_ l.length 0 KK 0 SV.undef (by omega) (by rw [kl]; omega) (by simp)
 ·intro m b s' hp
  rw [List.take_length] at hp
  simp only [l94o0, ko, Bool.false_eq_true, if_false, hp]
  rfl
 ·intro i m b s' hi hp
  left
  have hr := ktc h.t kq i hi
  have hb : b ≤ 24 * 64 := by rw [hp]; exact ked h.dat hn
  have hd : datN l[i] ≤ 64 := h.dat _ (List.getElem_mem hi)
  have hw2 : w64 ((b : Int) + ((asS (nthD l[i] 5)).size : Int)) = ((b + datN l[i] : Nat) : Int) := kjg b (datN l[i]) (by omega)
  have hg : l.getD i [] = l[i] := khb hi
  simp only [l94o0, kj hi, Int.toNat_natCast, hg, hr, ka, if_true, kc i (by omega), hw2]
  exact ⟨_, _, rfl, by rw [kse datN hi, hp]⟩
theorem krl (n1 : Int) (l : List (List D)) (h : GoodV l) (id : Int) : t102 n1 l id = some ([.one (.i .i64 (nmdN l id))], []) := by
 have hn := h.n
 refine keb (α := Nat) (σ := SV × SV × SV × SV × SV × SV) (fun m i b s' => l102o0 n1 l id 0 l (l.length : Int) (fun n0 _ _ _ _ _ _ _ => some ([.one (.i .i64 n0)], [])) m (b : Int) (i : Int) s'.1 s'.2.1 s'.2.2.1 s'.2.2.2.1 s'.2.2.2.2.1 s'.2.2.2.2.2) l.length (fun i b => b = ((l.take i).map (cntN id)).sum) (fun y => y = some ([.one (.i .i64 (nmdN l id))], []))
  ?_ ?_ l.length 0 KK 0 (SV.undef, SV.undef, SV.undef, SV.undef, SV.undef, SV.undef) (by omega) (by rw [kl]; omega) (by simp)
 ·intro m b s' hp
  rw [List.take_length] at hp
  simp only [l102o0, ko, Bool.false_eq_true, if_false, hp]
  rfl
 ·intro i m b s' hi hp
  left
  have hr := ktc h.t kq i hi
  have hb : b ≤ 24 * 12 := by rw [hp]; exact ked (kcm h.toFew id) hn
  have hg : l.getD i [] = l[i] := khb hi
  have hk : (nmsL l[i]).length ≤ 12 := h.k _ (List.getElem_mem hi)
  simp only [l102o0, kj hi, Int.toNat_natCast, hg, hr, ka, if_true, kc i (by omega)]
  suffices hs : ∀ (q1 : Int → Int → Bool → SV → Rs) (n2 : Int) (l0 : List (List D)) (n3 n4 : Int) (b0 : Bool) (n5 n6 n7 n8 n9 : Int) (s0 : ByteArray) (l1 : List (List D)) (n10 n11 : Int) (v w : SV), ∃ x y z, l102o2 n1 l id n2 l0 n3 n4 b0 (nmsL l[i]) ((nmsL l[i]).length : Int) n5 n6 n7 n8 n9 s0 l1 n10 n11 q1 KK (b : Int) 0 v w = q1 ((b + cntN id l[i] : Nat) : Int) x y z by
   obtain ⟨x, y, z, e⟩ := hs (fun (n12 : Int) (n13 : Int) (b1 : Bool) (v0 : SV) =>
    l102o0 n1 l id 0 l (l.length : Int) (fun n0 _ _ _ _ _ _ _ => some ([.one (.i .i64 n0)], [])) m n12 ((i + 1 : Nat) : Int) (.d (.b true)) (.d (.l (asL (nthD l[i] 6)))) (.d (.i .i64 ((asL (nthD l[i] 6)).length : Int))) (.d (.i .i64 n13)) (.d (.b b1)) (keepV [] v0)) 0 l (l.length : Int) (i : Int) true (asI (nthD l[i] 0)) (asI (nthD l[i] 1)) (asI (nthD l[i] 2)) (asI (nthD l[i] 3)) (asI (nthD l[i] 4)) (asS (nthD l[i] 5)) (asL (nthD l[i] 6)) (asI (nthD l[i] 7)) (asI (nthD l[i] 8)) s'.2.2.2.2.1 s'.2.2.2.2.2
   exact ⟨b + cntN id l[i], (_, _, _, _, _, _), e, by rw [kse (cntN id) hi, hp]⟩
  intro q1 n2 l0 n3 n4 b0 n5 n6 n7 n8 n9 s0 l1 n10 n11 v w
  refine keb (α := Nat) (σ := SV × SV) (fun m j c s' => l102o2 n1 l id n2 l0 n3 n4 b0 (nmsL l[i]) ((nmsL l[i]).length : Int) n5 n6 n7 n8 n9 s0 l1 n10 n11 q1 m (c : Int) (j : Int) s'.1 s'.2) (nmsL l[i]).length (fun j c => c = b + (((nmsL l[i]).take j).filter fun e => idOf e == id).length) (fun y => ∃ x' y' z', y = q1 ((b + cntN id l[i] : Nat) : Int) x' y' z')
   ?_ ?_ (nmsL l[i]).length 0 KK b (v, w) (by omega) (by rw [kl]; omega) (by simp)
  ·intro m c s' hc
   rw [List.take_length] at hc
   simp only [l102o2, ko, Bool.false_eq_true, if_false, hc]
   exact ⟨_, _, _, rfl⟩
  ·intro j m c s' hj hc
   left
   have hrj := ktc (kaf (h.t _ (List.getElem_mem hi))) kbc j hj
   have hgj : (nmsL l[i]).getD j [] = (nmsL l[i])[j] := khb hj
   have hcl : c ≤ 24 * 12 + 12 := by
    have := List.length_filter_le (fun e => idOf e == id) ((nmsL l[i]).take j)
    simp only [List.length_take] at this
    omega
   have hct := klj (id := id) hj
   simp only [l102o2, kj hj, Int.toNat_natCast, hgj, hrj, ka, if_true, kc j (by omega), kc c (by omega)]
   cases hq : (idOf (nmsL l[i])[j] == id) with
   | true =>
    have hq' : (asI (nthD (nmsL l[i])[j] 1) == id) = true := hq
    rw [hq] at hct
    simp only [hq', if_true] at hct ⊢
    exact ⟨c + 1, (_, _), rfl, by omega⟩
   | false =>
    have hq' : (asI (nthD (nmsL l[i])[j] 1) == id) = false := hq
    rw [hq] at hct
    simp only [hq', Bool.false_eq_true, if_false] at hct ⊢
    exact ⟨c, (_, _), rfl, by omega⟩
theorem kpl (n1 : Int) (l : List (List D)) (h : GoodV l) (id : Int) : t93 n1 l id = some ([.one (.i .i64 (nmdN l id))], []) := by
  have hn := h.n
  refine keb (α := Nat) (σ := SV × SV × SV × SV) (fun m i b s' => l93o0 n1 l id 0 n1 l (fun n0 _ _ _ _ _ => some ([.one (.i .i64 n0)], [])) m (b : Int) (i : Int) s'.1 s'.2.1 s'.2.2.1 s'.2.2.2) l.length (fun i b => b = ((l.take i).map (cntN id)).sum) (fun y => y = some ([.one (.i .i64 (nmdN l id))], []))
    ?_ ?_ l.length 0 KK 0 (SV.undef, SV.undef, SV.undef, SV.undef) (by omega) (by rw [kl]; omega) (by simp)
  · intro m b s' hp
    rw [List.take_length] at hp
    simp only [l93o0, ko, Bool.false_eq_true, if_false, hp]
    rfl
  · intro i m b s' hi hp
    left
    have hri := kof h.t kq i hi
    have hb : b ≤ 24 * 12 := by rw [hp]; exact ked (kcm h.toFew id) hn
    have hg : l.getD i [] = l[i] := khb hi
    have hk : (nmsL l[i]).length ≤ 12 := h.k _ (List.getElem_mem hi)
    simp only [l93o0, kj hi, if_true, kc i (by omega)]
    suffices hs : ∀ (q1 : Int → Int → Bool → SV → Rs) (b0 : Bool) (v w : SV), ∃ x y z, l93o2 n1 l id 0 (i : Int) b0 n1 l q1 KK (b : Int) 0 v w = q1 ((b + cntN id l[i] : Nat) : Int) x y z by
      obtain ⟨x, y, z, e⟩ := hs (fun (n2 : Int) (n3 : Int) (b1 : Bool) (v0 : SV) =>
       l93o0 n1 l id 0 n1 l (fun n0 _ _ _ _ _ => some ([.one (.i .i64 n0)], [])) m n2 ((i + 1 : Nat) : Int) (.d (.i .i64 n3)) (.d (.b true)) (.d (.b b1)) (keepV [128] v0)) true s'.2.2.1 s'.2.2.2
      exact ⟨b + cntN id l[i], (_, _, _, _), e, by rw [kse (cntN id) hi, hp]⟩
    intro q1 b0 v w
    refine keb (α := Nat) (σ := SV × SV) (fun m j c s' => l93o2 n1 l id 0 (i : Int) b0 n1 l q1 m (c : Int) (j : Int) s'.1 s'.2) (nmsL l[i]).length (fun j c => c = b + (((nmsL l[i]).take j).filter fun e => idOf e == id).length) (fun y => ∃ x' y' z', y = q1 ((b + cntN id l[i] : Nat) : Int) x' y' z')
      ?_ ?_ (nmsL l[i]).length 0 KK b (v, w) (by omega) (by rw [kl]; omega) (by simp)
    · intro m c s' hc
      rw [List.take_length] at hc
      have e : decide (((nmsL l[i]).length : Int) < ((asL (nthD l[i] 6)).length : Int)) = false := ko _
      rw [hg] at hri
      simp only [l93o2, Int.toNat_natCast, hg, hri, e, ka, Bool.false_eq_true, if_false, hc]
      exact ⟨_, _, _, rfl⟩
    · intro j m c s' hj hc
      left
      have e : decide ((j : Int) < ((asL (nthD l[i] 6)).length : Int)) = true := kj hj
      have hrj := ktc (kaf (h.t _ (List.getElem_mem hi))) kbc j hj
      have hgj : (asL (nthD l[i] 6)).getD j [] = (nmsL l[i])[j] := khb hj
      have hcl : c ≤ 24 * 12 + 12 := by
        have := List.length_filter_le (fun e => idOf e == id) ((nmsL l[i]).take j)
        simp only [List.length_take] at this
        omega
      have hct := klj (id := id) hj
      rw [hg] at hri
      simp only [l93o2, Int.toNat_natCast, hg, hri, e, hgj, hrj, ka, if_true, kc j (by omega), kc c (by omega)]
      cases hq : (idOf (nmsL l[i])[j] == id) with
      | true =>
        have hq' : (asI (nthD (nmsL l[i])[j] 1) == id) = true := hq
        rw [hq] at hct
        simp only [hq', if_true] at hct ⊢
        exact ⟨c + 1, (_, _), rfl, by omega⟩
      | false =>
        have hq' : (asI (nthD (nmsL l[i])[j] 1) == id) = false := hq
        rw [hq] at hct
        simp only [hq', Bool.false_eq_true, if_false] at hct ⊢
        exact ⟨c, (_, _), rfl, by omega⟩
theorem kfc (j : Nat) (h : j < 4611686018427387904) : (w64 ((j : Int) - 1)).toNat = j - 1 := by
 rw [ki _ (by omega)]; omega
theorem kec {es : List Sh} {z : List D} {l : List (List D)} (h : ∀ r ∈ l, typL es r) (hz : ∀ r, typL es r → isRow z r = true) {j : Nat} (hj : j < l.length) (hl : l.length < 4611686018427387904) (c : Bool) :
  ((decide ((0 : Int) ≤ w64 ((j : Int) - 1)) && decide (w64 ((j : Int) - 1) < (l.length : Int)) && isRow z (l.getD (j - 1) [])) || !(c && decide ((j : Int) > 0))) = true := by
 by_cases h0 : j = 0
 ·subst h0
  have : decide (((0 : Nat) : Int) > 0) = false := rfl
  rw [this, Bool.and_false, Bool.not_false, Bool.or_true]
 ·rw [ki _ (by omega), hz _ (kpc h (by omega)), decide_eq_true (by omega : (0 : Int) ≤ (j : Int) - 1), decide_eq_true (by omega : (j : Int) - 1 < (l.length : Int))]
  rfl
def rngB (a b c : Int) : Bool := decide (b ≤ a) && decide (a ≤ c)
def nmOk (l L : List (List D)) (j : Nat) : Bool :=
 khd (asS (nthD (L.getD j []) 0)) && !(idOf (L.getD j []) == 1) && (fnd l (idOf (L.getD j []))).isSome && !(decide ((j : Int) > 0) && !(Op.bytesLess (asS (nthD (L.getD (j - 1) []) 0)).toList (asS (nthD (L.getD j []) 0)).toList))
theorem kng {L : List (List D)} (h : ∀ r ∈ L, szdL ks r) {j : Nat} (hj : j < L.length) : (asS (nthD (L.getD j []) 0)).size < 4611686018427387904 := by
 have h1 : (asS (nthD (L.getD j []) 0)).size ≤ 1048576 := (h _ (kqb hj)).1
 omega
theorem gz21 : ∀ x, okR zr142 zo142 (some ([.one (.b x)], [])) = true := fun _ => id rfl
theorem gz22 : ∀ x r, asB (resC (some ([.one (.b x), .agg r], [])) 0 0) = x := fun _ _ => id rfl
theorem kek (n1 : Int) (l : List (List D)) (hl : l.length ≤ 1048576) (ht : ∀ r ∈ l, typL kb r) (L : List (List D)) (hL : ∀ r ∈ L, typL ks r) (hZ : ∀ r ∈ L, szdL ks r) (hLl : L.length < 4611686018427387904) (a1 a2 a3 a4 a5 : Int) (s6 : ByteArray) (a8 a9 : Int) :
  t131 n1 l a1 a2 a3 a4 a5 s6 L a8 a9 = some ([.one (.b (allW (nmOk l L) L.length 0 && decide ((L.length : Int) ≤ 12)))], []) := by
 have key := fun B => kyc (σ := SV × SV × SV) (fun m j s' => la131o0 t132 t142 n1 l a1 a2 a3 a4 a5 s6 L a8 a9 false L (L.length : Int) a1 a2 a3 a4 a5 s6 L a8 a9 (fun _ _ _ _ _ => some ([.one (.b false)], [])) (fun _ _ _ _ => B) m s'.1 (j : Int) s'.2.1 s'.2.2) L.length (nmOk l L) (some ([.one (.b false)], [])) B
  (by intro m s'; simp only [la131o0, ko, Bool.false_eq_true, if_false])
  (by
   intro j m s' hj
   have hr := ktb hL kbc j hj
   have hn := kok _ (kng hZ hj)
   have hi := kug n1 l (asI (nthD (L.getD j []) 1)) hl ht
   have ew2 : okR zr132 zo132 (some ([.one (.b (fnd l (asI (nthD (L.getD j []) 1))).isSome), .agg ((fnd l (asI (nthD (L.getD j []) 1))).getD [.i .i64 0, .i .i64 0, .i .i64 0, .i .i64 0, .i .i64 0, .s ⟨#[]⟩, .l [], .i .i64 0, .i .i64 0])], [])) = true := by
    cases hq : fnd l (asI (nthD (L.getD j []) 1)) with
    | none => rfl
    | some r =>
     obtain ⟨x1, x2, x3, x4, x5, x6, x7, x8, x9, rfl, -⟩ := kgb (ht r (kcf hq).1); rfl
   have hp := kec hL kbc hj hLl
   simp only [la131o0, kj hj, Int.toNat_natCast, hr, hn, hi, gz21, gz5, ew2, gz22, Bool.true_or, kfc j (by omega), hp, ka, if_true, kc j (by omega)]
   have hc : (((!khd (asS (nthD (L.getD j []) 0)) || asI (nthD (L.getD j []) 1) == 1) || !(fnd l (asI (nthD (L.getD j []) 1))).isSome) || (decide ((j : Int) > 0) && !(Op.bytesLess (asS (nthD (L.getD (j - 1) []) 0)).toList (asS (nthD (L.getD j []) 0)).toList))) = !nmOk l L j := by
    show _ = !(khd _ && !(asI (nthD (L.getD j []) 1) == 1) && (fnd l (asI (nthD (L.getD j []) 1))).isSome && !(_ && _))
    generalize khd _ = a
    generalize (asI _ == 1) = b
    generalize (fnd l _).isSome = c
    generalize decide ((j : Int) > 0) = d
    generalize Op.bytesLess _ _ = e
    revert a b c d e; decide
   rw [hc]
   cases hq : nmOk l L j
   ·exact .inr ⟨rfl, rfl⟩
   ·exact .inl ⟨rfl, (_, _, _), rfl⟩) L.length 0 KK (SV.undef, SV.undef, SV.undef) (by omega) (by rw [kl]; omega)
 refine Eq.trans (key _) ?_
 cases allW (nmOk l L) L.length 0 <;> rfl
theorem kgo (l : List (List D)) (id : Int) : decide (atI l id < 0) = !(fnd l id).isSome := by
 rw [← klf]
 unfold atI
 cases plc l id with
 | none => rfl
 | some i => simp
def emS (s : ByteArray) : Bool := s.toList == (⟨#[]⟩ : ByteArray).toList
def kce (l : List (List D)) (kd md ud gd : Int) (s : ByteArray) (L : List (List D)) (mb mi : Int) : Bool :=
  ((rngB md 0 2047 && rngB ud 0 1000) && rngB gd 0 1000) &&
  (if kd = 2 then emS s && decide ((L.length : Int) ≤ 12) && rngB mb 0 400 && rngB mi 0 24 && allW (nmOk l L) L.length 0
   else ((decide ((L.length : Int) = 0) && mb == 0) && mi == 0) && (if kd = 1 then decide ((s.size : Int) ≤ 64) else if kd = 3 then khg s && md == 511 else false))
theorem kjo (n : Nat) : decide ((n : Int) > 0) = !decide ((n : Int) = 0) := by
 rw [Bool.eq_iff_iff]; simp; omega
theorem gz23 : ∀ x, okR zr63 zo63 (some ([.one (.b x)], [])) = true := fun _ => id rfl
theorem gz24 : ∀ x, okR zr131 zo131 (some ([.one (.b x)], [])) = true := fun _ => id rfl
theorem gz25 : ∀ x, okR zr130 zo130 (some ([.one (.b x)], [])) = true := fun _ => id rfl
theorem kpf (n1 : Int) (l : List (List D)) (hl : l.length ≤ 1048576) (ht : ∀ r ∈ l, typL kb r) (id kd md ud gd : Int) (s : ByteArray) (hs : s.size < 4611686018427387904) (L : List (List D)) (hL : ∀ r ∈ L, typL ks r) (hZ : ∀ r ∈ L, szdL ks r) (hLl : L.length < 4611686018427387904) (mb mi : Int) :
  t99 n1 l id kd md ud gd s L mb mi = some ([.one (.b (kce l kd md ud gd s L mb mi))], []) := by
 have e1 : ∀ a b c, (decide (b ≤ a) && decide (a ≤ c)) = rngB a b c := fun _ _ _ => rfl
 simp only [t99, ta99, klc, kek n1 l hl ht L hL hZ hLl, kqk s hs, gz23, gz24, gz25, gz5, Bool.true_or, ka, e1, kce, kjo, bne]
 rw [show (s.toList == (⟨#[]⟩ : ByteArray).toList) = emS s from rfl]
 generalize rngB md 0 2047 = g1
 generalize rngB ud 0 1000 = g2
 generalize rngB gd 0 1000 = g3
 generalize rngB mb 0 400 = g4
 generalize rngB mi 0 24 = g5
 generalize emS s = g6
 generalize allW _ _ _ = g7
 generalize decide ((L.length : Int) ≤ 12) = g8
 generalize decide ((L.length : Int) = 0) = g9
 generalize (mb == 0) = g10
 generalize (mi == 0) = g11
 by_cases h2 : kd = 2
 ·subst h2
  have c1 : ((2 : Int) == 1) = false := rfl
  have c2 : ((2 : Int) == 2) = true := rfl
  have c3 : ((2 : Int) == 3) = false := rfl
  simp only [c1, c2, c3, Bool.not_true, Bool.false_and, Bool.false_eq_true, if_false, if_true]
  cases g1 <;> cases g2 <;> cases g3 <;> simp
  rw [Bool.eq_iff_iff]; simp; constructor <;> (intro h; simp [h])
 ·have c2 : (kd == 2) = false := by simpa using h2
  simp only [c2, if_neg h2, Bool.not_false, Bool.true_and, Bool.false_eq_true, if_false]
  by_cases h1 : kd = 1
  ·subst h1
   have c1 : ((1 : Int) == 1) = true := rfl
   simp only [c1, if_true]
   cases g1 <;> cases g2 <;> cases g3 <;> cases g9 <;> cases g10 <;> cases g11 <;> rfl
  ·have c1 : (kd == 1) = false := by simpa using h1
   simp only [c1, if_neg h1, Bool.false_eq_true, if_false]
   by_cases h3 : kd = 3
   ·subst h3
    have c3 : ((3 : Int) == 3) = true := rfl
    simp only [c3, if_true]
    cases g1 <;> cases g2 <;> cases g3 <;> cases g9 <;> cases g10 <;> cases g11 <;> rfl
   ·have c3 : (kd == 3) = false := by simpa using h3
    simp only [c3, if_neg h3, Bool.false_eq_true, if_false]
    cases g1 <;> cases g2 <;> cases g3 <;> cases g9 <;> cases g10 <;> cases g11 <;> rfl
theorem gz26 : ∀ x, okR zr125 zo125 (some ([.one (.b x)], [])) = true := fun _ => id rfl
theorem gz27 : ∀ x, okR zr126 zo126 (some ([.one (.i .i64 x)], [])) = true := fun _ => id rfl
theorem gz28 : ∀ x, okR zr124 zo124 (some ([.one (.b x)], [])) = true := fun _ => id rfl
theorem ktf (n1 : Int) (l : List (List D)) (hl : l.length ≤ 1048576) (ht : ∀ r ∈ l, typL kb r) (id kd md ud gd : Int) (s : ByteArray) (hs : s.size < 4611686018427387904) (L : List (List D)) (hL : ∀ r ∈ L, typL ks r) (hZ : ∀ r ∈ L, szdL ks r) (hLl : L.length < 4611686018427387904) (mb mi : Int) :
  t91 n1 l id kd md ud gd s L mb mi = some ([.one (.b (kce l kd md ud gd s L mb mi))], []) := by
 have key := fun b0 b6 b7 b9 b1 b2 b17' => kyc (σ := SV × SV) (fun m j s' => la91o5 t57 t124 t125 t126 n1 l id kd md ud gd s L mb mi b0 b6 b7 kd b9 b1 b2 b17' n1 l id kd md ud gd s L mb mi (fun _ _ _ _ _ => some ([.one (.b false)], [])) (fun _ _ _ => some ([.one (.b true)], [])) m (j : Int) s'.1 s'.2) L.length (nmOk l L) (some ([.one (.b false)], [])) (some ([.one (.b true)], []))
  (by intro m s'; simp only [la91o5, ko, Bool.false_eq_true, if_false])
  (by
   intro j m s' hj
   have hr := ktb hL kbc j hj
   have hn := ksk _ (kng hZ hj)
   have hi := kol n1 l (asI (nthD (L.getD j []) 1)) hl ht
   have hp := kec hL kbc hj hLl
   simp only [la91o5, kj hj, Int.toNat_natCast, hr, hn, hi, gz26, gz5, gz27, gz17, Bool.true_or, kfc j (by omega), hp, ka, if_true, kc j (by omega), kgo]
   have hc : ((((!khd (asS (nthD (L.getD j []) 0))) || (decide ((j : Int) > 0) && !(Op.bytesLess (asS (nthD (L.getD (j - 1) []) 0)).toList (asS (nthD (L.getD j []) 0)).toList))) || asI (nthD (L.getD j []) 1) == 1) || !(fnd l (asI (nthD (L.getD j []) 1))).isSome) = !nmOk l L j := by
    show _ = !(khd _ && !(asI (nthD (L.getD j []) 1) == 1) && (fnd l (asI (nthD (L.getD j []) 1))).isSome && !(_ && _))
    generalize khd _ = a
    generalize (asI _ == 1) = b
    generalize (fnd l _).isSome = c
    generalize decide ((j : Int) > 0) = d
    generalize Op.bytesLess _ _ = e
    revert a b c d e; decide
   rw [hc]
   cases hq : nmOk l L j
   ·exact .inr ⟨rfl, rfl⟩
   ·exact .inl ⟨rfl, (_, _), rfl⟩) L.length 0 KK (SV.undef, SV.undef) (by omega) (by rw [kl]; omega)
 have e1 : ∀ a b c, (decide (b ≤ a) && decide (a ≤ c)) = rngB a b c := fun _ _ _ => rfl
 have e2 : decide ((L.length : Int) > 12) = !decide ((L.length : Int) ≤ 12) := by rw [Bool.eq_iff_iff]; simp
 have e3 : ((L.length : Int) == 0) = decide ((L.length : Int) = 0) := rfl
 simp only [t91, ta91, kod, knk s hs, gz4, gz28, gz5, Bool.true_or, ka, e1, e2, e3, kce]
 rw [show (s.toList == (⟨#[]⟩ : ByteArray).toList) = emS s from rfl]
 by_cases h2 : kd = 2
 ·subst h2
  have c1 : ((2 : Int) == 1) = false := rfl
  have c2 : ((2 : Int) == 2) = true := rfl
  have c3 : ((2 : Int) == 3) = false := rfl
  simp only [c1, c2, c3, Bool.false_eq_true, if_false, if_true]
  by_cases hg : ((rngB md 0 2047 && rngB ud 0 1000) && rngB gd 0 1000) = true
  ·rw [if_neg (by simp only [Bool.and_eq_true] at hg; simp [hg]), hg, Bool.true_and]
   by_cases hh : (((emS s && decide ((L.length : Int) ≤ 12)) && rngB mb 0 400) && rngB mi 0 24) = true
   ·rw [if_neg (by simp only [Bool.and_eq_true] at hh; simp [hh]), hh, Bool.true_and]
    refine Eq.trans (key _ _ _ _ _ _ _) ?_
    cases allW (nmOk l L) L.length 0 <;> rfl
   ·rw [if_pos (by
     generalize emS s = g1 at hh ⊢
     generalize decide ((L.length : Int) ≤ 12) = g2 at hh ⊢
     generalize rngB mb 0 400 = g3 at hh ⊢
     generalize rngB mi 0 24 = g4 at hh ⊢
     revert hh; revert g1 g2 g3 g4; decide)]
    rw [Bool.not_eq_true] at hh
    rw [hh, Bool.false_and]
  ·rw [if_pos (by
    generalize rngB md 0 2047 = g1 at hg ⊢
    generalize rngB ud 0 1000 = g2 at hg ⊢
    generalize rngB gd 0 1000 = g3 at hg ⊢
    revert hg; revert g1 g2 g3; decide)]
   rw [Bool.not_eq_true] at hg
   rw [hg, Bool.false_and]
 ·have c2 : (kd == 2) = false := by simpa using h2
  simp only [c2, if_neg h2, Bool.false_eq_true, if_false]
  generalize rngB md 0 2047 = g1
  generalize rngB ud 0 1000 = g2
  generalize rngB gd 0 1000 = g3
  generalize decide ((L.length : Int) = 0) = g9
  generalize (mb == 0) = g10
  generalize (mi == 0) = g11
  by_cases h1 : kd = 1
  ·subst h1
   have c1 : ((1 : Int) == 1) = true := rfl
   simp only [c1, if_true]
   cases g1 <;> cases g2 <;> cases g3 <;> cases g9 <;> cases g10 <;> cases g11 <;> rfl
  ·have c1 : (kd == 1) = false := by simpa using h1
   simp only [c1, if_neg h1, Bool.false_eq_true, if_false]
   by_cases h3 : kd = 3
   ·subst h3
    have c3 : ((3 : Int) == 3) = true := rfl
    simp only [c3, if_true]
    cases g1 <;> cases g2 <;> cases g3 <;> cases g9 <;> cases g10 <;> cases g11 <;> rfl
   ·have c3 : (kd == 3) = false := by simpa using h3
    simp only [c3, if_neg h3, Bool.false_eq_true, if_false]
    cases g1 <;> cases g2 <;> cases g3 <;> cases g9 <;> cases g10 <;> cases g11 <;> rfl
theorem koh (f : Nat → Bool) : ∀ (k i : Nat), allW (fun j => f (j + 1)) k i = allW f k (i + 1)
 | 0, _ => rfl
 | k + 1, i => by rw [allW, allW, koh f k (i + 1)]
def rowB (l : List (List D)) (r : List D) : Bool := kce l (asI (nthD r 1)) (asI (nthD r 2)) (asI (nthD r 3)) (asI (nthD r 4)) (asS (nthD r 5)) (nmsL r) (asI (nthD r 7)) (asI (nthD r 8))
def frsB (n1 : Int) (l : List (List D)) (i : Nat) : Bool :=
 rngB (idI (l.getD i [])) 1 (w64 (n1 - 1)) && !(decide ((i : Int) > 0) && decide (idI (l.getD (i - 1) []) ≥ idI (l.getD i []))) && rowB l (l.getD i [])
open Classical in
noncomputable def sndB (l : List (List D)) (i : Nat) : Bool :=
 decide (Vq.Reach (tgV l) 1 (idI (l.getD i []))) && !((asI (nthD (l.getD i []) 1) == 2) && ((nmdN l (idI (l.getD i [])) : Int) != 1))
noncomputable def volB (n1 : Int) (l : List (List D)) : Bool :=
 ((rngB n1 2 100000 && rngB (l.length : Int) 1 24) && (idI (l.getD 0 []) == 1 && asI (nthD (l.getD 0 []) 1) == 2)) &&
 (allW (frsB n1 l) l.length 0 && (allW (sndB l) (l.length - 1) 1 && (decide ((totN l : Int) ≤ 400) && !kid l)))
theorem kbg {l : List (List D)} (ht : ∀ r ∈ l, typL kb r) (hz : ∀ r ∈ l, szdL kb r) {r : List D} (hr : r ∈ l) :
  (asS (nthD r 5)).size < 4611686018427387904 ∧ (nmsL r).length < 4611686018427387904 ∧ (∀ e ∈ nmsL r, typL ks e) ∧ (∀ e ∈ nmsL r, szdL ks e) := by
 have h1 := hz r hr
 have h2 := kaf (ht r hr)
 obtain ⟨x1, x2, x3, x4, x5, x6, x7, x8, x9, rfl, -⟩ := kgb (ht r hr)
 obtain ⟨-, -, -, -, -, h5, ⟨h6, h7⟩, -⟩ := h1
 have h5 : x6.size ≤ 1048576 := h5
 have h6 : x7.length ≤ 1048576 := h6
 exact ⟨by show x6.size < _; omega, by show x7.length < _; omega, h2, h7⟩
theorem kzh {n1 : Int} {l : List (List D)} (ht : ∀ r ∈ l, typL kb r) (hlen : l.length ≤ 24) (h : allW (frsB n1 l) l.length 0 = true) : GoodV l := by
 have hall : ∀ i, i < l.length → frsB n1 l i = true := fun i hi => (kvb _ _).1 h i (by omega) (by omega)
 have hrow : ∀ r ∈ l, rowB l r = true := by
  intro r hr
  obtain ⟨i, hi, rfl⟩ := List.mem_iff_getElem.1 hr
  have := hall i hi
  rw [frsB, Bool.and_eq_true, khb hi] at this
  exact this.2
 have hstep : ∀ i, i + 1 < l.length → idI (l.getD i []) < idI (l.getD (i + 1) []) := by
  intro i hi
  have := hall (i + 1) hi
  simp only [frsB, Bool.and_eq_true, Bool.not_eq_true', Bool.and_eq_false_iff, decide_eq_false_iff_not, Nat.add_sub_cancel] at this
  rcases this.1.2 with h | h
  ·exact absurd (by omega : ((i + 1 : Nat) : Int) > 0) h
  ·omega
 have hnm : ∀ r ∈ l, (nmsL r).length ≤ 12 ∧ allW (nmOk l (nmsL r)) (nmsL r).length 0 = true ∧ (asS (nthD r 5)).size ≤ 64 ∧ (asI (nthD r 1) ≠ 2 → asI (nthD r 7) = 0 ∧ asI (nthD r 8) = 0) := by
  intro r hr
  have h1 := hrow r hr
  simp only [rowB, kce, Bool.and_eq_true] at h1
  have h2 := h1.2
  by_cases hk : asI (nthD r 1) = 2
  ·rw [if_pos hk] at h2
   simp only [Bool.and_eq_true, decide_eq_true_eq] at h2
   refine ⟨by omega, h2.2, ?_, fun q => absurd hk q⟩
   have h3 : emS (asS (nthD r 5)) = true := h2.1.1.1.1
   have h3 : (asS (nthD r 5)).toList = (⟨#[]⟩ : ByteArray).toList := by simpa [emS] using h3
   rw [khh, kje] at h3
   omega
  ·rw [if_neg hk] at h2
   simp only [Bool.and_eq_true, decide_eq_true_eq, beq_iff_eq] at h2
   have h0 : (nmsL r).length = 0 := by have := h2.1.1.1; omega
   refine ⟨by omega, by rw [h0]; rfl, ?_, fun _ => ⟨h2.1.1.2, h2.1.2⟩⟩
   have h3 := h2.2
   by_cases h1 : asI (nthD r 1) = 1
   ·rw [if_pos h1, decide_eq_true_eq] at h3; omega
   ·rw [if_neg h1] at h3
    by_cases h4 : asI (nthD r 1) = 3
    ·rw [if_pos h4] at h3
     simp only [khg, Bool.and_eq_true, decide_eq_true_eq] at h3
     have := h3.1.1.2; omega
    ·rw [if_neg h4] at h3; cases h3
 constructor
 ·exact ⟨hlen, ht, fun r hr => (hnm r hr).1⟩
 ·intro i j hij hj
  induction j with
  | zero => omega
  | succ j ih =>
   have h1 := hstep j hj
   by_cases e : i = j
   ·rw [e]; exact h1
   ·have := ih (by omega) (by omega); omega
 ·intro r hr d hd
  obtain ⟨e, he, rfl⟩ := List.mem_map.1 hd
  obtain ⟨j, hj, rfl⟩ := List.mem_iff_getElem.1 he
  have := (kvb _ _).1 (hnm r hr).2.1 j (by omega) (by omega)
  simp only [nmOk, Bool.and_eq_true, khb hj] at this
  exact this.1.2
 ·exact fun r hr => (hnm r hr).2.2.1
 ·exact fun r hr => (hnm r hr).2.2.2
theorem kig (a b c d : Bool) : ((!a || (b && c)) || !d) = !((a && !(b && c)) && d) := by revert a b c d; decide
theorem kyk (a b c : Bool) : (!a || (b && c)) = !(a && !(b && c)) := by revert a b c; decide
theorem kmf (n1 : Int) (l : List (List D)) (i : Nat) : ((rngB (asI (nthD (l.getD i []) 0)) 1 (w64 (n1 - 1)) && !(decide ((i : Int) > 0) && decide (asI (nthD (l.getD (i - 1) []) 0) ≥ asI (nthD (l.getD i []) 0)))) && kce l (asI (nthD (l.getD i []) 1)) (asI (nthD (l.getD i []) 2)) (asI (nthD (l.getD i []) 3)) (asI (nthD (l.getD i []) 4)) (asS (nthD (l.getD i []) 5)) (asL (nthD (l.getD i []) 6)) (asI (nthD (l.getD i []) 7)) (asI (nthD (l.getD i []) 8))) = frsB n1 l i := rfl
theorem gz29 : ∀ x, okR zr103 zo103 (some ([.one (.i .i64 x)], [])) = true := fun _ => id rfl
theorem gz30 : ∀ x, okR zr104 zo104 (some ([.one (.b x)], [])) = true := fun _ => id rfl
theorem gz31 : ∀ x, okR zr101 zo101 (some ([.one (.b x)], [])) = true := fun _ => id rfl
theorem gz32 : ∀ x, okR zr102 zo102 (some ([.one (.i .i64 x)], [])) = true := fun _ => id rfl
theorem gz33 : ∀ x, okR zr99 zo99 (some ([.one (.b x)], [])) = true := fun _ => id rfl
theorem kkl (n1 : Int) (l : List (List D)) (hl : l.length ≤ 1048576) (ht : ∀ r ∈ l, typL kb r) (hz : ∀ r ∈ l, szdL kb r) : t66 n1 l = some ([.one (.b (volB n1 l))], []) := by
 have e1 : ∀ a b c, (decide (b ≤ a) && decide (a ≤ c)) = rngB a b c := fun _ _ _ => rfl
 simp only [t66, ta66, klc, gz23, gz5, e1, Bool.true_or, ka]
 by_cases hA : (rngB n1 2 100000 && rngB (l.length : Int) 1 24) = true
 ·have hA2 := hA
  rw [Bool.and_eq_true] at hA2
  have hlen : 1 ≤ l.length ∧ l.length ≤ 24 := by have := hA2.2; simp only [rngB, Bool.and_eq_true, decide_eq_true_eq] at this; omega
  have hr0 := kof ht kq 0 (by omega)
  have hr0 : (decide ((0 : Int) ≤ 0) && decide ((0 : Int) < (l.length : Int)) && isRow z64 (l.getD ((0 : Int)).toNat [])) = true := hr0
  rw [hA2.1, hA2.2, hr0]
  simp only [Bool.not_true, Bool.true_or, Bool.or_false, Bool.false_or, ka]
  rw [show l.getD ((0 : Int)).toNat [] = l.getD 0 [] from rfl]
  unfold volB
  rw [hA, Bool.true_and]
  by_cases hB : (idI (l.getD 0 []) == 1 && asI (nthD (l.getD 0 []) 1) == 2) = true
  ·have hB2 := hB
   rw [Bool.and_eq_true] at hB2
   have hB3 : ((asI (nthD (l.getD 0 []) 0) != 1) || (asI (nthD (l.getD 0 []) 1) != 2)) = false := by
    have h1 : (asI (nthD (l.getD 0 []) 0) == 1) = true := hB2.1
    rw [bne, bne, h1, hB2.2]; rfl
   rw [hB3, hB, Bool.true_and]
   simp only [Bool.false_eq_true, if_false]
   by_cases hC : allW (frsB n1 l) l.length 0 = true
   ·have hG := kzh ht hlen.2 hC
    rw [hC, Bool.true_and]
    refine keb (α := Unit) (σ := SV × SV × SV) (fun m i _ s' => la66o1 t63 t99 t100 t101 t102 t103 t104 n1 l false false l (l.length : Int) n1 l _ _ m s'.1 (i : Int) s'.2.1 s'.2.2) l.length (fun _ _ => True) (fun x => x = some ([.one (.b (allW (sndB l) (l.length - 1) 1 && (decide ((totN l : Int) ≤ 400) && !kid l)))], []))
     ?_ ?_ l.length 0 KK () (SV.undef, SV.undef, SV.undef) (by omega) (by rw [kl]; omega) trivial
    ·intro m _ s' _
     obtain ⟨o, hnd, ho, hmem, hb⟩ := kzj n1 l hG.toFew 1
     have e7 : decide (0 ≤ (1 : Int) ∧ (1 : Int) ≤ (l.length : Int) ∧ (l.getD 0 z64).length = z64.length) = true := by
      have h0 : l.getD 0 z64 = l[0]'(by omega) := by simp [List.getD, show 0 < l.length by omega]
      obtain ⟨x1, x2, x3, x4, x5, x6, x7, x8, x9, er, -⟩ := kgb (ht _ (List.getElem_mem (show 0 < l.length by omega)))
      rw [h0, er]
      simp [z64]; omega
     simp only [la66o1, ko, Bool.false_eq_true, if_false, hb, gz8, gz9, e7, ka]
     have hdl : (l.drop (1 : Int).toNat) = l.drop 1 := rfl
     rw [hdl]
     have hlen2 : (l.drop 1).length = l.length - 1 := by simp
     have hgd : ∀ i, (l.drop 1).getD i [] = l.getD (i + 1) [] := by intro i; simp [List.getD, Nat.add_comm]
     have htd : ∀ r ∈ l.drop 1, typL kb r := fun r hr => ht r (List.mem_of_mem_drop hr)
     refine Eq.trans (kyc (σ := SV × SV × SV × SV) (fun m i s'' => la66o4 t63 t99 t100 t101 t102 t103 t104 n1 l false false l (l.length : Int) (l.length : Int) false (l.drop 1) ((l.drop 1).length : Int) n1 l (ints o) (fun _ _ _ _ _ _ _ _ _ _ _ _ _ _ => some ([.one (.b false)], [])) (fun (v0 : SV) (v1 : SV) (n0 : Int) (b0 : Bool) (v2 : SV) => _) m s''.1 s''.2.1 (i : Int) s''.2.2.1 s''.2.2.2) (l.drop 1).length (fun i => sndB l (i + 1)) (some ([.one (.b false)], [])) (some ([.one (.b (decide ((totN l : Int) ≤ 400) && !kid l))], []))
      (by
       intro m s''
       simp only [la66o4, ko, Bool.false_eq_true, if_false, kam n1 l hG, gz29, gz17, kap n1 l hG, gz30, gz5, Bool.true_or, ka])
      (by
       intro i m s'' hi
       have hr := ktb htd kq i hi
       have hh := kij o (by omega) (asI (nthD ((l.drop 1).getD i []) 0))
       have hm : decide (asI (nthD ((l.drop 1).getD i []) 0) ∈ o) = @decide (Vq.Reach (tgV l) 1 (idI (l.getD (i + 1) []))) (Classical.propDecidable _) := by
        rw [Bool.eq_iff_iff]; simp only [decide_eq_true_eq]; rw [hmem, hgd]; exact Iff.rfl
       have hnm := krl n1 l hG (asI (nthD ((l.drop 1).getD i []) 0))
       simp only [la66o4, kj hi, Int.toNat_natCast, hr, hh, hnm, gz31, gz32, gz5, gz17, Bool.true_or, ka, if_true, kc i (by omega), hm, kyk]
       have hs : (@decide (Vq.Reach (tgV l) 1 (idI (l.getD (i + 1) []))) (Classical.propDecidable _) && !((asI (nthD ((l.drop 1).getD i []) 1) == 2) && ((nmdN l (asI (nthD ((l.drop 1).getD i []) 0)) : Int) != 1))) = sndB l (i + 1) := by rw [hgd]; rfl
       rw [hs]
       cases hq : sndB l (i + 1)
       ·exact .inr ⟨rfl, rfl⟩
       ·exact .inl ⟨rfl, (_, _, _, _), rfl⟩) (l.drop 1).length 0 KK (_, _, SV.undef, SV.undef) (by omega) (by rw [kl]; omega)) ?_
     rw [koh, hlen2]
     cases allW (sndB l) (l.length - 1) 1 <;> rfl
    ·intro i m _ s' hi _
     left
     have hr := ktb ht kq i hi
     have hq := (kvb _ _).1 hC i (by omega) (by omega)
     have hv := kbg ht hz (kqb hi)
     have hin := kpf n1 l hl ht (asI (nthD (l.getD i []) 0)) (asI (nthD (l.getD i []) 1)) (asI (nthD (l.getD i []) 2)) (asI (nthD (l.getD i []) 3)) (asI (nthD (l.getD i []) 4)) (asS (nthD (l.getD i []) 5)) hv.1 (asL (nthD (l.getD i []) 6)) hv.2.2.1 hv.2.2.2 hv.2.1 (asI (nthD (l.getD i []) 7)) (asI (nthD (l.getD i []) 8))
     have hp := kec ht kq hi (by omega)
     simp only [la66o1, kj hi, Int.toNat_natCast, hr, klc, hin, gz23, gz33, gz5, e1, Bool.true_or, kfc i (by omega), hp, ka, if_true, kc i (by omega), kig, kmf, hq, Bool.not_true, Bool.false_eq_true, if_false]
     exact ⟨(), (_, _, _), rfl, trivial⟩
   ·rw [Bool.not_eq_true] at hC
    rw [hC, Bool.false_and]
    have hC' : ∃ j, j < l.length ∧ frsB n1 l j = false := by
     apply Classical.byContradiction
     intro hq
     have : allW (frsB n1 l) l.length 0 = true := (kvb _ _).2 fun j _ hj => by
      cases hb : frsB n1 l j with
      | true => rfl
      | false => exact absurd ⟨j, by omega, hb⟩ hq
     rw [this] at hC; cases hC
    obtain ⟨j, hj, hjf⟩ := hC'
    refine keb (α := Unit) (σ := SV × SV × SV) (fun m i _ s' => la66o1 t63 t99 t100 t101 t102 t103 t104 n1 l false false l (l.length : Int) n1 l _ _ m s'.1 (i : Int) s'.2.1 s'.2.2) l.length (fun i _ => i ≤ j) (fun x => x = some ([.one (.b false)], []))
     ?_ ?_ l.length 0 KK () (SV.undef, SV.undef, SV.undef) (by omega) (by rw [kl]; omega) (by omega)
    ·intro m _ s' hp; omega
    ·intro i m _ s' hi hp
     have hr := ktb ht kq i hi
     have hv := kbg ht hz (kqb hi)
     have hin := kpf n1 l hl ht (asI (nthD (l.getD i []) 0)) (asI (nthD (l.getD i []) 1)) (asI (nthD (l.getD i []) 2)) (asI (nthD (l.getD i []) 3)) (asI (nthD (l.getD i []) 4)) (asS (nthD (l.getD i []) 5)) hv.1 (asL (nthD (l.getD i []) 6)) hv.2.2.1 hv.2.2.2 hv.2.1 (asI (nthD (l.getD i []) 7)) (asI (nthD (l.getD i []) 8))
     have hpc := kec ht kq hi (by omega)
     simp only [la66o1, kj hi, Int.toNat_natCast, hr, klc, hin, gz23, gz33, gz5, e1, Bool.true_or, kfc i (by omega), hpc, ka, if_true, kc i (by omega), kig, kmf]
     cases hq : frsB n1 l i
     ·exact .inr rfl
     ·left
      refine ⟨(), (_, _, _), rfl, ?_⟩
      have : i ≠ j := by rintro rfl; rw [hq] at hjf; cases hjf
      omega
  ·rw [Bool.not_eq_true] at hB
   have hB3 : ((asI (nthD (l.getD 0 []) 0) != 1) || (asI (nthD (l.getD 0 []) 1) != 2)) = true := by
    have h1 : (asI (nthD (l.getD 0 []) 0) == 1 && asI (nthD (l.getD 0 []) 1) == 2) = false := hB
    rw [bne, bne, ← Bool.not_and, h1]; rfl
   rw [hB3, hB, Bool.false_and]
   rfl
 ·have hA1 : (!rngB n1 2 100000 || !rngB (l.length : Int) 1 24) = true := by rw [← Bool.not_and]; rw [Bool.not_eq_true] at hA; rw [hA]; rfl
  rw [hA1]
  simp only [Bool.true_or, Bool.not_true, Bool.not_false, Bool.or_true, ka, if_true]
  rw [Bool.not_eq_true] at hA
  unfold volB
  rw [hA, Bool.false_and, Bool.false_and]
theorem gz34 : ∀ x, okR zr94 zo94 (some ([.one (.i .i64 x)], [])) = true := fun _ => id rfl
theorem gz35 : ∀ x, okR zr95 zo95 (some ([.one (.b x)], [])) = true := fun _ => id rfl
theorem gz36 : ∀ x, okR zr93 zo93 (some ([.one (.i .i64 x)], [])) = true := fun _ => id rfl
theorem gz37 : ∀ x, okR zr91 zo91 (some ([.one (.b x)], [])) = true := fun _ => id rfl
theorem keh (n1 : Int) (l : List (List D)) (hl : l.length ≤ 1048576) (ht : ∀ r ∈ l, typL kb r) (hz : ∀ r ∈ l, szdL kb r) : t56 n1 l = some ([.one (.b (volB n1 l))], []) := by
 have e1 : ∀ a b c, (decide (b ≤ a) && decide (a ≤ c)) = rngB a b c := fun _ _ _ => rfl
 simp only [t56, ta56, kod, gz4, gz5, e1, Bool.true_or, ka]
 by_cases hA : (rngB n1 2 100000 && rngB (l.length : Int) 1 24) = true
 ·have hA2 := hA
  rw [Bool.and_eq_true] at hA2
  have hlen : 1 ≤ l.length ∧ l.length ≤ 24 := by have := hA2.2; simp only [rngB, Bool.and_eq_true, decide_eq_true_eq] at this; omega
  have hr0 := kof ht kq 0 (by omega)
  have hr0 : (decide ((0 : Int) ≤ 0) && decide ((0 : Int) < (l.length : Int)) && isRow z64 (l.getD ((0 : Int)).toNat [])) = true := hr0
  rw [hA2.1, hA2.2, hr0]
  simp only [Bool.not_true, Bool.true_or, Bool.or_false, Bool.false_or, ka]
  rw [show l.getD ((0 : Int)).toNat [] = l.getD 0 [] from rfl]
  unfold volB
  rw [hA, Bool.true_and]
  by_cases hB : (idI (l.getD 0 []) == 1 && asI (nthD (l.getD 0 []) 1) == 2) = true
  ·have hB2 := hB
   rw [Bool.and_eq_true] at hB2
   have hB3 : ((asI (nthD (l.getD 0 []) 0) != 1) || (asI (nthD (l.getD 0 []) 1) != 2)) = false := by
    have h1 : (asI (nthD (l.getD 0 []) 0) == 1) = true := hB2.1
    rw [bne, bne, h1, hB2.2]; rfl
   have h01 : idI (l.getD 0 []) = 1 := by simpa using hB2.1
   rw [hB3, hB, Bool.true_and]
   simp only [Bool.false_eq_true, if_false]
   by_cases hC : allW (frsB n1 l) l.length 0 = true
   ·have hG := kzh ht hlen.2 hC
    rw [hC, Bool.true_and]
    refine keb (α := Unit) (σ := SV × SV) (fun m i _ s' => la56o1 t57 t91 t92 t93 t94 t95 n1 l false false n1 l _ _ m (i : Int) s'.1 s'.2) l.length (fun _ _ => True) (fun x => x = some ([.one (.b (allW (sndB l) (l.length - 1) 1 && (decide ((totN l : Int) ≤ 400) && !kid l)))], []))
     ?_ ?_ l.length 0 KK () (SV.undef, SV.undef) (by omega) (by rw [kl]; omega) trivial
    ·intro m _ s' _
     have hb := klh n1 l hG 0 (by omega)
     rw [h01] at hb
     simp only [la56o1, ko, Bool.false_eq_true, if_false, hb, gz11, gz9, ka]
     refine Eq.trans (kyc (σ := SV × SV × SV) (fun m i s'' => la56o4 t57 t91 t92 t93 t94 t95 n1 l false (l.length : Int) false false n1 l (km (fun x => @decide (Vq.Reach (tgV l) 1 (idI (l.getD x []))) (Classical.propDecidable _)) l.length) (fun _ _ _ _ => some ([.one (.b false)], [])) (fun (n0 : Int) (v0 : SV) (b0 : Bool) (v1 : SV) => _) m (i : Int) s''.1 s''.2.1 s''.2.2) l.length (sndB l) (some ([.one (.b false)], [])) (some ([.one (.b (decide ((totN l : Int) ≤ 400) && !kid l))], []))
      (by
       intro m s''
       simp only [la56o4, ko, Bool.false_eq_true, if_false, kyl n1 l hG, gz34, gz17, kwm n1 l hG, gz35, gz5, Bool.true_or, ka])
      (by
       intro i m s'' hi
       have hr := ktb ht kq i hi
       have a2 : ∀ f, decide ((i : Int) < ((km f l.length).length : Int)) = true := by intro f; rw [kkc, kj hi]
       have hnm := kpl n1 l hG (asI (nthD (l.getD i []) 0))
       have hr' : isRow z64 (l.getD i []) = true := kq _ (kpc ht hi)
       simp only [la56o4, kj hi, a2, kxb, Bool.and_true, Bool.true_and, Int.toNat_natCast, kyg hi, gz12, gz13, hr', hnm, gz36, gz17, Bool.true_or, ka, if_true, kc i (by omega), kyk]
       have hs : (@decide (Vq.Reach (tgV l) 1 (idI (l.getD i []))) (Classical.propDecidable _) && !((asI (nthD (l.getD i []) 1) == 2) && ((nmdN l (asI (nthD (l.getD i []) 0)) : Int) != 1))) = sndB l i := rfl
       rw [hs]
       cases hq : sndB l i
       ·exact .inr ⟨rfl, rfl⟩
       ·exact .inl ⟨rfl, (_, _, _), rfl⟩) (l.length - 1) 1 KK (_, SV.undef, SV.undef) (by omega) (by rw [kl]; omega)) ?_
     cases allW (sndB l) (l.length - 1) 1 <;> rfl
    ·intro i m _ s' hi _
     left
     have hr := ktb ht kq i hi
     have hq := (kvb _ _).1 hC i (by omega) (by omega)
     have hv := kbg ht hz (kqb hi)
     have hin := ktf n1 l hl ht (asI (nthD (l.getD i []) 0)) (asI (nthD (l.getD i []) 1)) (asI (nthD (l.getD i []) 2)) (asI (nthD (l.getD i []) 3)) (asI (nthD (l.getD i []) 4)) (asS (nthD (l.getD i []) 5)) hv.1 (asL (nthD (l.getD i []) 6)) hv.2.2.1 hv.2.2.2 hv.2.1 (asI (nthD (l.getD i []) 7)) (asI (nthD (l.getD i []) 8))
     have hp := kec ht kq hi (by omega)
     simp only [la56o1, kj hi, Int.toNat_natCast, hr, kod, hin, gz4, gz37, gz5, e1, Bool.true_or, kfc i (by omega), hp, ka, if_true, kc i (by omega), kig, kmf, hq, Bool.not_true, Bool.false_eq_true, if_false]
     exact ⟨(), (_, _), rfl, trivial⟩
   ·rw [Bool.not_eq_true] at hC
    rw [hC, Bool.false_and]
    have hC' : ∃ j, j < l.length ∧ frsB n1 l j = false := by
     apply Classical.byContradiction
     intro hq
     have : allW (frsB n1 l) l.length 0 = true := (kvb _ _).2 fun j _ hj => by
      cases hb : frsB n1 l j with
      | true => rfl
      | false => exact absurd ⟨j, by omega, hb⟩ hq
     rw [this] at hC; cases hC
    obtain ⟨j, hj, hjf⟩ := hC'
    refine keb (α := Unit) (σ := SV × SV) (fun m i _ s' => la56o1 t57 t91 t92 t93 t94 t95 n1 l false false n1 l _ _ m (i : Int) s'.1 s'.2) l.length (fun i _ => i ≤ j) (fun x => x = some ([.one (.b false)], []))
     ?_ ?_ l.length 0 KK () (SV.undef, SV.undef) (by omega) (by rw [kl]; omega) (by omega)
    ·intro m _ s' hp; omega
    ·intro i m _ s' hi hp
     have hr := ktb ht kq i hi
     have hv := kbg ht hz (kqb hi)
     have hin := ktf n1 l hl ht (asI (nthD (l.getD i []) 0)) (asI (nthD (l.getD i []) 1)) (asI (nthD (l.getD i []) 2)) (asI (nthD (l.getD i []) 3)) (asI (nthD (l.getD i []) 4)) (asS (nthD (l.getD i []) 5)) hv.1 (asL (nthD (l.getD i []) 6)) hv.2.2.1 hv.2.2.2 hv.2.1 (asI (nthD (l.getD i []) 7)) (asI (nthD (l.getD i []) 8))
     have hpc := kec ht kq hi (by omega)
     simp only [la56o1, kj hi, Int.toNat_natCast, hr, kod, hin, gz4, gz37, gz5, e1, Bool.true_or, kfc i (by omega), hpc, ka, if_true, kc i (by omega), kig, kmf]
     cases hq : frsB n1 l i
     ·exact .inr rfl
     ·left
      refine ⟨(), (_, _), rfl, ?_⟩
      have : i ≠ j := by rintro rfl; rw [hq] at hjf; cases hjf
      omega
  ·rw [Bool.not_eq_true] at hB
   have hB3 : ((asI (nthD (l.getD 0 []) 0) != 1) || (asI (nthD (l.getD 0 []) 1) != 2)) = true := by
    have h1 : (asI (nthD (l.getD 0 []) 0) == 1 && asI (nthD (l.getD 0 []) 1) == 2) = false := hB
    rw [bne, bne, ← Bool.not_and, h1]; rfl
   rw [hB3, hB, Bool.false_and]
   rfl
 ·have hA1 : (!rngB n1 2 100000 || !rngB (l.length : Int) 1 24) = true := by rw [← Bool.not_and]; rw [Bool.not_eq_true] at hA; rw [hA]; rfl
  rw [hA1]
  simp only [Bool.true_or, Bool.not_true, Bool.not_false, Bool.or_true, ka, if_true]
  rw [Bool.not_eq_true] at hA
  unfold volB
  rw [hA, Bool.false_and, Bool.false_and]
end Go.Den.L10
