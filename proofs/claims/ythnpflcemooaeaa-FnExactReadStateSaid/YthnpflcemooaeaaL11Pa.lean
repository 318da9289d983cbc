/- Plain laws about what the functions compute; no condition. -/
import Derived.Test.YthnpflcemooaeaaL11Tw
import Derived.IntWalk
import Derived.KernelRfl
set_option linter.unusedVariables false
set_option linter.unusedSimpArgs false
namespace Go.Den.L11
open Go Go.IntWalk
abbrev BA := ByteArray
theorem bft : (false = true) = False := Bool.false_eq_true
theorem itn : ∀ n : Nat, (n : Int).toNat = n := Int.toNat_natCast
theorem bnt : (!true) = false := Bool.not_true
theorem bnf : (!false) = true := Bool.not_false
theorem bat : ∀ b : Bool, (b && true) = b := Bool.and_true
theorem bto : ∀ b : Bool, (true || b) = true := Bool.true_or
theorem bot : ∀ b : Bool, (b || true) = true := Bool.or_true
theorem bta : ∀ b : Bool, (true && b) = b := Bool.true_and
theorem ka (x : Rs) : chk true x = x := rfl
theorem kvd {b : Bool} (h : b = true) (x : Rs) : chk b x = x := by rw [h]; rfl
attribute [simp] ka okR isVs isV isD isDs isOs resC outC nthR nthO cellsDV nthD asB asI asS asL
theorem kim {α : Type} (a b : Bool) (h : a = !b) (x y : α) : (if a = true then x else y) = (if b = true then y else x) := by
 subst h; cases b <;> rfl
theorem kkj (a b : Bool) (h : a = b) : (some ([DV.one (.b a)], ([] : Rw)) : Rs) = some ([.one (.b b)], []) := by rw [h]
theorem kai : (⟨#[]⟩ : BA).toList = [] := by rw [ByteArray.toList_eq]
theorem kxe (s : BA) : s.toList = [] ↔ (s.size : Int) = 0 := by
 have e : s.size = s.data.toList.length := by rw [Array.length_toList]; rfl
 rw [ByteArray.toList_eq, e]
 cases s.data.toList <;> simp <;> omega
theorem kyi (s : BA) : s.toList.isEmpty = decide ((s.size : Int) = 0) := by
 rw [Bool.eq_iff_iff, List.isEmpty_iff, kxe]; simp
attribute [simp] kai kxe kyi
theorem kj : KK = 18446744073709551616 := Classical.choose_spec (⟨2 ^ 64, rfl⟩ : ∃ n : Nat, n = 2 ^ 64)
theorem ki (n : Int) (h : -9223372036854775808 ≤ n ∧ n ≤ 9223372036854775807) : w64 n = n := i64_in n h
theorem klb {l : Rw} {i : Nat} (hi : i < l.length) : l.getD i [] = l[i] := by simp [List.getD, hi]
theorem kcc {l : Rw} {es : List Sh} (h : ∀ r ∈ l, typL es r) {i : Nat} (hi : i < l.length) : typL es (l.getD i []) := by
 rw [klb hi]; exact h _ (List.getElem_mem hi)
theorem kc (i : Nat) (h : i < 4611686018427387904) : w64 ((i : Int) + 1) = ((i + 1 : Nat) : Int) := by
 rw [ki _ (by omega)]; rfl
theorem kvc (a b c : Int) : t63 a b c = some ([.one (.b (decide (b ≤ a) && decide (a ≤ c)))], []) := rfl
theorem kde (a b c : Int) : t57 a b c = some ([.one (.b (decide (b ≤ a) && decide (a ≤ c)))], []) := rfl
mutual
def szdD : Sh → D → Prop
 | .b, _ => True
 | .i _, _ => True
 | .s, d => (asS d).size ≤ 1048576
 | .l es, d => (asL d).length ≤ 1048576 ∧ ∀ r ∈ asL d, szdL es r
def szdL : List Sh → List D → Prop
 | [], _ => True
 | e :: es, ds => szdD e (nthD ds 0) ∧ szdL es ds.tail
end
theorem knb {l : Rw} {i : Nat} (h : i < l.length) : l.getD i [] ∈ l := by rw [klb h]; exact List.getElem_mem h
theorem kk {i n : Nat} (h : i < n) : decide ((i : Int) < (n : Int)) = true := by simp; omega
theorem kgc (i : Nat) : decide ((0 : Int) ≤ (i : Int)) = true := by simp
theorem ksh {α : Type} (f : α → α) : ∀ (a : List α) (x : α) (b : List α), (a ++ x :: b).modify a.length f = a ++ f x :: b
 | [], x, b => by simp
 | y :: a, x, b => by simp [ksh f a x b]
abbrev kv : List Sh := [.s, .i .i64]
theorem kqf {r : List D} (h : typL kv r) : ∃ x1 x2, r = [.s x1, .i .i64 x2] ∧ x1.size ≤ maxLen := by
 obtain ⟨_, _, rfl, ⟨x1, rfl, wx1⟩, ⟨_, _, rfl, ⟨x2, rfl, _⟩, rfl⟩⟩ := h
 exact ⟨x1, x2, rfl, wx1⟩
theorem kpj (x1 : BA) (x2 : Int)  : t143 x1 x2 x1 x2 = some ([.one (.b true)], []) := by
 simp only [t143, bne_self_eq_false, bnt, bft, if_false, okR, isVs, isV, isD, isDs, isOs, resC, outC, nthR, nthO, cellsDV, nthD, asB, asI, asS, asL, bat, bta, BEq.rfl, ka, decide_true]
theorem kni (b0 b1 : Bool) (q1 : Int → Bool → Bool → Rs) (q2 : Int → Bool → SV → Rs) (h2 : ∀ a b c, q2 a b c = some ([.one (.b true)], [])) (l : Rw) (h : ∀ r ∈ l, typL kv r) (hl : l.length < 4611686018427387904) : ∀ (k i m : Nat) (v w : SV), i + k = l.length → k < m →
  la137o1 t143 l l b0 b1 q1 q2 m i v w = some ([.one (.b true)], []) := by
 intro k
 induction k with
 | zero =>
  intro i m v w e hm
  obtain ⟨m, rfl⟩ : ∃ m', m = m' + 1 := ⟨m - 1, by omega⟩
  have ei : decide ((i : Int) < (l.length : Int)) = false := by simp; omega
  simp only [la137o1, ei, h2]
  simp
 | succ k ih =>
  intro i m v w e hm
  obtain ⟨m, rfl⟩ : ∃ m', m = m' + 1 := ⟨m - 1, by omega⟩
  have hr := kcc h (i := i) (by omega)
  obtain ⟨c1, c2, er, wc1⟩ := kqf hr
  have e1 : decide ((i : Int) < (l.length : Int)) = true := by simp; omega
  have e2 : decide ((0 : Int) ≤ (i : Int)) = true := by simp
  have ez : isRow z129 [.s c1, .i .i64 c2] = true := rfl
  have ew : okR zr143 zo143 (some ([.one (.b true)], [])) = true := rfl
  simp only [la137o1, e1, e2, itn, er, ez, nthD, asI, asS, asB, asL, kpj c1 c2, resC, nthR, cellsDV, ew, bat, ka, if_true, bnt, bft, if_false]
  rw [kc i (by omega)]
  exact ih (i + 1) m _ _ (by omega) (by omega)
theorem kji (l : Rw) (hl : l.length ≤ 1048576) (h : ∀ r ∈ l, typL kv r) : t137 l l = some ([.one (.b true)], []) := by
 have := kni false false (fun _ _ _ => some ([.one (.b false)], [])) (fun _ _ _ => some ([.one (.b true)], [])) (fun _ _ _ => rfl) l h (by omega) l.length 0 KK .undef .undef (by omega) (by rw [kj]; omega)
 simpa [t137, ta137] using this
abbrev ke : List Sh := [.i .i64, .i .i64, .i .i64, .i .i64, .i .i64, .s, .l [.s, .i .i64], .i .i64, .i .i64]
theorem kqb {r : List D} (h : typL ke r) : ∃ x1 x2 x3 x4 x5 x6 x7 x8 x9, r = [.i .i64 x1, .i .i64 x2, .i .i64 x3, .i .i64 x4, .i .i64 x5, .s x6, .l x7, .i .i64 x8, .i .i64 x9] ∧ x6.size ≤ maxLen ∧ x7.length ≤ maxLen ∧ (∀ r ∈ x7, typL kv r) := by
 obtain ⟨_, _, rfl, ⟨x1, rfl, _⟩, ⟨_, _, rfl, ⟨x2, rfl, _⟩, ⟨_, _, rfl, ⟨x3, rfl, _⟩, ⟨_, _, rfl, ⟨x4, rfl, _⟩, ⟨_, _, rfl, ⟨x5, rfl, _⟩, ⟨_, _, rfl, ⟨x6, rfl, wx6⟩, ⟨_, _, rfl, ⟨x7, rfl, wx7, tx7⟩, ⟨_, _, rfl, ⟨x8, rfl, _⟩, ⟨_, _, rfl, ⟨x9, rfl, _⟩, rfl⟩⟩⟩⟩⟩⟩⟩⟩⟩ := h
 exact ⟨x1, x2, x3, x4, x5, x6, x7, x8, x9, rfl, wx6, wx7, tx7⟩
theorem kxk (x1 : Int) (x2 : Int) (x3 : Int) (x4 : Int) (x5 : Int) (x6 : BA) (x7 : Rw) (x8 : Int) (x9 : Int) (wx7 : x7.length ≤ 1048576) (tx7 : ∀ r ∈ x7, typL kv r) : t120 x1 x2 x3 x4 x5 x6 x7 x8 x9 x1 x2 x3 x4 x5 x6 x7 x8 x9 = some ([.one (.b true)], []) := by
 simp only [t120, ta120, bne_self_eq_false, bnt, bft, if_false, kji x7 wx7 tx7, zr137, zo137, okR, isVs, isV, isD, isDs, isOs, resC, outC, nthR, nthO, cellsDV, nthD, asB, asI, asS, asL, bat, bta, BEq.rfl, ka, decide_true]
theorem kxj (b0 b1 : Bool) (q1 : Int → Bool → Bool → Rs) (q2 : Int → Bool → SV → Rs) (h2 : ∀ a b c, q2 a b c = some ([.one (.b true)], [])) (l : Rw) (h : ∀ r ∈ l, typL ke r) (hs : ∀ r ∈ l, szdL ke r) (hl : l.length < 4611686018427387904) : ∀ (k i m : Nat) (v w : SV), i + k = l.length → k < m →
  la83o1 t120 l l b0 b1 q1 q2 m i v w = some ([.one (.b true)], []) := by
 intro k
 induction k with
 | zero =>
  intro i m v w e hm
  obtain ⟨m, rfl⟩ : ∃ m', m = m' + 1 := ⟨m - 1, by omega⟩
  have ei : decide ((i : Int) < (l.length : Int)) = false := by simp; omega
  simp only [la83o1, ei, h2]
  simp
 | succ k ih =>
  intro i m v w e hm
  obtain ⟨m, rfl⟩ : ∃ m', m = m' + 1 := ⟨m - 1, by omega⟩
  have hr := kcc h (i := i) (by omega)
  obtain ⟨c1, c2, c3, c4, c5, c6, c7, c8, c9, er, wc6, wc7, tc7⟩ := kqb hr
  have hso := hs _ (knb (l := l) (i := i) (by omega))
  rw [er] at hso
  have e1 : decide ((i : Int) < (l.length : Int)) = true := by simp; omega
  have e2 : decide ((0 : Int) ≤ (i : Int)) = true := by simp
  have ez : isRow z64 [.i .i64 c1, .i .i64 c2, .i .i64 c3, .i .i64 c4, .i .i64 c5, .s c6, .l c7, .i .i64 c8, .i .i64 c9] = true := rfl
  have ew : okR zr120 zo120 (some ([.one (.b true)], [])) = true := rfl
  simp only [la83o1, e1, e2, itn, er, ez, nthD, asI, asS, asB, asL, kxk c1 c2 c3 c4 c5 c6 c7 c8 c9 hso.2.2.2.2.2.2.1.1 tc7, resC, nthR, cellsDV, ew, bat, ka, if_true, bnt, bft, if_false]
  rw [kc i (by omega)]
  exact ih (i + 1) m _ _ (by omega) (by omega)
theorem ksj (l : Rw) (hl : l.length ≤ 1048576) (h : ∀ r ∈ l, typL ke r) (hs : ∀ r ∈ l, szdL ke r) : t83 l l = some ([.one (.b true)], []) := by
 have := kxj false false (fun _ _ _ => some ([.one (.b false)], [])) (fun _ _ _ => some ([.one (.b true)], [])) (fun _ _ _ => rfl) l h hs (by omega) l.length 0 KK .undef .undef (by omega) (by rw [kj]; omega)
 simpa [t83, ta83] using this
theorem kqm (x1 : Int) (x2 : Rw) (wx2 : x2.length ≤ 1048576) (tx2 : ∀ r ∈ x2, typL ke r) (sx2 : ∀ r ∈ x2, szdL ke r) : t42 x1 x2 x1 x2 = some ([.one (.b true)], []) := by
 simp only [t42, ta42, bne_self_eq_false, bnt, bft, if_false, ksj x2 wx2 tx2 sx2, zr83, zo83, okR, isVs, isV, isD, isDs, isOs, resC, outC, nthR, nthO, cellsDV, nthD, asB, asI, asS, asL, bat, bta, BEq.rfl, ka, decide_true]
theorem kvj (x1 : Int) (x2 : BA)  : t121 x1 x2 x1 x2 = some ([.one (.b true)], []) := by
 simp only [t121, bne_self_eq_false, bnt, bft, if_false, okR, isVs, isV, isD, isDs, isOs, resC, outC, nthR, nthO, cellsDV, nthD, asB, asI, asS, asL, bat, bta, BEq.rfl, ka, decide_true]
abbrev kpb : List Sh := [.i .i64, .i .i64, .i .i64, .i .i64, .i .i64]
theorem kfk {r : List D} (h : typL kpb r) : ∃ x1 x2 x3 x4 x5, r = [.i .i64 x1, .i .i64 x2, .i .i64 x3, .i .i64 x4, .i .i64 x5] := by
 obtain ⟨_, _, rfl, ⟨x1, rfl, _⟩, ⟨_, _, rfl, ⟨x2, rfl, _⟩, ⟨_, _, rfl, ⟨x3, rfl, _⟩, ⟨_, _, rfl, ⟨x4, rfl, _⟩, ⟨_, _, rfl, ⟨x5, rfl, _⟩, rfl⟩⟩⟩⟩⟩ := h
 exact ⟨x1, x2, x3, x4, x5, rfl⟩
theorem ktl (x1 : Int) (x2 : Int) (x3 : Int) (x4 : Int) (x5 : Int)  : t84 x1 x2 x3 x4 x5 x1 x2 x3 x4 x5 = some ([.one (.b true)], []) := by
 simp only [t84, bne_self_eq_false, bnt, bft, if_false, okR, isVs, isV, isD, isDs, isOs, resC, outC, nthR, nthO, cellsDV, nthD, asB, asI, asS, asL, bat, bta, BEq.rfl, ka, decide_true]
theorem kik (b0 b1 : Bool) (q1 : Int → Bool → Bool → Rs) (q2 : Int → Bool → SV → Rs) (h2 : ∀ a b c, q2 a b c = some ([.one (.b true)], [])) (l : Rw) (h : ∀ r ∈ l, typL kpb r) (hl : l.length < 4611686018427387904) : ∀ (k i m : Nat) (v w : SV), i + k = l.length → k < m →
  la43o1 t84 l l b0 b1 q1 q2 m i v w = some ([.one (.b true)], []) := by
 intro k
 induction k with
 | zero =>
  intro i m v w e hm
  obtain ⟨m, rfl⟩ : ∃ m', m = m' + 1 := ⟨m - 1, by omega⟩
  have ei : decide ((i : Int) < (l.length : Int)) = false := by simp; omega
  simp only [la43o1, ei, h2]
  simp
 | succ k ih =>
  intro i m v w e hm
  obtain ⟨m, rfl⟩ : ∃ m', m = m' + 1 := ⟨m - 1, by omega⟩
  have hr := kcc h (i := i) (by omega)
  obtain ⟨c1, c2, c3, c4, c5, er⟩ := kfk hr
  have e1 : decide ((i : Int) < (l.length : Int)) = true := by simp; omega
  have e2 : decide ((0 : Int) ≤ (i : Int)) = true := by simp
  have ez : isRow z90 [.i .i64 c1, .i .i64 c2, .i .i64 c3, .i .i64 c4, .i .i64 c5] = true := rfl
  have ew : okR zr84 zo84 (some ([.one (.b true)], [])) = true := rfl
  simp only [la43o1, e1, e2, itn, er, ez, nthD, asI, asS, asB, asL, ktl c1 c2 c3 c4 c5, resC, nthR, cellsDV, ew, bat, ka, if_true, bnt, bft, if_false]
  rw [kc i (by omega)]
  exact ih (i + 1) m _ _ (by omega) (by omega)
theorem kzk (l : Rw) (hl : l.length ≤ 1048576) (h : ∀ r ∈ l, typL kpb r) : t43 l l = some ([.one (.b true)], []) := by
 have := kik false false (fun _ _ _ => some ([.one (.b false)], [])) (fun _ _ _ => some ([.one (.b true)], [])) (fun _ _ _ => rfl) l h (by omega) l.length 0 KK .undef .undef (by omega) (by rw [kj]; omega)
 simpa [t43, ta43] using this
abbrev kab : List Sh := [.i .i64, .i .i64, .i .i64, .i .i64, .s]
theorem kdh {r : List D} (h : typL kab r) : ∃ x1 x2 x3 x4 x5, r = [.i .i64 x1, .i .i64 x2, .i .i64 x3, .i .i64 x4, .s x5] ∧ x5.size ≤ maxLen := by
 obtain ⟨_, _, rfl, ⟨x1, rfl, _⟩, ⟨_, _, rfl, ⟨x2, rfl, _⟩, ⟨_, _, rfl, ⟨x3, rfl, _⟩, ⟨_, _, rfl, ⟨x4, rfl, _⟩, ⟨_, _, rfl, ⟨x5, rfl, wx5⟩, rfl⟩⟩⟩⟩⟩ := h
 exact ⟨x1, x2, x3, x4, x5, rfl, wx5⟩
theorem ksi (x1 : Int) (x2 : Int) (x3 : Int) (x4 : Int) (x5 : BA)  : t85 x1 x2 x3 x4 x5 x1 x2 x3 x4 x5 = some ([.one (.b true)], []) := by
 simp only [t85, ta85, bne_self_eq_false, bnt, bft, if_false, kvj x4 x5 , zr121, zo121, okR, isVs, isV, isD, isDs, isOs, resC, outC, nthR, nthO, cellsDV, nthD, asB, asI, asS, asL, bat, bta, BEq.rfl, ka, decide_true]
theorem kfi (b0 b1 : Bool) (q1 : Int → Bool → Bool → Rs) (q2 : Int → Bool → SV → Rs) (h2 : ∀ a b c, q2 a b c = some ([.one (.b true)], [])) (l : Rw) (h : ∀ r ∈ l, typL kab r) (hl : l.length < 4611686018427387904) : ∀ (k i m : Nat) (v w : SV), i + k = l.length → k < m →
  la44o1 t85 l l b0 b1 q1 q2 m i v w = some ([.one (.b true)], []) := by
 intro k
 induction k with
 | zero =>
  intro i m v w e hm
  obtain ⟨m, rfl⟩ : ∃ m', m = m' + 1 := ⟨m - 1, by omega⟩
  have ei : decide ((i : Int) < (l.length : Int)) = false := by simp; omega
  simp only [la44o1, ei, h2]
  simp
 | succ k ih =>
  intro i m v w e hm
  obtain ⟨m, rfl⟩ : ∃ m', m = m' + 1 := ⟨m - 1, by omega⟩
  have hr := kcc h (i := i) (by omega)
  obtain ⟨c1, c2, c3, c4, c5, er, wc5⟩ := kdh hr
  have e1 : decide ((i : Int) < (l.length : Int)) = true := by simp; omega
  have e2 : decide ((0 : Int) ≤ (i : Int)) = true := by simp
  have ez : isRow z81 [.i .i64 c1, .i .i64 c2, .i .i64 c3, .i .i64 c4, .s c5] = true := rfl
  have ew : okR zr85 zo85 (some ([.one (.b true)], [])) = true := rfl
  simp only [la44o1, e1, e2, itn, er, ez, nthD, asI, asS, asB, asL, ksi c1 c2 c3 c4 c5, resC, nthR, cellsDV, ew, bat, ka, if_true, bnt, bft, if_false]
  rw [kc i (by omega)]
  exact ih (i + 1) m _ _ (by omega) (by omega)
theorem krh (l : Rw) (hl : l.length ≤ 1048576) (h : ∀ r ∈ l, typL kab r) : t44 l l = some ([.one (.b true)], []) := by
 have := kfi false false (fun _ _ _ => some ([.one (.b false)], [])) (fun _ _ _ => some ([.one (.b true)], [])) (fun _ _ _ => rfl) l h (by omega) l.length 0 KK .undef .undef (by omega) (by rw [kj]; omega)
 simpa [t44, ta44] using this
abbrev km : List Sh := [.i .i64, .l [.i .i64, .i .i64, .i .i64, .i .i64, .i .i64, .s, .l [.s, .i .i64], .i .i64, .i .i64], .i .i64, .l [.i .i64, .i .i64, .i .i64, .i .i64, .i .i64], .l [.i .i64, .i .i64, .i .i64, .i .i64, .s]]
theorem kod {r : List D} (h : typL km r) : ∃ x1 x2 x3 x4 x5, r = [.i .i64 x1, .l x2, .i .i64 x3, .l x4, .l x5] ∧ x2.length ≤ maxLen ∧ (∀ r ∈ x2, typL ke r) ∧ x4.length ≤ maxLen ∧ (∀ r ∈ x4, typL kpb r) ∧ x5.length ≤ maxLen ∧ (∀ r ∈ x5, typL kab r) := by
 obtain ⟨_, _, rfl, ⟨x1, rfl, _⟩, ⟨_, _, rfl, ⟨x2, rfl, wx2, tx2⟩, ⟨_, _, rfl, ⟨x3, rfl, _⟩, ⟨_, _, rfl, ⟨x4, rfl, wx4, tx4⟩, ⟨_, _, rfl, ⟨x5, rfl, wx5, tx5⟩, rfl⟩⟩⟩⟩⟩ := h
 exact ⟨x1, x2, x3, x4, x5, rfl, wx2, tx2, wx4, tx4, wx5, tx5⟩
theorem koj (x1 : Int) (x2 : Rw) (x3 : Int) (x4 : Rw) (x5 : Rw) (wx2 : x2.length ≤ 1048576) (tx2 : ∀ r ∈ x2, typL ke r) (sx2 : ∀ r ∈ x2, szdL ke r) (wx4 : x4.length ≤ 1048576) (tx4 : ∀ r ∈ x4, typL kpb r) (wx5 : x5.length ≤ 1048576) (tx5 : ∀ r ∈ x5, typL kab r) : t14 x1 x2 x3 x4 x5 x1 x2 x3 x4 x5 = some ([.one (.b true)], []) := by
 simp only [t14, ta14, bne_self_eq_false, bnt, bft, if_false, kqm x1 x2 wx2 tx2 sx2, kzk x4 wx4 tx4, krh x5 wx5 tx5, zr42, zo42, zr43, zo43, zr44, zo44, okR, isVs, isV, isD, isDs, isOs, resC, outC, nthR, nthO, cellsDV, nthD, asB, asI, asS, asL, bat, bta, BEq.rfl, ka, decide_true]
theorem koi (b0 b1 : Bool) (q1 : Int → Bool → Bool → Rs) (q2 : Int → Bool → SV → Rs) (h2 : ∀ a b c, q2 a b c = some ([.one (.b true)], [])) (l : Rw) (h : ∀ r ∈ l, typL km r) (hs : ∀ r ∈ l, szdL km r) (hl : l.length < 4611686018427387904) : ∀ (k i m : Nat) (v w : SV), i + k = l.length → k < m →
  la19o1 t14 l l b0 b1 q1 q2 m i v w = some ([.one (.b true)], []) := by
 intro k
 induction k with
 | zero =>
  intro i m v w e hm
  obtain ⟨m, rfl⟩ : ∃ m', m = m' + 1 := ⟨m - 1, by omega⟩
  have ei : decide ((i : Int) < (l.length : Int)) = false := by simp; omega
  simp only [la19o1, ei, h2]
  simp
 | succ k ih =>
  intro i m v w e hm
  obtain ⟨m, rfl⟩ : ∃ m', m = m' + 1 := ⟨m - 1, by omega⟩
  have hr := kcc h (i := i) (by omega)
  obtain ⟨c1, c2, c3, c4, c5, er, wc2, tc2, wc4, tc4, wc5, tc5⟩ := kod hr
  have hso := hs _ (knb (l := l) (i := i) (by omega))
  rw [er] at hso
  have e1 : decide ((i : Int) < (l.length : Int)) = true := by simp; omega
  have e2 : decide ((0 : Int) ≤ (i : Int)) = true := by simp
  have ez : isRow z28 [.i .i64 c1, .l c2, .i .i64 c3, .l c4, .l c5] = true := rfl
  have ew : okR zr14 zo14 (some ([.one (.b true)], [])) = true := rfl
  simp only [la19o1, e1, e2, itn, er, ez, nthD, asI, asS, asB, asL, koj c1 c2 c3 c4 c5 hso.2.1.1 tc2 hso.2.1.2 hso.2.2.2.1.1 tc4 hso.2.2.2.2.1.1 tc5, resC, nthR, cellsDV, ew, bat, ka, if_true, bnt, bft, if_false]
  rw [kc i (by omega)]
  exact ih (i + 1) m _ _ (by omega) (by omega)
theorem kki (l : Rw) (hl : l.length ≤ 1048576) (h : ∀ r ∈ l, typL km r) (hs : ∀ r ∈ l, szdL km r) : t19 l l = some ([.one (.b true)], []) := by
 have := koi false false (fun _ _ _ => some ([.one (.b false)], [])) (fun _ _ _ => some ([.one (.b true)], [])) (fun _ _ _ => rfl) l h hs (by omega) l.length 0 KK .undef .undef (by omega) (by rw [kj]; omega)
 simpa [t19, ta19] using this
theorem kwj (s7 : BA) (b9 : Bool) (q1 : Int → BA → Bool → Rs) (h1 : ∀ n (s : BA) b, s.size ≤ 1000 → ∃ x, q1 n s b = some ([.one (.s x)], [])) : ∀ (k m : Nat) (n : Int) (s : BA) (v : SV), 0 ≤ n → n < 10 ^ k → n < 4611686018427387904 → k < m → s.size + k ≤ 1000 →
  ∃ x, l86o1 s7 b9 q1 m n s v = some ([.one (.s x)], []) := by
 intro k
 induction k with
 | zero =>
  intro m n s v h0 hn h2 hm hs
  obtain ⟨m, rfl⟩ : ∃ m', m = m' + 1 := ⟨m - 1, by omega⟩
  have e : decide (n > 0) = false := by simp; omega
  simp only [l86o1, e, bft, if_false]
  exact h1 _ _ _ (by omega)
 | succ k ih =>
  intro m n s v h0 hn h2 hm hs
  obtain ⟨m, rfl⟩ : ∃ m', m = m' + 1 := ⟨m - 1, by omega⟩
  by_cases e : n > 0
  ·have e' : decide (n > 0) = true := decide_eq_true e
   have hb : ∀ x : Int, isBytes [[D.i .u8 x]] = true := fun _ => rfl
   have hz : ∀ x : Int, (⟨(bytesD [[D.i .u8 x]]).toArray⟩ : BA).size = 1 := fun _ => rfl
   simp only [l86o1, e', if_true, hb, ka, hz]
   rw [kvd (decide_eq_true (by unfold lim; omega)), Int.tdiv_eq_ediv_of_nonneg h0, ki (n / 10) (by omega)]
   refine ih m (n / 10) _ _ (by omega) ?_ (by omega) (by omega) (by rw [ByteArray.size_append, hz]; omega)
   rw [Int.ediv_lt_iff_lt_mul (by omega)]
   rw [Int.pow_succ] at hn
   exact hn
  ·have e' : decide (n > 0) = false := decide_eq_false e
   simp only [l86o1, e', bft, if_false]
   exact h1 _ _ _ (by omega)
noncomputable def mkT (k : Int) : BA := asS (resC (t86 k) 0 0)
theorem kbd (k : Int) (h : k < 4611686018427387904) : t86 k = some ([.one (.s (mkT k))], []) := by
 have : ∃ x, t86 k = some ([.one (.s x)], []) := by
  unfold t86
  by_cases e : k ≤ 0
  ·have e' : decide (k ≤ 0) = true := decide_eq_true e
   simp only [e', if_true]; exact ⟨_, rfl⟩
  ·have e' : decide (k ≤ 0) = false := decide_eq_false e
   simp only [e', bft, if_false]
   refine kwj _ _ _ ?_ 20 KK k _ _ (by omega) (by omega) h (by rw [kj]; omega) (by show 0 + 20 ≤ 1000; omega)
   intro n s b hs
   have e0 : (⟨#[109]⟩ : BA).size = 1 := rfl
   simp only [e0]
   rw [kvd (decide_eq_true (by unfold lim; omega))]
   exact ⟨_, rfl⟩
 obtain ⟨x, hx⟩ := this
 have : mkT k = x := by unfold mkT; rw [hx]; rfl
 rw [this, hx]
theorem kqd {x : BA} : okR zr86 zo86 (some ([.one (.s x)], [])) = true := rfl
theorem kpd {x : BA} : asS (resC (some ([.one (.s x)], [])) 0 0) = x := rfl
theorem kyb (a b : Rw) (r ys : List D) (i off : Nat) (h : i = a.length) : stR (a ++ r :: b) i off ys = a ++ (r.take off ++ ys ++ r.drop (off + ys.length)) :: b := by
 subst h; unfold stR; exact ksh _ a r b
theorem kbe (a b : Rw) (r : List D) (i : Nat) (h : i = a.length) : (a ++ r :: b).getD i [] = r := by
 subst h; simp [List.getD]
theorem kfd : ∀ (es : List Sh) (r : List D), typL es r → r.length = es.length
 | [], r, h => by rw [show r = [] from h]; rfl
 | e :: es, r, h => by
  obtain ⟨d, r', rfl, _, h⟩ := h
  simp only [List.length_cons, kfd es r' h]
theorem kdi {n : Nat} {xs : Rw} (h : ∀ r ∈ xs, r.length = n) : fstSz n xs = true := by
 unfold fstSz
 cases xs with
 | nil => simp
 | cons r b => simpa using h r (by simp)
theorem keq (a b : Rw) (i : Nat) (h : i = a.length) (c1 c2 d : D) : stR (a ++ [c1, c2] :: b) i 0 [d] = a ++ [d, c2] :: b := kyb a b _ _ i 0 h
theorem kwp (a b : Rw) (i : Nat) (h : i = a.length) (c1 c2 d : D) : stR (a ++ [c1, c2] :: b) i 1 [d] = a ++ [c1, d] :: b := kyb a b _ _ i 1 h
theorem len2 {r : List D} (h : r.length = 2) : ∃ c1 c2, r = [c1, c2] := by
 match r, h with
 | [c1, c2], _ => exact ⟨c1, c2, rfl⟩
noncomputable def kub (k : Int) : List D := [.s (mkT (k)), .i .i64 (k + 1)]
noncomputable def ky : Int → Rw → Rw
 | _, [] => []
 | k, _ :: b => kub k :: ky (k + 1 + 1) b
theorem kkh (n8 : Int) (q : Int → Int → Bool → Rw → Rs) (hq : ∀ a b c d, q a b c d = some ([.one (.i .i64 a)], [[.l d]])) : ∀ (b a : Rw) (m : Nat) (k : Int) (v0 : SV), (∀ r ∈ b, r.length = 2) → b.length < m → a.length + b.length ≤ 4000000 → 0 ≤ k → k + 2 * (b.length : Int) ≤ 4000000000000000000 →
  la87o0 t86 n8 q m k (a.length : Int) v0 (a ++ b) = some ([.one (.i .i64 (k + 2 * (b.length : Int)))], [[.l (a ++ ky k b)]]) := by
 intro b
 induction b with
 | nil =>
  intro a m k v0 h hm hl h0 hk
  obtain ⟨m, rfl⟩ : ∃ m', m = m' + 1 := ⟨m - 1, by omega⟩
  have e : decide ((a.length : Int) < ((a ++ ([] : Rw)).length : Int)) = false := by simp
  have e2 : k + 2 * ((([] : Rw).length : Nat) : Int) = k := by simp
  simp only [la87o0, e, bft, if_false, hq, e2, ky]
 | cons r b ih =>
  intro a m k v0 h hm hl h0 hk
  obtain ⟨m, rfl⟩ : ∃ m', m = m' + 1 := ⟨m - 1, by omega⟩
  simp only [List.length_cons] at hm hl hk
  obtain ⟨c1, c2, rfl⟩ := len2 (h r (List.mem_cons_self ..))
  have hb : ∀ r ∈ b, r.length = 2 := fun r hr => h r (List.mem_cons_of_mem _ hr)
  have e1 : ∀ r : List D, decide ((a.length : Int) < ((a ++ r :: b).length : Int)) = true := fun r => decide_eq_true (by simp; omega)
  have e0 : decide (0 ≤ (a.length : Int)) = true := decide_eq_true (by omega)
  have p1 : ∀ r : List D, decide (1 ≤ 2 ∧ a.length < (a ++ r :: b).length) = true := fun r => decide_eq_true (by simp)
  have p2 : ∀ r : List D, decide (2 ≤ 2 ∧ a.length < (a ++ r :: b).length) = true := fun r => decide_eq_true (by simp)
  have u1 : w64 (k + 1) = k + 1 := ki _ (by omega)
  have u2 : w64 (k + 1 + 1) = k + 1 + 1 := ki _ (by omega)
  have t0 := kbd (k) (by omega)
  have hw := kc a.length (by omega)
  simp only [la87o0, e1, e0, if_true, itn, p1, p2, u1, u2, t0, kqd, kpd, keq a b _ rfl, kwp a b _ rfl, bat, ka, hw]
  have := fun (z0 : SV) => ih (a ++ [kub k]) m (k + 1 + 1) z0 hb (by omega) (by simp; omega) (by omega) (by omega)
  have e3 : (a ++ [kub k]).length = a.length + 1 := by simp
  simp only [e3, List.append_assoc] at this
  have e4 : k + 2 * ((([c1, c2] :: b).length : Nat) : Int) = k + 1 + 1 + 2 * (b.length : Int) := by simp only [List.length_cons]; omega
  have e5 : a ++ ky k ([c1, c2] :: b) = (a ++ [kub k]) ++ ky (k + 1 + 1) b := by simp [ky]
  rw [e4, e5, List.append_assoc]
  exact this _
theorem kpi (l : Rw) (h : ∀ r ∈ l, r.length = 2) (hl : l.length ≤ 4000000) (k : Int) (h0 : 0 ≤ k) (hk : k + 2 * (l.length : Int) ≤ 4000000000000000000) : t87 l k = some ([.one (.i .i64 (k + 2 * (l.length : Int)))], [[.l (ky k l)]]) := by
 unfold t87 ta87
 exact kkh _ _ (fun _ _ _ _ => rfl) l [] KK k _ h (by rw [kj]; omega) (by simpa using hl) h0 hk
theorem kqh (n9 : Int) (q1 : Int → Int → Bool → Bool → SV → Rs) (q2 : Int → Int → Bool → Bool → Bool → Rs) (q3 : Int → Int → Bool → SV → SV → Rs) (hq : ∀ x0 x1 x2 x3 x4, q3 x0 x1 x2 x3 x4 = some ([.one (.i .i64 x0)], [])) : ∀ (b a : Rw) (m : Nat) (k : Int) (v0 v1 v2 : SV) (L : Rw) (i : Int), L = a ++ ky k b → i = (a.length : Int) → b.length < m → a.length + b.length ≤ 4000000 → 0 ≤ k → k + 2 * (b.length : Int) ≤ 4000000000000000000 →
  la88o0 t86 L n9 q1 q2 q3 m k i v0 v1 v2 = some ([.one (.i .i64 (k + 2 * (b.length : Int)))], []) := by
 intro b
 induction b with
 | nil =>
  intro a m k v0 v1 v2 L i hL hi hm hl h0 hk
  subst hL hi
  obtain ⟨m, rfl⟩ : ∃ m', m = m' + 1 := ⟨m - 1, by omega⟩
  have e : decide ((a.length : Int) < ((a ++ ([] : Rw)).length : Int)) = false := by simp
  have e2 : k + 2 * ((([] : Rw).length : Nat) : Int) = k := by simp
  rw [show ky k [] = [] from rfl]
  simp only [la88o0, e, bft, if_false, hq, e2]
 | cons r b ih =>
  intro a m k v0 v1 v2 L i hL hi hm hl h0 hk
  subst hL hi
  obtain ⟨m, rfl⟩ : ∃ m', m = m' + 1 := ⟨m - 1, by omega⟩
  simp only [List.length_cons] at hm hl hk
  have e1 : ∀ (r : List D) (b : Rw), decide ((a.length : Int) < ((a ++ r :: b).length : Int)) = true := fun r b => decide_eq_true (by simp; omega)
  have e0 : decide (0 ≤ (a.length : Int)) = true := decide_eq_true (by omega)
  have eg : ∀ (r : List D) (b : Rw), (a ++ r :: b).getD a.length [] = r := fun r b => kbe a b r _ rfl
  have u1 : w64 (k + 1) = k + 1 := ki _ (by omega)
  have u2 : w64 (k + 1 + 1) = k + 1 + 1 := ki _ (by omega)
  have t0 := kbd (k) (by omega)
  have hw := kc a.length (by omega)
  have this := fun (z0 : SV) (z1 : SV) (z2 : SV) => ih (a ++ [kub k]) m (k + 1 + 1) z0 z1 z2 _ _ rfl rfl (by omega) (by simp; omega) (by omega) (by omega)
  have e3 : (a ++ [kub k]).length = a.length + 1 := by simp
  simp only [e3, List.append_assoc] at this
  have e4 : k + 2 * (((r :: b).length : Nat) : Int) = k + 1 + 1 + 2 * (b.length : Int) := by simp only [List.length_cons]; omega
  have e5 : a ++ ky k (r :: b) = a ++ kub k :: ky (k + 1 + 1) b := rfl
  rw [e5]
  have ez : isRow z129 (kub k) = true := rfl
  have d0 : asS (nthD (kub k) 0) = mkT (k) := rfl
  have d1 : asI (nthD (kub k) 1) = k + 1 := rfl
  simp only [la88o0, e1, e0, if_true, itn, eg, ez, d0, d1, u1, u2, t0, kqd, kpd, bne_self_eq_false, beq_self_eq_true, bnt, bft, if_false, bat, ka, hw]
  rw [e4]
  exact this _ _ _
theorem kui (l : Rw) (hl : l.length ≤ 4000000) (k : Int) (h0 : 0 ≤ k) (hk : k + 2 * (l.length : Int) ≤ 4000000000000000000) : t88 (ky k l) k = some ([.one (.i .i64 (k + 2 * (l.length : Int)))], []) := by
 unfold t88 ta88
 exact kqh _ _ _ _ (fun _ _ _ _ _ => rfl) l [] KK k _ _ _ _ _ rfl rfl (by rw [kj]; omega) (by simpa using hl) h0 hk
noncomputable def kdb (k : Int) (r : List D) : List D := [.i .i64 (k), .i .i64 (k + 1), .i .i64 (k + 1 + 1), .i .i64 (k + 1 + 1 + 1), .i .i64 (k + 1 + 1 + 1 + 1), .s (mkT (k + 1 + 1 + 1 + 1 + 1)), .l (ky (k + 1 + 1 + 1 + 1 + 1 + 1) (asL (nthD r 6))), .i .i64 (k + 1 + 1 + 1 + 1 + 1 + 1 + 2 * (((asL (nthD r 6))).length : Int)), .i .i64 (k + 1 + 1 + 1 + 1 + 1 + 1 + 2 * (((asL (nthD r 6))).length : Int) + 1)]
def kmc (r : List D) : Int := 8 + 2 * (((asL (nthD r 6))).length : Int)
noncomputable def kz : Int → Rw → Rw
 | _, [] => []
 | k, r :: b => kdb k r :: kz (k + kmc r) b
def kf : Rw → Int
 | [] => 0
 | r :: b => kmc r + kf b
theorem ktc : ∀ (b : Rw), 0 ≤ kf b
 | [] => by simp [kf]
 | r :: b => by
  have h := ktc b
  simp only [kf, kmc]
  omega
theorem kfg : ∀ (b : Rw), (∀ r ∈ b, typL ke r) → (∀ r ∈ b, szdL ke r) → kf b ≤ 2097160 * (b.length : Int)
 | [], _, _ => by simp [kf]
 | r :: b, h, hs => by
  have ih := kfg b (fun r hr => h r (List.mem_cons_of_mem _ hr)) (fun r hr => hs r (List.mem_cons_of_mem _ hr))
  have hz := hs r (List.mem_cons_self ..)
  obtain ⟨x1, x2, x3, x4, x5, x6, x7, x8, x9, rfl, wx6, wx7, tx7⟩ := kqb (h r (List.mem_cons_self ..))
  have sx7 : x7.length ≤ 1048576 ∧ ∀ r ∈ x7, szdL kv r := hz.2.2.2.2.2.2.1
  have lx7 := sx7.1
  simp only [kf, kmc, nthD, asL, List.length_cons]
  omega
theorem kzp (a b : Rw) (i : Nat) (h : i = a.length) (c1 c2 c3 c4 c5 c6 c7 c8 c9 d : D) : stR (a ++ [c1, c2, c3, c4, c5, c6, c7, c8, c9] :: b) i 0 [d] = a ++ [d, c2, c3, c4, c5, c6, c7, c8, c9] :: b := kyb a b _ _ i 0 h
theorem kyp (a b : Rw) (i : Nat) (h : i = a.length) (c1 c2 c3 c4 c5 c6 c7 c8 c9 d : D) : stR (a ++ [c1, c2, c3, c4, c5, c6, c7, c8, c9] :: b) i 1 [d] = a ++ [c1, d, c3, c4, c5, c6, c7, c8, c9] :: b := kyb a b _ _ i 1 h
theorem kcq (a b : Rw) (i : Nat) (h : i = a.length) (c1 c2 c3 c4 c5 c6 c7 c8 c9 d : D) : stR (a ++ [c1, c2, c3, c4, c5, c6, c7, c8, c9] :: b) i 2 [d] = a ++ [c1, c2, d, c4, c5, c6, c7, c8, c9] :: b := kyb a b _ _ i 2 h
theorem kaq (a b : Rw) (i : Nat) (h : i = a.length) (c1 c2 c3 c4 c5 c6 c7 c8 c9 d : D) : stR (a ++ [c1, c2, c3, c4, c5, c6, c7, c8, c9] :: b) i 3 [d] = a ++ [c1, c2, c3, d, c5, c6, c7, c8, c9] :: b := kyb a b _ _ i 3 h
theorem kdq (a b : Rw) (i : Nat) (h : i = a.length) (c1 c2 c3 c4 c5 c6 c7 c8 c9 d : D) : stR (a ++ [c1, c2, c3, c4, c5, c6, c7, c8, c9] :: b) i 4 [d] = a ++ [c1, c2, c3, c4, d, c6, c7, c8, c9] :: b := kyb a b _ _ i 4 h
theorem kfq (a b : Rw) (i : Nat) (h : i = a.length) (c1 c2 c3 c4 c5 c6 c7 c8 c9 d : D) : stR (a ++ [c1, c2, c3, c4, c5, c6, c7, c8, c9] :: b) i 5 [d] = a ++ [c1, c2, c3, c4, c5, d, c7, c8, c9] :: b := kyb a b _ _ i 5 h
theorem kxp (a b : Rw) (i : Nat) (h : i = a.length) (c1 c2 c3 c4 c5 c6 c7 c8 c9 d : D) : stR (a ++ [c1, c2, c3, c4, c5, c6, c7, c8, c9] :: b) i 6 [d] = a ++ [c1, c2, c3, c4, c5, c6, d, c8, c9] :: b := kyb a b _ _ i 6 h
theorem kup (a b : Rw) (i : Nat) (h : i = a.length) (c1 c2 c3 c4 c5 c6 c7 c8 c9 d : D) : stR (a ++ [c1, c2, c3, c4, c5, c6, c7, c8, c9] :: b) i 7 [d] = a ++ [c1, c2, c3, c4, c5, c6, c7, d, c9] :: b := kyb a b _ _ i 7 h
theorem kvp (a b : Rw) (i : Nat) (h : i = a.length) (c1 c2 c3 c4 c5 c6 c7 c8 c9 d : D) : stR (a ++ [c1, c2, c3, c4, c5, c6, c7, c8, c9] :: b) i 8 [d] = a ++ [c1, c2, c3, c4, c5, c6, c7, c8, d] :: b := kyb a b _ _ i 8 h
theorem kgi (n8 : Int) (q : Int → Int → Bool → Rw → Rs) (hq : ∀ a b c d, q a b c d = some ([.one (.i .i64 a)], [[.l d]])) : ∀ (b a : Rw) (m : Nat) (k : Int) (v0 : SV), (∀ r ∈ b, typL ke r) → (∀ r ∈ b, szdL ke r) → b.length < m → a.length + b.length ≤ 4000000 → 0 ≤ k → k + kf b ≤ 4000000000000000000 →
  la51o0 t86 t87 n8 q m k (a.length : Int) v0 (a ++ b) = some ([.one (.i .i64 (k + kf b))], [[.l (a ++ kz k b)]]) := by
 intro b
 induction b with
 | nil =>
  intro a m k v0 h hs hm hl h0 hk
  obtain ⟨m, rfl⟩ : ∃ m', m = m' + 1 := ⟨m - 1, by omega⟩
  have e : decide ((a.length : Int) < ((a ++ ([] : Rw)).length : Int)) = false := by simp
  have e2 : k + kf [] = k := by simp [kf]
  simp only [la51o0, e, bft, if_false, hq, e2, kz]
 | cons r b ih =>
  intro a m k v0 h hs hm hl h0 hk
  obtain ⟨m, rfl⟩ : ∃ m', m = m' + 1 := ⟨m - 1, by omega⟩
  simp only [List.length_cons] at hm hl
  have hz := hs r (List.mem_cons_self ..)
  obtain ⟨x1, x2, x3, x4, x5, x6, x7, x8, x9, rfl, wx6, wx7, tx7⟩ := kqb (h r (List.mem_cons_self ..))
  have hb : ∀ r ∈ b, typL ke r := fun r hr => h r (List.mem_cons_of_mem _ hr)
  have hb2 : ∀ r ∈ b, szdL ke r := fun r hr => hs r (List.mem_cons_of_mem _ hr)
  have sx7 : x7.length ≤ 1048576 ∧ ∀ r ∈ x7, szdL kv r := hz.2.2.2.2.2.2.1
  have lx7 := sx7.1
  have nb := ktc b
  have e6 : k + kmc [.i .i64 x1, .i .i64 x2, .i .i64 x3, .i .i64 x4, .i .i64 x5, .s x6, .l x7, .i .i64 x8, .i .i64 x9] = k + 1 + 1 + 1 + 1 + 1 + 1 + 2 * (x7.length : Int) + 1 + 1 := by simp only [kmc, nthD, asL]; omega
  have e7 : k + kf ([.i .i64 x1, .i .i64 x2, .i .i64 x3, .i .i64 x4, .i .i64 x5, .s x6, .l x7, .i .i64 x8, .i .i64 x9] :: b) = k + 1 + 1 + 1 + 1 + 1 + 1 + 2 * (x7.length : Int) + 1 + 1 + kf b := by rw [kf, ← Int.add_assoc, e6]
  rw [e7] at hk
  have e1 : ∀ r : List D, decide ((a.length : Int) < ((a ++ r :: b).length : Int)) = true := fun r => decide_eq_true (by simp; omega)
  have e0 : decide (0 ≤ (a.length : Int)) = true := decide_eq_true (by omega)
  have eg : ∀ (r : List D), (a ++ r :: b).getD a.length [] = r := fun r => kbe a b r _ rfl
  have p0 : ∀ r : List D, decide (1 ≤ 9 ∧ a.length < (a ++ r :: b).length) = true := fun r => decide_eq_true (by simp)
  have p1 : ∀ r : List D, decide (2 ≤ 9 ∧ a.length < (a ++ r :: b).length) = true := fun r => decide_eq_true (by simp)
  have p2 : ∀ r : List D, decide (3 ≤ 9 ∧ a.length < (a ++ r :: b).length) = true := fun r => decide_eq_true (by simp)
  have p3 : ∀ r : List D, decide (4 ≤ 9 ∧ a.length < (a ++ r :: b).length) = true := fun r => decide_eq_true (by simp)
  have p4 : ∀ r : List D, decide (5 ≤ 9 ∧ a.length < (a ++ r :: b).length) = true := fun r => decide_eq_true (by simp)
  have p5 : ∀ r : List D, decide (6 ≤ 9 ∧ a.length < (a ++ r :: b).length) = true := fun r => decide_eq_true (by simp)
  have p7 : ∀ r : List D, decide (8 ≤ 9 ∧ a.length < (a ++ r :: b).length) = true := fun r => decide_eq_true (by simp)
  have p8 : ∀ r : List D, decide (9 ≤ 9 ∧ a.length < (a ++ r :: b).length) = true := fun r => decide_eq_true (by simp)
  have u0 : w64 (k + 1) = k + 1 := ki _ (by omega)
  have u1 : w64 (k + 1 + 1) = k + 1 + 1 := ki _ (by omega)
  have u2 : w64 (k + 1 + 1 + 1) = k + 1 + 1 + 1 := ki _ (by omega)
  have u3 : w64 (k + 1 + 1 + 1 + 1) = k + 1 + 1 + 1 + 1 := ki _ (by omega)
  have u4 : w64 (k + 1 + 1 + 1 + 1 + 1) = k + 1 + 1 + 1 + 1 + 1 := ki _ (by omega)
  have u5 : w64 (k + 1 + 1 + 1 + 1 + 1 + 1) = k + 1 + 1 + 1 + 1 + 1 + 1 := ki _ (by omega)
  have u7 : w64 (k + 1 + 1 + 1 + 1 + 1 + 1 + 2 * (x7.length : Int) + 1) = k + 1 + 1 + 1 + 1 + 1 + 1 + 2 * (x7.length : Int) + 1 := ki _ (by omega)
  have u8 : w64 (k + 1 + 1 + 1 + 1 + 1 + 1 + 2 * (x7.length : Int) + 1 + 1) = k + 1 + 1 + 1 + 1 + 1 + 1 + 2 * (x7.length : Int) + 1 + 1 := ki _ (by omega)
  have t5 := kbd (k + 1 + 1 + 1 + 1 + 1) (by omega)
  have m6 := kpi x7 (fun r hr => kfd _ r (tx7 r hr)) (by omega) (k + 1 + 1 + 1 + 1 + 1 + 1) (by omega) (by omega)
  have f6 : fstSz 2 x7 = true := kdi (fun r hr => kfd _ r (tx7 r hr))
  have o6 : ∀ z (y : Rw), okR zr87 zo87 (some ([.one (.i .i64 z)], [[.l y]])) = true := fun _ _ => rfl
  have v6 : ∀ z (y : Rw), asL (outC (some ([.one (.i .i64 z)], [[.l y]])) 0 0) = y := fun _ _ => rfl
  have i6 : ∀ z (y : Rw), asI (resC (some ([.one (.i .i64 z)], [[.l y]])) 0 0) = z := fun _ _ => rfl
  have d6 : ∀ c1 c2 c3 c4 c5 c6 c8 c9 : D, asL (nthD [c1, c2, c3, c4, c5, c6, .l x7, c8, c9] 6) = x7 := fun _ _ _ _ _ _ _ _ => rfl
  have h6 : ∀ c1 c2 c3 c4 c5 c6 c8 c9 : D, decide (7 ≤ ([c1, c2, c3, c4, c5, c6, .l x7, c8, c9] : List D).length) = true := fun _ _ _ _ _ _ _ _ => rfl
  have k6 : ∀ c1 c2 c3 c4 c5 c6 c8 c9 : D, isF [.l []] 6 [c1, c2, c3, c4, c5, c6, .l x7, c8, c9] = true := fun _ _ _ _ _ _ _ _ => rfl
  have hw := kc a.length (by omega)
  simp only [la51o0, e1, e0, eg, if_true, itn, p0, p1, p2, p3, p4, p5, p7, p8, u0, u1, u2, u3, u4, u5, u7, u8, t5, kqd, kpd, kzp a b _ rfl, kyp a b _ rfl, kcq a b _ rfl, kaq a b _ rfl, kdq a b _ rfl, kfq a b _ rfl, kxp a b _ rfl, kup a b _ rfl, kvp a b _ rfl, m6, f6, o6, v6, i6, d6, h6, k6, bat, ka, hw]
  have := fun (z0 : SV) => ih (a ++ [kdb k [.i .i64 x1, .i .i64 x2, .i .i64 x3, .i .i64 x4, .i .i64 x5, .s x6, .l x7, .i .i64 x8, .i .i64 x9]]) m (k + 1 + 1 + 1 + 1 + 1 + 1 + 2 * (x7.length : Int) + 1 + 1) z0 hb hb2 (by omega) (by simp; omega) (by omega) (by omega)
  have e3 : (a ++ [kdb k [.i .i64 x1, .i .i64 x2, .i .i64 x3, .i .i64 x4, .i .i64 x5, .s x6, .l x7, .i .i64 x8, .i .i64 x9]]).length = a.length + 1 := by simp
  simp only [e3, List.append_assoc] at this
  have e5 : a ++ kz k ([.i .i64 x1, .i .i64 x2, .i .i64 x3, .i .i64 x4, .i .i64 x5, .s x6, .l x7, .i .i64 x8, .i .i64 x9] :: b) = (a ++ [kdb k [.i .i64 x1, .i .i64 x2, .i .i64 x3, .i .i64 x4, .i .i64 x5, .s x6, .l x7, .i .i64 x8, .i .i64 x9]]) ++ kz (k + 1 + 1 + 1 + 1 + 1 + 1 + 2 * (x7.length : Int) + 1 + 1) b := by rw [kz, e6, List.append_assoc]; rfl
  rw [e7, e5, List.append_assoc]
  exact this _
theorem kuj (l : Rw) (h : ∀ r ∈ l, typL ke r) (hs : ∀ r ∈ l, szdL ke r) (hl : l.length ≤ 4000000) (k : Int) (h0 : 0 ≤ k) (hk : k + kf l ≤ 4000000000000000000) : t51 l k = some ([.one (.i .i64 (k + kf l))], [[.l (kz k l)]]) := by
 unfold t51 ta51
 exact kgi _ _ (fun _ _ _ _ => rfl) l [] KK k _ h hs (by rw [kj]; omega) (by simpa using hl) h0 hk
theorem gz0 : ∀ z, okR zr88 zo88 (some ([.one (.i .i64 z)], [])) = true := fun _ => id rfl
theorem gz1 : ∀ z, asI (resC (some ([.one (.i .i64 z)], [])) 0 0) = z := fun _ => id rfl
theorem kbi (n9 : Int) (q1 : Int → Int → Bool → Bool → SV → SV → SV → SV → SV → SV → SV → SV → Rs) (q2 : Int → Int → Bool → Bool → Bool → SV → SV → SV → SV → SV → SV → SV → Rs) (q3 : Int → Int → Bool → Bool → Bool → Bool → SV → SV → SV → SV → SV → SV → Rs) (q4 : Int → Int → Bool → Bool → Bool → Bool → Bool → SV → SV → SV → SV → SV → Rs) (q5 : Int → Int → Bool → Bool → Bool → Bool → Bool → Bool → SV → SV → SV → SV → Rs) (q6 : Int → Int → Bool → Bool → Bool → Bool → Bool → Bool → Bool → SV → SV → SV → Rs) (q7 : Int → Int → Bool → Bool → Bool → Bool → Bool → Bool → Bool → Bool → SV → SV → Rs) (q8 : Int → Int → Bool → Bool → Bool → Bool → Bool → Bool → Bool → Bool → Bool → SV → Rs) (q9 : Int → Int → Bool → Bool → Bool → Bool → Bool → Bool → Bool → Bool → Bool → Bool → Rs) (q10 : Int → Int → Bool → SV → SV → SV → SV → SV → SV → SV → SV → SV → Rs) (hq : ∀ z0 z1 z2 z3 z4 z5 z6 z7 z8 z9 z10 z11, q10 z0 z1 z2 z3 z4 z5 z6 z7 z8 z9 z10 z11 = some ([.one (.i .i64 z0)], [])) : ∀ (b a : Rw) (m : Nat) (k : Int) (v0 v1 v2 v3 v4 v5 v6 v7 v8 v9 : SV) (L : Rw) (i : Int), (∀ r ∈ b, typL ke r) → (∀ r ∈ b, szdL ke r) → L = a ++ kz k b → i = (a.length : Int) → b.length < m → a.length + b.length ≤ 4000000 → 0 ≤ k → k + kf b ≤ 4000000000000000000 →
  la52o0 t86 t88 L n9 q1 q2 q3 q4 q5 q6 q7 q8 q9 q10 m k i v0 v1 v2 v3 v4 v5 v6 v7 v8 v9 = some ([.one (.i .i64 (k + kf b))], []) := by
 intro b
 induction b with
 | nil =>
  intro a m k v0 v1 v2 v3 v4 v5 v6 v7 v8 v9 L i h hs hL hi hm hl h0 hk
  subst hL hi
  obtain ⟨m, rfl⟩ : ∃ m', m = m' + 1 := ⟨m - 1, by omega⟩
  have e : decide ((a.length : Int) < ((a ++ ([] : Rw)).length : Int)) = false := by simp
  have e2 : k + kf [] = k := by simp [kf]
  rw [show kz k [] = [] from rfl]
  simp only [la52o0, e, bft, if_false, hq, e2]
 | cons r b ih =>
  intro a m k v0 v1 v2 v3 v4 v5 v6 v7 v8 v9 L i h hs hL hi hm hl h0 hk
  subst hL hi
  obtain ⟨m, rfl⟩ : ∃ m', m = m' + 1 := ⟨m - 1, by omega⟩
  simp only [List.length_cons] at hm hl
  have hz := hs r (List.mem_cons_self ..)
  obtain ⟨x1, x2, x3, x4, x5, x6, x7, x8, x9, rfl, wx6, wx7, tx7⟩ := kqb (h r (List.mem_cons_self ..))
  have hb : ∀ r ∈ b, typL ke r := fun r hr => h r (List.mem_cons_of_mem _ hr)
  have hb2 : ∀ r ∈ b, szdL ke r := fun r hr => hs r (List.mem_cons_of_mem _ hr)
  have sx7 : x7.length ≤ 1048576 ∧ ∀ r ∈ x7, szdL kv r := hz.2.2.2.2.2.2.1
  have lx7 := sx7.1
  have nb := ktc b
  have e6 : k + kmc [.i .i64 x1, .i .i64 x2, .i .i64 x3, .i .i64 x4, .i .i64 x5, .s x6, .l x7, .i .i64 x8, .i .i64 x9] = k + 1 + 1 + 1 + 1 + 1 + 1 + 2 * (x7.length : Int) + 1 + 1 := by simp only [kmc, nthD, asL]; omega
  have e7 : k + kf ([.i .i64 x1, .i .i64 x2, .i .i64 x3, .i .i64 x4, .i .i64 x5, .s x6, .l x7, .i .i64 x8, .i .i64 x9] :: b) = k + 1 + 1 + 1 + 1 + 1 + 1 + 2 * (x7.length : Int) + 1 + 1 + kf b := by rw [kf, ← Int.add_assoc, e6]
  rw [e7] at hk
  have e1 : ∀ (r : List D) (b : Rw), decide ((a.length : Int) < ((a ++ r :: b).length : Int)) = true := fun r b => decide_eq_true (by simp; omega)
  have e0 : decide (0 ≤ (a.length : Int)) = true := decide_eq_true (by omega)
  have eg : ∀ (r : List D) (b : Rw), (a ++ r :: b).getD a.length [] = r := fun r b => kbe a b r _ rfl
  have u0 : w64 (k + 1) = k + 1 := ki _ (by omega)
  have u1 : w64 (k + 1 + 1) = k + 1 + 1 := ki _ (by omega)
  have u2 : w64 (k + 1 + 1 + 1) = k + 1 + 1 + 1 := ki _ (by omega)
  have u3 : w64 (k + 1 + 1 + 1 + 1) = k + 1 + 1 + 1 + 1 := ki _ (by omega)
  have u4 : w64 (k + 1 + 1 + 1 + 1 + 1) = k + 1 + 1 + 1 + 1 + 1 := ki _ (by omega)
  have u5 : w64 (k + 1 + 1 + 1 + 1 + 1 + 1) = k + 1 + 1 + 1 + 1 + 1 + 1 := ki _ (by omega)
  have u7 : w64 (k + 1 + 1 + 1 + 1 + 1 + 1 + 2 * (x7.length : Int) + 1) = k + 1 + 1 + 1 + 1 + 1 + 1 + 2 * (x7.length : Int) + 1 := ki _ (by omega)
  have u8 : w64 (k + 1 + 1 + 1 + 1 + 1 + 1 + 2 * (x7.length : Int) + 1 + 1) = k + 1 + 1 + 1 + 1 + 1 + 1 + 2 * (x7.length : Int) + 1 + 1 := ki _ (by omega)
  have t5 := kbd (k + 1 + 1 + 1 + 1 + 1) (by omega)
  have m6 := kui x7 (by omega) (k + 1 + 1 + 1 + 1 + 1 + 1) (by omega) (by omega)
  have n6 : decide (k + 1 + 1 + 1 + 1 + 1 + 1 + 2 * (x7.length : Int) < 0) = false := decide_eq_false (by omega)
  have hw := kc a.length (by omega)
  have this := fun (z0 : SV) (z1 : SV) (z2 : SV) (z3 : SV) (z4 : SV) (z5 : SV) (z6 : SV) (z7 : SV) (z8 : SV) (z9 : SV) => ih (a ++ [kdb k [.i .i64 x1, .i .i64 x2, .i .i64 x3, .i .i64 x4, .i .i64 x5, .s x6, .l x7, .i .i64 x8, .i .i64 x9]]) m (k + 1 + 1 + 1 + 1 + 1 + 1 + 2 * (x7.length : Int) + 1 + 1) z0 z1 z2 z3 z4 z5 z6 z7 z8 z9 _ _ hb hb2 rfl rfl (by omega) (by simp; omega) (by omega) (by omega)
  have e3 : (a ++ [kdb k [.i .i64 x1, .i .i64 x2, .i .i64 x3, .i .i64 x4, .i .i64 x5, .s x6, .l x7, .i .i64 x8, .i .i64 x9]]).length = a.length + 1 := by simp
  simp only [e3, List.append_assoc] at this
  have e5 : a ++ kz k ([.i .i64 x1, .i .i64 x2, .i .i64 x3, .i .i64 x4, .i .i64 x5, .s x6, .l x7, .i .i64 x8, .i .i64 x9] :: b) = a ++ kdb k [.i .i64 x1, .i .i64 x2, .i .i64 x3, .i .i64 x4, .i .i64 x5, .s x6, .l x7, .i .i64 x8, .i .i64 x9] :: kz (k + 1 + 1 + 1 + 1 + 1 + 1 + 2 * (x7.length : Int) + 1 + 1) b := by rw [kz, e6]
  rw [e5]
  have ez : isRow z64 (kdb k [.i .i64 x1, .i .i64 x2, .i .i64 x3, .i .i64 x4, .i .i64 x5, .s x6, .l x7, .i .i64 x8, .i .i64 x9]) = true := rfl
  have d0 : asI (nthD (kdb k [.i .i64 x1, .i .i64 x2, .i .i64 x3, .i .i64 x4, .i .i64 x5, .s x6, .l x7, .i .i64 x8, .i .i64 x9]) 0) = (k) := rfl
  have d1 : asI (nthD (kdb k [.i .i64 x1, .i .i64 x2, .i .i64 x3, .i .i64 x4, .i .i64 x5, .s x6, .l x7, .i .i64 x8, .i .i64 x9]) 1) = (k + 1) := rfl
  have d2 : asI (nthD (kdb k [.i .i64 x1, .i .i64 x2, .i .i64 x3, .i .i64 x4, .i .i64 x5, .s x6, .l x7, .i .i64 x8, .i .i64 x9]) 2) = (k + 1 + 1) := rfl
  have d3 : asI (nthD (kdb k [.i .i64 x1, .i .i64 x2, .i .i64 x3, .i .i64 x4, .i .i64 x5, .s x6, .l x7, .i .i64 x8, .i .i64 x9]) 3) = (k + 1 + 1 + 1) := rfl
  have d4 : asI (nthD (kdb k [.i .i64 x1, .i .i64 x2, .i .i64 x3, .i .i64 x4, .i .i64 x5, .s x6, .l x7, .i .i64 x8, .i .i64 x9]) 4) = (k + 1 + 1 + 1 + 1) := rfl
  have d5 : asS (nthD (kdb k [.i .i64 x1, .i .i64 x2, .i .i64 x3, .i .i64 x4, .i .i64 x5, .s x6, .l x7, .i .i64 x8, .i .i64 x9]) 5) = (mkT (k + 1 + 1 + 1 + 1 + 1)) := rfl
  have d6 : asL (nthD (kdb k [.i .i64 x1, .i .i64 x2, .i .i64 x3, .i .i64 x4, .i .i64 x5, .s x6, .l x7, .i .i64 x8, .i .i64 x9]) 6) = (ky (k + 1 + 1 + 1 + 1 + 1 + 1) x7) := rfl
  have d7 : asI (nthD (kdb k [.i .i64 x1, .i .i64 x2, .i .i64 x3, .i .i64 x4, .i .i64 x5, .s x6, .l x7, .i .i64 x8, .i .i64 x9]) 7) = (k + 1 + 1 + 1 + 1 + 1 + 1 + 2 * (x7.length : Int)) := rfl
  have d8 : asI (nthD (kdb k [.i .i64 x1, .i .i64 x2, .i .i64 x3, .i .i64 x4, .i .i64 x5, .s x6, .l x7, .i .i64 x8, .i .i64 x9]) 8) = (k + 1 + 1 + 1 + 1 + 1 + 1 + 2 * (x7.length : Int) + 1) := rfl
  simp only [la52o0, e1, e0, if_true, itn, eg, ez, d0, d1, d2, d3, d4, d5, d6, d7, d8, u0, u1, u2, u3, u4, u5, u7, u8, t5, kqd, kpd, m6, gz0, gz1, n6, bne_self_eq_false, beq_self_eq_true, bnt, bft, if_false, bat, ka, hw]
  rw [e7]
  exact this _ _ _ _ _ _ _ _ _ _
theorem ktj (l : Rw) (h : ∀ r ∈ l, typL ke r) (hs : ∀ r ∈ l, szdL ke r) (hl : l.length ≤ 4000000) (k : Int) (h0 : 0 ≤ k) (hk : k + kf l ≤ 4000000000000000000) : t52 (kz k l) k = some ([.one (.i .i64 (k + kf l))], []) := by
 unfold t52 ta52
 exact kbi _ _ _ _ _ _ _ _ _ _ _ (fun _ _ _ _ _ _ _ _ _ _ _ _ => rfl) l [] KK k _ _ _ _ _ _ _ _ _ _ _ _ h hs rfl rfl (by rw [kj]; omega) (by simpa using hl) h0 hk
theorem ktm (a b : Rw) (i : Nat) (h : i = a.length) (c1 c2 c3 c4 c5 d : D) : stR (a ++ [c1, c2, c3, c4, c5] :: b) i 0 [d] = a ++ [d, c2, c3, c4, c5] :: b := kyb a b _ _ i 0 h
theorem kym (a b : Rw) (i : Nat) (h : i = a.length) (c1 c2 c3 c4 c5 d : D) : stR (a ++ [c1, c2, c3, c4, c5] :: b) i 1 [d] = a ++ [c1, d, c3, c4, c5] :: b := kyb a b _ _ i 1 h
theorem kvm (a b : Rw) (i : Nat) (h : i = a.length) (c1 c2 c3 c4 c5 d : D) : stR (a ++ [c1, c2, c3, c4, c5] :: b) i 2 [d] = a ++ [c1, c2, d, c4, c5] :: b := kyb a b _ _ i 2 h
theorem kfn (a b : Rw) (i : Nat) (h : i = a.length) (c1 c2 c3 c4 c5 d : D) : stR (a ++ [c1, c2, c3, c4, c5] :: b) i 3 [d] = a ++ [c1, c2, c3, d, c5] :: b := kyb a b _ _ i 3 h
theorem kpm (a b : Rw) (i : Nat) (h : i = a.length) (c1 c2 c3 c4 c5 d : D) : stR (a ++ [c1, c2, c3, c4, c5] :: b) i 4 [d] = a ++ [c1, c2, c3, c4, d] :: b := kyb a b _ _ i 4 h
theorem len5 {r : List D} (h : r.length = 5) : ∃ c1 c2 c3 c4 c5, r = [c1, c2, c3, c4, c5] := by
 match r, h with
 | [c1, c2, c3, c4, c5], _ => exact ⟨c1, c2, c3, c4, c5, rfl⟩
noncomputable def ktb (k : Int) : List D := [.i .i64 (k), .i .i64 (k + 1), .i .i64 (k + 1 + 1), .i .i64 (k + 1 + 1 + 1), .i .i64 (k + 1 + 1 + 1 + 1)]
noncomputable def khb : Int → Rw → Rw
 | _, [] => []
 | k, _ :: b => ktb k :: khb (k + 1 + 1 + 1 + 1 + 1) b
theorem kzi (n8 : Int) (q : Int → Int → Bool → Rw → Rs) (hq : ∀ a b c d, q a b c d = some ([.one (.i .i64 a)], [[.l d]])) : ∀ (b a : Rw) (m : Nat) (k : Int) (v0 : SV), (∀ r ∈ b, r.length = 5) → b.length < m → a.length + b.length ≤ 4000000 → 0 ≤ k → k + 5 * (b.length : Int) ≤ 4000000000000000000 →
  l46o0 n8 q m k (a.length : Int) v0 (a ++ b) = some ([.one (.i .i64 (k + 5 * (b.length : Int)))], [[.l (a ++ khb k b)]]) := by
 intro b
 induction b with
 | nil =>
  intro a m k v0 h hm hl h0 hk
  obtain ⟨m, rfl⟩ : ∃ m', m = m' + 1 := ⟨m - 1, by omega⟩
  have e : decide ((a.length : Int) < ((a ++ ([] : Rw)).length : Int)) = false := by simp
  have e2 : k + 5 * ((([] : Rw).length : Nat) : Int) = k := by simp
  simp only [l46o0, e, bft, if_false, hq, e2, khb]
 | cons r b ih =>
  intro a m k v0 h hm hl h0 hk
  obtain ⟨m, rfl⟩ : ∃ m', m = m' + 1 := ⟨m - 1, by omega⟩
  simp only [List.length_cons] at hm hl hk
  obtain ⟨c1, c2, c3, c4, c5, rfl⟩ := len5 (h r (List.mem_cons_self ..))
  have hb : ∀ r ∈ b, r.length = 5 := fun r hr => h r (List.mem_cons_of_mem _ hr)
  have e1 : ∀ r : List D, decide ((a.length : Int) < ((a ++ r :: b).length : Int)) = true := fun r => decide_eq_true (by simp; omega)
  have e0 : decide (0 ≤ (a.length : Int)) = true := decide_eq_true (by omega)
  have p1 : ∀ r : List D, decide (1 ≤ 5 ∧ a.length < (a ++ r :: b).length) = true := fun r => decide_eq_true (by simp)
  have p2 : ∀ r : List D, decide (2 ≤ 5 ∧ a.length < (a ++ r :: b).length) = true := fun r => decide_eq_true (by simp)
  have p3 : ∀ r : List D, decide (3 ≤ 5 ∧ a.length < (a ++ r :: b).length) = true := fun r => decide_eq_true (by simp)
  have p4 : ∀ r : List D, decide (4 ≤ 5 ∧ a.length < (a ++ r :: b).length) = true := fun r => decide_eq_true (by simp)
  have p5 : ∀ r : List D, decide (5 ≤ 5 ∧ a.length < (a ++ r :: b).length) = true := fun r => decide_eq_true (by simp)
  have u1 : w64 (k + 1) = k + 1 := ki _ (by omega)
  have u2 : w64 (k + 1 + 1) = k + 1 + 1 := ki _ (by omega)
  have u3 : w64 (k + 1 + 1 + 1) = k + 1 + 1 + 1 := ki _ (by omega)
  have u4 : w64 (k + 1 + 1 + 1 + 1) = k + 1 + 1 + 1 + 1 := ki _ (by omega)
  have u5 : w64 (k + 1 + 1 + 1 + 1 + 1) = k + 1 + 1 + 1 + 1 + 1 := ki _ (by omega)
  have hw := kc a.length (by omega)
  simp only [l46o0, e1, e0, if_true, itn, p1, p2, p3, p4, p5, u1, u2, u3, u4, u5, ktm a b _ rfl, kym a b _ rfl, kvm a b _ rfl, kfn a b _ rfl, kpm a b _ rfl, bat, ka, hw]
  have := fun (z0 : SV) => ih (a ++ [ktb k]) m (k + 1 + 1 + 1 + 1 + 1) z0 hb (by omega) (by simp; omega) (by omega) (by omega)
  have e3 : (a ++ [ktb k]).length = a.length + 1 := by simp
  simp only [e3, List.append_assoc] at this
  have e4 : k + 5 * ((([c1, c2, c3, c4, c5] :: b).length : Nat) : Int) = k + 1 + 1 + 1 + 1 + 1 + 5 * (b.length : Int) := by simp only [List.length_cons]; omega
  have e5 : a ++ khb k ([c1, c2, c3, c4, c5] :: b) = (a ++ [ktb k]) ++ khb (k + 1 + 1 + 1 + 1 + 1) b := by simp [khb]
  rw [e4, e5, List.append_assoc]
  exact this _
theorem ksk (l : Rw) (h : ∀ r ∈ l, r.length = 5) (hl : l.length ≤ 4000000) (k : Int) (h0 : 0 ≤ k) (hk : k + 5 * (l.length : Int) ≤ 4000000000000000000) : t46 l k = some ([.one (.i .i64 (k + 5 * (l.length : Int)))], [[.l (khb k l)]]) := by
 unfold t46
 exact kzi _ _ (fun _ _ _ _ => rfl) l [] KK k _ h (by rw [kj]; omega) (by simpa using hl) h0 hk
theorem kvi (n9 : Int) (q1 : Int → Int → Bool → Bool → SV → SV → SV → SV → Rs) (q2 : Int → Int → Bool → Bool → Bool → SV → SV → SV → Rs) (q3 : Int → Int → Bool → Bool → Bool → Bool → SV → SV → Rs) (q4 : Int → Int → Bool → Bool → Bool → Bool → Bool → SV → Rs) (q5 : Int → Int → Bool → Bool → Bool → Bool → Bool → Bool → Rs) (q6 : Int → Int → Bool → SV → SV → SV → SV → SV → Rs) (hq : ∀ x0 x1 x2 x3 x4 x5 x6 x7, q6 x0 x1 x2 x3 x4 x5 x6 x7 = some ([.one (.i .i64 x0)], [])) : ∀ (b a : Rw) (m : Nat) (k : Int) (v0 v1 v2 v3 v4 v5 : SV) (L : Rw) (i : Int), L = a ++ khb k b → i = (a.length : Int) → b.length < m → a.length + b.length ≤ 4000000 → 0 ≤ k → k + 5 * (b.length : Int) ≤ 4000000000000000000 →
  l49o0 L n9 q1 q2 q3 q4 q5 q6 m k i v0 v1 v2 v3 v4 v5 = some ([.one (.i .i64 (k + 5 * (b.length : Int)))], []) := by
 intro b
 induction b with
 | nil =>
  intro a m k v0 v1 v2 v3 v4 v5 L i hL hi hm hl h0 hk
  subst hL hi
  obtain ⟨m, rfl⟩ : ∃ m', m = m' + 1 := ⟨m - 1, by omega⟩
  have e : decide ((a.length : Int) < ((a ++ ([] : Rw)).length : Int)) = false := by simp
  have e2 : k + 5 * ((([] : Rw).length : Nat) : Int) = k := by simp
  rw [show khb k [] = [] from rfl]
  simp only [l49o0, e, bft, if_false, hq, e2]
 | cons r b ih =>
  intro a m k v0 v1 v2 v3 v4 v5 L i hL hi hm hl h0 hk
  subst hL hi
  obtain ⟨m, rfl⟩ : ∃ m', m = m' + 1 := ⟨m - 1, by omega⟩
  simp only [List.length_cons] at hm hl hk
  have e1 : ∀ (r : List D) (b : Rw), decide ((a.length : Int) < ((a ++ r :: b).length : Int)) = true := fun r b => decide_eq_true (by simp; omega)
  have e0 : decide (0 ≤ (a.length : Int)) = true := decide_eq_true (by omega)
  have eg : ∀ (r : List D) (b : Rw), (a ++ r :: b).getD a.length [] = r := fun r b => kbe a b r _ rfl
  have u1 : w64 (k + 1) = k + 1 := ki _ (by omega)
  have u2 : w64 (k + 1 + 1) = k + 1 + 1 := ki _ (by omega)
  have u3 : w64 (k + 1 + 1 + 1) = k + 1 + 1 + 1 := ki _ (by omega)
  have u4 : w64 (k + 1 + 1 + 1 + 1) = k + 1 + 1 + 1 + 1 := ki _ (by omega)
  have u5 : w64 (k + 1 + 1 + 1 + 1 + 1) = k + 1 + 1 + 1 + 1 + 1 := ki _ (by omega)
  have hw := kc a.length (by omega)
  have this := fun (z0 : SV) (z1 : SV) (z2 : SV) (z3 : SV) (z4 : SV) (z5 : SV) => ih (a ++ [ktb k]) m (k + 1 + 1 + 1 + 1 + 1) z0 z1 z2 z3 z4 z5 _ _ rfl rfl (by omega) (by simp; omega) (by omega) (by omega)
  have e3 : (a ++ [ktb k]).length = a.length + 1 := by simp
  simp only [e3, List.append_assoc] at this
  have e4 : k + 5 * (((r :: b).length : Nat) : Int) = k + 1 + 1 + 1 + 1 + 1 + 5 * (b.length : Int) := by simp only [List.length_cons]; omega
  have e5 : a ++ khb k (r :: b) = a ++ ktb k :: khb (k + 1 + 1 + 1 + 1 + 1) b := rfl
  rw [e5]
  have ez : isRow z90 (ktb k) = true := rfl
  have d0 : asI (nthD (ktb k) 0) = k := rfl
  have d1 : asI (nthD (ktb k) 1) = k + 1 := rfl
  have d2 : asI (nthD (ktb k) 2) = k + 1 + 1 := rfl
  have d3 : asI (nthD (ktb k) 3) = k + 1 + 1 + 1 := rfl
  have d4 : asI (nthD (ktb k) 4) = k + 1 + 1 + 1 + 1 := rfl
  simp only [l49o0, e1, e0, if_true, itn, eg, ez, d0, d1, d2, d3, d4, u1, u2, u3, u4, u5, bne_self_eq_false, beq_self_eq_true, bnt, bft, if_false, bat, ka, hw]
  rw [e4]
  exact this _ _ _ _ _ _
theorem kyk (l : Rw) (hl : l.length ≤ 4000000) (k : Int) (h0 : 0 ≤ k) (hk : k + 5 * (l.length : Int) ≤ 4000000000000000000) : t49 (khb k l) k = some ([.one (.i .i64 (k + 5 * (l.length : Int)))], []) := by
 unfold t49
 exact kvi _ _ _ _ _ _ _ (fun _ _ _ _ _ _ _ _ => rfl) l [] KK k _ _ _ _ _ _ _ _ rfl rfl (by rw [kj]; omega) (by simpa using hl) h0 hk
noncomputable def kfb (k : Int) : List D := [.i .i64 (k), .i .i64 (k + 1), .i .i64 (k + 1 + 1), .i .i64 (k + 1 + 1 + 1), .s (mkT (k + 1 + 1 + 1 + 1))]
noncomputable def kw : Int → Rw → Rw
 | _, [] => []
 | k, _ :: b => kfb k :: kw (k + 1 + 1 + 1 + 1 + 1) b
theorem kch (n8 : Int) (q : Int → Int → Bool → Rw → Rs) (hq : ∀ a b c d, q a b c d = some ([.one (.i .i64 a)], [[.l d]])) : ∀ (b a : Rw) (m : Nat) (k : Int) (v0 : SV), (∀ r ∈ b, r.length = 5) → b.length < m → a.length + b.length ≤ 4000000 → 0 ≤ k → k + 5 * (b.length : Int) ≤ 4000000000000000000 →
  la47o0 t86 n8 q m k (a.length : Int) v0 (a ++ b) = some ([.one (.i .i64 (k + 5 * (b.length : Int)))], [[.l (a ++ kw k b)]]) := by
 intro b
 induction b with
 | nil =>
  intro a m k v0 h hm hl h0 hk
  obtain ⟨m, rfl⟩ : ∃ m', m = m' + 1 := ⟨m - 1, by omega⟩
  have e : decide ((a.length : Int) < ((a ++ ([] : Rw)).length : Int)) = false := by simp
  have e2 : k + 5 * ((([] : Rw).length : Nat) : Int) = k := by simp
  simp only [la47o0, e, bft, if_false, hq, e2, kw]
 | cons r b ih =>
  intro a m k v0 h hm hl h0 hk
  obtain ⟨m, rfl⟩ : ∃ m', m = m' + 1 := ⟨m - 1, by omega⟩
  simp only [List.length_cons] at hm hl hk
  obtain ⟨c1, c2, c3, c4, c5, rfl⟩ := len5 (h r (List.mem_cons_self ..))
  have hb : ∀ r ∈ b, r.length = 5 := fun r hr => h r (List.mem_cons_of_mem _ hr)
  have e1 : ∀ r : List D, decide ((a.length : Int) < ((a ++ r :: b).length : Int)) = true := fun r => decide_eq_true (by simp; omega)
  have e0 : decide (0 ≤ (a.length : Int)) = true := decide_eq_true (by omega)
  have p1 : ∀ r : List D, decide (1 ≤ 5 ∧ a.length < (a ++ r :: b).length) = true := fun r => decide_eq_true (by simp)
  have p2 : ∀ r : List D, decide (2 ≤ 5 ∧ a.length < (a ++ r :: b).length) = true := fun r => decide_eq_true (by simp)
  have p3 : ∀ r : List D, decide (3 ≤ 5 ∧ a.length < (a ++ r :: b).length) = true := fun r => decide_eq_true (by simp)
  have p4 : ∀ r : List D, decide (4 ≤ 5 ∧ a.length < (a ++ r :: b).length) = true := fun r => decide_eq_true (by simp)
  have p5 : ∀ r : List D, decide (5 ≤ 5 ∧ a.length < (a ++ r :: b).length) = true := fun r => decide_eq_true (by simp)
  have u1 : w64 (k + 1) = k + 1 := ki _ (by omega)
  have u2 : w64 (k + 1 + 1) = k + 1 + 1 := ki _ (by omega)
  have u3 : w64 (k + 1 + 1 + 1) = k + 1 + 1 + 1 := ki _ (by omega)
  have u4 : w64 (k + 1 + 1 + 1 + 1) = k + 1 + 1 + 1 + 1 := ki _ (by omega)
  have u5 : w64 (k + 1 + 1 + 1 + 1 + 1) = k + 1 + 1 + 1 + 1 + 1 := ki _ (by omega)
  have t4 := kbd (k + 1 + 1 + 1 + 1) (by omega)
  have hw := kc a.length (by omega)
  simp only [la47o0, e1, e0, if_true, itn, p1, p2, p3, p4, p5, u1, u2, u3, u4, u5, t4, kqd, kpd, ktm a b _ rfl, kym a b _ rfl, kvm a b _ rfl, kfn a b _ rfl, kpm a b _ rfl, bat, ka, hw]
  have := fun (z0 : SV) => ih (a ++ [kfb k]) m (k + 1 + 1 + 1 + 1 + 1) z0 hb (by omega) (by simp; omega) (by omega) (by omega)
  have e3 : (a ++ [kfb k]).length = a.length + 1 := by simp
  simp only [e3, List.append_assoc] at this
  have e4 : k + 5 * ((([c1, c2, c3, c4, c5] :: b).length : Nat) : Int) = k + 1 + 1 + 1 + 1 + 1 + 5 * (b.length : Int) := by simp only [List.length_cons]; omega
  have e5 : a ++ kw k ([c1, c2, c3, c4, c5] :: b) = (a ++ [kfb k]) ++ kw (k + 1 + 1 + 1 + 1 + 1) b := by simp [kw]
  rw [e4, e5, List.append_assoc]
  exact this _
theorem khi (l : Rw) (h : ∀ r ∈ l, r.length = 5) (hl : l.length ≤ 4000000) (k : Int) (h0 : 0 ≤ k) (hk : k + 5 * (l.length : Int) ≤ 4000000000000000000) : t47 l k = some ([.one (.i .i64 (k + 5 * (l.length : Int)))], [[.l (kw k l)]]) := by
 unfold t47 ta47
 exact kch _ _ (fun _ _ _ _ => rfl) l [] KK k _ h (by rw [kj]; omega) (by simpa using hl) h0 hk
theorem kbh (n9 : Int) (q1 : Int → Int → Bool → Bool → SV → SV → SV → SV → Rs) (q2 : Int → Int → Bool → Bool → Bool → SV → SV → SV → Rs) (q3 : Int → Int → Bool → Bool → Bool → Bool → SV → SV → Rs) (q4 : Int → Int → Bool → Bool → Bool → Bool → Bool → SV → Rs) (q5 : Int → Int → Bool → Bool → Bool → Bool → Bool → Bool → Rs) (q6 : Int → Int → Bool → SV → SV → SV → SV → SV → Rs) (hq : ∀ x0 x1 x2 x3 x4 x5 x6 x7, q6 x0 x1 x2 x3 x4 x5 x6 x7 = some ([.one (.i .i64 x0)], [])) : ∀ (b a : Rw) (m : Nat) (k : Int) (v0 v1 v2 v3 v4 v5 : SV) (L : Rw) (i : Int), L = a ++ kw k b → i = (a.length : Int) → b.length < m → a.length + b.length ≤ 4000000 → 0 ≤ k → k + 5 * (b.length : Int) ≤ 4000000000000000000 →
  la50o0 t86 L n9 q1 q2 q3 q4 q5 q6 m k i v0 v1 v2 v3 v4 v5 = some ([.one (.i .i64 (k + 5 * (b.length : Int)))], []) := by
 intro b
 induction b with
 | nil =>
  intro a m k v0 v1 v2 v3 v4 v5 L i hL hi hm hl h0 hk
  subst hL hi
  obtain ⟨m, rfl⟩ : ∃ m', m = m' + 1 := ⟨m - 1, by omega⟩
  have e : decide ((a.length : Int) < ((a ++ ([] : Rw)).length : Int)) = false := by simp
  have e2 : k + 5 * ((([] : Rw).length : Nat) : Int) = k := by simp
  rw [show kw k [] = [] from rfl]
  simp only [la50o0, e, bft, if_false, hq, e2]
 | cons r b ih =>
  intro a m k v0 v1 v2 v3 v4 v5 L i hL hi hm hl h0 hk
  subst hL hi
  obtain ⟨m, rfl⟩ : ∃ m', m = m' + 1 := ⟨m - 1, by omega⟩
  simp only [List.length_cons] at hm hl hk
  have e1 : ∀ (r : List D) (b : Rw), decide ((a.length : Int) < ((a ++ r :: b).length : Int)) = true := fun r b => decide_eq_true (by simp; omega)
  have e0 : decide (0 ≤ (a.length : Int)) = true := decide_eq_true (by omega)
  have eg : ∀ (r : List D) (b : Rw), (a ++ r :: b).getD a.length [] = r := fun r b => kbe a b r _ rfl
  have u1 : w64 (k + 1) = k + 1 := ki _ (by omega)
  have u2 : w64 (k + 1 + 1) = k + 1 + 1 := ki _ (by omega)
  have u3 : w64 (k + 1 + 1 + 1) = k + 1 + 1 + 1 := ki _ (by omega)
  have u4 : w64 (k + 1 + 1 + 1 + 1) = k + 1 + 1 + 1 + 1 := ki _ (by omega)
  have u5 : w64 (k + 1 + 1 + 1 + 1 + 1) = k + 1 + 1 + 1 + 1 + 1 := ki _ (by omega)
  have t4 := kbd (k + 1 + 1 + 1 + 1) (by omega)
  have hw := kc a.length (by omega)
  have this := fun (z0 : SV) (z1 : SV) (z2 : SV) (z3 : SV) (z4 : SV) (z5 : SV) => ih (a ++ [kfb k]) m (k + 1 + 1 + 1 + 1 + 1) z0 z1 z2 z3 z4 z5 _ _ rfl rfl (by omega) (by simp; omega) (by omega) (by omega)
  have e3 : (a ++ [kfb k]).length = a.length + 1 := by simp
  simp only [e3, List.append_assoc] at this
  have e4 : k + 5 * (((r :: b).length : Nat) : Int) = k + 1 + 1 + 1 + 1 + 1 + 5 * (b.length : Int) := by simp only [List.length_cons]; omega
  have e5 : a ++ kw k (r :: b) = a ++ kfb k :: kw (k + 1 + 1 + 1 + 1 + 1) b := rfl
  rw [e5]
  have ez : isRow z81 (kfb k) = true := rfl
  have d0 : asI (nthD (kfb k) 0) = k := rfl
  have d1 : asI (nthD (kfb k) 1) = k + 1 := rfl
  have d2 : asI (nthD (kfb k) 2) = k + 1 + 1 := rfl
  have d3 : asI (nthD (kfb k) 3) = k + 1 + 1 + 1 := rfl
  have d4 : asS (nthD (kfb k) 4) = mkT (k + 1 + 1 + 1 + 1) := rfl
  simp only [la50o0, e1, e0, if_true, itn, eg, ez, d0, d1, d2, d3, d4, u1, u2, u3, u4, u5, t4, kqd, kpd, bne_self_eq_false, beq_self_eq_true, bnt, bft, if_false, bat, ka, hw]
  rw [e4]
  exact this _ _ _ _ _ _
theorem kwh (l : Rw) (hl : l.length ≤ 4000000) (k : Int) (h0 : 0 ≤ k) (hk : k + 5 * (l.length : Int) ≤ 4000000000000000000) : t50 (kw k l) k = some ([.one (.i .i64 (k + 5 * (l.length : Int)))], []) := by
 unfold t50 ta50
 exact kbh _ _ _ _ _ _ _ (fun _ _ _ _ _ _ _ _ => rfl) l [] KK k _ _ _ _ _ _ _ _ rfl rfl (by rw [kj]; omega) (by simpa using hl) h0 hk
noncomputable def kkb (k : Int) (r : List D) : List D := [.i .i64 (k), .l (kz (k + 1) (asL (nthD r 1))), .i .i64 (k + 1 + kf ((asL (nthD r 1)))), .l (khb (k + 1 + kf ((asL (nthD r 1))) + 1) (asL (nthD r 3))), .l (kw (k + 1 + kf ((asL (nthD r 1))) + 1 + 5 * (((asL (nthD r 3))).length : Int)) (asL (nthD r 4)))]
def kfc (r : List D) : Int := 2 + kf ((asL (nthD r 1))) + 5 * (((asL (nthD r 3))).length : Int) + 5 * (((asL (nthD r 4))).length : Int)
noncomputable def kcb : Int → Rw → Rw
 | _, [] => []
 | k, r :: b => kkb k r :: kcb (k + kfc r) b
def kn : Rw → Int
 | [] => 0
 | r :: b => kfc r + kn b
theorem kyd : ∀ (b : Rw), 0 ≤ kn b
 | [] => by simp [kn]
 | r :: b => by
  have h := kyd b
  have q1 := ktc (asL (nthD r 1))
  simp only [kn, kfc]
  omega
theorem kag : ∀ (b : Rw), (∀ r ∈ b, typL km r) → (∀ r ∈ b, szdL km r) → kn b ≤ 2199042129922 * (b.length : Int)
 | [], _, _ => by simp [kn]
 | r :: b, h, hs => by
  have ih := kag b (fun r hr => h r (List.mem_cons_of_mem _ hr)) (fun r hr => hs r (List.mem_cons_of_mem _ hr))
  have hz := hs r (List.mem_cons_self ..)
  obtain ⟨x1, x2, x3, x4, x5, rfl, wx2, tx2, wx4, tx4, wx5, tx5⟩ := kod (h r (List.mem_cons_self ..))
  have sx2 : x2.length ≤ 1048576 ∧ ∀ r ∈ x2, szdL ke r := hz.2.1
  have sx4 : x4.length ≤ 1048576 ∧ ∀ r ∈ x4, szdL kpb r := hz.2.2.2.1
  have sx5 : x5.length ≤ 1048576 ∧ ∀ r ∈ x5, szdL kab r := hz.2.2.2.2.1
  have lx2 := sx2.1
  have lx4 := sx4.1
  have lx5 := sx5.1
  have gx2 := kfg x2 tx2 sx2.2
  simp only [kn, kfc, nthD, asL, List.length_cons]
  omega
theorem koh (n8 : Int) (q : Int → Int → Bool → Rw → Rs) (hq : ∀ a b c d, q a b c d = some ([.one (.i .i64 a)], [[.l d]])) : ∀ (b a : Rw) (m : Nat) (k : Int) (v0 : SV), (∀ r ∈ b, typL km r) → (∀ r ∈ b, szdL km r) → b.length < m → a.length + b.length ≤ 4000000 → 0 ≤ k → k + kn b ≤ 4000000000000000000 →
  la20o0 t46 t47 t51 n8 q m k (a.length : Int) v0 (a ++ b) = some ([.one (.i .i64 (k + kn b))], [[.l (a ++ kcb k b)]]) := by
 intro b
 induction b with
 | nil =>
  intro a m k v0 h hs hm hl h0 hk
  obtain ⟨m, rfl⟩ : ∃ m', m = m' + 1 := ⟨m - 1, by omega⟩
  have e : decide ((a.length : Int) < ((a ++ ([] : Rw)).length : Int)) = false := by simp
  have e2 : k + kn [] = k := by simp [kn]
  simp only [la20o0, e, bft, if_false, hq, e2, kcb]
 | cons r b ih =>
  intro a m k v0 h hs hm hl h0 hk
  obtain ⟨m, rfl⟩ : ∃ m', m = m' + 1 := ⟨m - 1, by omega⟩
  simp only [List.length_cons] at hm hl
  have hz := hs r (List.mem_cons_self ..)
  obtain ⟨x1, x2, x3, x4, x5, rfl, wx2, tx2, wx4, tx4, wx5, tx5⟩ := kod (h r (List.mem_cons_self ..))
  have hb : ∀ r ∈ b, typL km r := fun r hr => h r (List.mem_cons_of_mem _ hr)
  have hb2 : ∀ r ∈ b, szdL km r := fun r hr => hs r (List.mem_cons_of_mem _ hr)
  have sx2 : x2.length ≤ 1048576 ∧ ∀ r ∈ x2, szdL ke r := hz.2.1
  have sx4 : x4.length ≤ 1048576 ∧ ∀ r ∈ x4, szdL kpb r := hz.2.2.2.1
  have sx5 : x5.length ≤ 1048576 ∧ ∀ r ∈ x5, szdL kab r := hz.2.2.2.2.1
  have lx2 := sx2.1
  have lx4 := sx4.1
  have lx5 := sx5.1
  have qx2 := ktc x2
  have nb := kyd b
  have e6 : k + kfc [.i .i64 x1, .l x2, .i .i64 x3, .l x4, .l x5] = k + 1 + kf x2 + 1 + 5 * (x4.length : Int) + 5 * (x5.length : Int) := by simp only [kfc, nthD, asL]; omega
  have e7 : k + kn ([.i .i64 x1, .l x2, .i .i64 x3, .l x4, .l x5] :: b) = k + 1 + kf x2 + 1 + 5 * (x4.length : Int) + 5 * (x5.length : Int) + kn b := by rw [kn, ← Int.add_assoc, e6]
  rw [e7] at hk
  have e1 : ∀ r : List D, decide ((a.length : Int) < ((a ++ r :: b).length : Int)) = true := fun r => decide_eq_true (by simp; omega)
  have e0 : decide (0 ≤ (a.length : Int)) = true := decide_eq_true (by omega)
  have eg : ∀ (r : List D), (a ++ r :: b).getD a.length [] = r := fun r => kbe a b r _ rfl
  have p0 : ∀ r : List D, decide (1 ≤ 5 ∧ a.length < (a ++ r :: b).length) = true := fun r => decide_eq_true (by simp)
  have p2 : ∀ r : List D, decide (3 ≤ 5 ∧ a.length < (a ++ r :: b).length) = true := fun r => decide_eq_true (by simp)
  have u0 : w64 (k + 1) = k + 1 := ki _ (by omega)
  have u2 : w64 (k + 1 + kf x2 + 1) = k + 1 + kf x2 + 1 := ki _ (by omega)
  have m1 := kuj x2 tx2 sx2.2 (by omega) (k + 1) (by omega) (by omega)
  have m3 := ksk x4 (fun r hr => kfd _ r (tx4 r hr)) (by omega) (k + 1 + kf x2 + 1) (by omega) (by omega)
  have m4 := khi x5 (fun r hr => kfd _ r (tx5 r hr)) (by omega) (k + 1 + kf x2 + 1 + 5 * (x4.length : Int)) (by omega) (by omega)
  have f1 : fstSz 9 x2 = true := kdi (fun r hr => kfd _ r (tx2 r hr))
  have o1 : ∀ z (y : Rw), okR zr51 zo51 (some ([.one (.i .i64 z)], [[.l y]])) = true := fun _ _ => rfl
  have v1 : ∀ z (y : Rw), asL (outC (some ([.one (.i .i64 z)], [[.l y]])) 0 0) = y := fun _ _ => rfl
  have i1 : ∀ z (y : Rw), asI (resC (some ([.one (.i .i64 z)], [[.l y]])) 0 0) = z := fun _ _ => rfl
  have d1 : ∀ c1 c3 c4 c5 : D, asL (nthD [c1, .l x2, c3, c4, c5] 1) = x2 := fun _ _ _ _ => rfl
  have h1 : ∀ c1 c3 c4 c5 : D, decide (2 ≤ ([c1, .l x2, c3, c4, c5] : List D).length) = true := fun _ _ _ _ => rfl
  have k1 : ∀ c1 c3 c4 c5 : D, isF [.l []] 1 [c1, .l x2, c3, c4, c5] = true := fun _ _ _ _ => rfl
  have f3 : fstSz 5 x4 = true := kdi (fun r hr => kfd _ r (tx4 r hr))
  have o3 : ∀ z (y : Rw), okR zr46 zo46 (some ([.one (.i .i64 z)], [[.l y]])) = true := fun _ _ => rfl
  have v3 : ∀ z (y : Rw), asL (outC (some ([.one (.i .i64 z)], [[.l y]])) 0 0) = y := fun _ _ => rfl
  have i3 : ∀ z (y : Rw), asI (resC (some ([.one (.i .i64 z)], [[.l y]])) 0 0) = z := fun _ _ => rfl
  have d3 : ∀ c1 c2 c3 c5 : D, asL (nthD [c1, c2, c3, .l x4, c5] 3) = x4 := fun _ _ _ _ => rfl
  have h3 : ∀ c1 c2 c3 c5 : D, decide (4 ≤ ([c1, c2, c3, .l x4, c5] : List D).length) = true := fun _ _ _ _ => rfl
  have k3 : ∀ c1 c2 c3 c5 : D, isF [.l []] 3 [c1, c2, c3, .l x4, c5] = true := fun _ _ _ _ => rfl
  have f4 : fstSz 5 x5 = true := kdi (fun r hr => kfd _ r (tx5 r hr))
  have o4 : ∀ z (y : Rw), okR zr47 zo47 (some ([.one (.i .i64 z)], [[.l y]])) = true := fun _ _ => rfl
  have v4 : ∀ z (y : Rw), asL (outC (some ([.one (.i .i64 z)], [[.l y]])) 0 0) = y := fun _ _ => rfl
  have i4 : ∀ z (y : Rw), asI (resC (some ([.one (.i .i64 z)], [[.l y]])) 0 0) = z := fun _ _ => rfl
  have d4 : ∀ c1 c2 c3 c4 : D, asL (nthD [c1, c2, c3, c4, .l x5] 4) = x5 := fun _ _ _ _ => rfl
  have h4 : ∀ c1 c2 c3 c4 : D, decide (5 ≤ ([c1, c2, c3, c4, .l x5] : List D).length) = true := fun _ _ _ _ => rfl
  have k4 : ∀ c1 c2 c3 c4 : D, isF [.l []] 4 [c1, c2, c3, c4, .l x5] = true := fun _ _ _ _ => rfl
  have hw := kc a.length (by omega)
  simp only [la20o0, e1, e0, eg, if_true, itn, p0, p2, u0, u2, ktm a b _ rfl, kym a b _ rfl, kvm a b _ rfl, kfn a b _ rfl, kpm a b _ rfl, m1, f1, o1, v1, i1, d1, h1, k1, m3, f3, o3, v3, i3, d3, h3, k3, m4, f4, o4, v4, i4, d4, h4, k4, bat, ka, hw]
  have := fun (z0 : SV) => ih (a ++ [kkb k [.i .i64 x1, .l x2, .i .i64 x3, .l x4, .l x5]]) m (k + 1 + kf x2 + 1 + 5 * (x4.length : Int) + 5 * (x5.length : Int)) z0 hb hb2 (by omega) (by simp; omega) (by omega) (by omega)
  have e3 : (a ++ [kkb k [.i .i64 x1, .l x2, .i .i64 x3, .l x4, .l x5]]).length = a.length + 1 := by simp
  simp only [e3, List.append_assoc] at this
  have e5 : a ++ kcb k ([.i .i64 x1, .l x2, .i .i64 x3, .l x4, .l x5] :: b) = (a ++ [kkb k [.i .i64 x1, .l x2, .i .i64 x3, .l x4, .l x5]]) ++ kcb (k + 1 + kf x2 + 1 + 5 * (x4.length : Int) + 5 * (x5.length : Int)) b := by rw [kcb, e6, List.append_assoc]; rfl
  rw [e7, e5, List.append_assoc]
  exact this _
theorem kqi (l : Rw) (h : ∀ r ∈ l, typL km r) (hs : ∀ r ∈ l, szdL km r) (hl : l.length ≤ 4000000) (k : Int) (h0 : 0 ≤ k) (hk : k + kn l ≤ 4000000000000000000) : t20 l k = some ([.one (.i .i64 (k + kn l))], [[.l (kcb k l)]]) := by
 unfold t20 ta20
 exact koh _ _ (fun _ _ _ _ => rfl) l [] KK k _ h hs (by rw [kj]; omega) (by simpa using hl) h0 hk
theorem gz2 : ∀ z, okR zr52 zo52 (some ([.one (.i .i64 z)], [])) = true := fun _ => id rfl
theorem gz3 : ∀ z, okR zr49 zo49 (some ([.one (.i .i64 z)], [])) = true := fun _ => id rfl
theorem gz4 : ∀ z, okR zr50 zo50 (some ([.one (.i .i64 z)], [])) = true := fun _ => id rfl
theorem kih (n9 : Int) (q1 : Int → Int → Bool → Bool → SV → SV → SV → SV → Rs) (q2 : Int → Int → Bool → Bool → Bool → SV → SV → SV → Rs) (q3 : Int → Int → Bool → Bool → Bool → Bool → SV → SV → Rs) (q4 : Int → Int → Bool → Bool → Bool → Bool → Bool → SV → Rs) (q5 : Int → Int → Bool → Bool → Bool → Bool → Bool → Bool → Rs) (q6 : Int → Int → Bool → SV → SV → SV → SV → SV → Rs) (hq : ∀ z0 z1 z2 z3 z4 z5 z6 z7, q6 z0 z1 z2 z3 z4 z5 z6 z7 = some ([.one (.i .i64 z0)], [])) : ∀ (b a : Rw) (m : Nat) (k : Int) (v0 v1 v2 v3 v4 v5 : SV) (L : Rw) (i : Int), (∀ r ∈ b, typL km r) → (∀ r ∈ b, szdL km r) → L = a ++ kcb k b → i = (a.length : Int) → b.length < m → a.length + b.length ≤ 4000000 → 0 ≤ k → k + kn b ≤ 4000000000000000000 →
  la21o0 t49 t50 t52 L n9 q1 q2 q3 q4 q5 q6 m k i v0 v1 v2 v3 v4 v5 = some ([.one (.i .i64 (k + kn b))], []) := by
 intro b
 induction b with
 | nil =>
  intro a m k v0 v1 v2 v3 v4 v5 L i h hs hL hi hm hl h0 hk
  subst hL hi
  obtain ⟨m, rfl⟩ : ∃ m', m = m' + 1 := ⟨m - 1, by omega⟩
  have e : decide ((a.length : Int) < ((a ++ ([] : Rw)).length : Int)) = false := by simp
  have e2 : k + kn [] = k := by simp [kn]
  rw [show kcb k [] = [] from rfl]
  simp only [la21o0, e, bft, if_false, hq, e2]
 | cons r b ih =>
  intro a m k v0 v1 v2 v3 v4 v5 L i h hs hL hi hm hl h0 hk
  subst hL hi
  obtain ⟨m, rfl⟩ : ∃ m', m = m' + 1 := ⟨m - 1, by omega⟩
  simp only [List.length_cons] at hm hl
  have hz := hs r (List.mem_cons_self ..)
  obtain ⟨x1, x2, x3, x4, x5, rfl, wx2, tx2, wx4, tx4, wx5, tx5⟩ := kod (h r (List.mem_cons_self ..))
  have hb : ∀ r ∈ b, typL km r := fun r hr => h r (List.mem_cons_of_mem _ hr)
  have hb2 : ∀ r ∈ b, szdL km r := fun r hr => hs r (List.mem_cons_of_mem _ hr)
  have sx2 : x2.length ≤ 1048576 ∧ ∀ r ∈ x2, szdL ke r := hz.2.1
  have sx4 : x4.length ≤ 1048576 ∧ ∀ r ∈ x4, szdL kpb r := hz.2.2.2.1
  have sx5 : x5.length ≤ 1048576 ∧ ∀ r ∈ x5, szdL kab r := hz.2.2.2.2.1
  have lx2 := sx2.1
  have lx4 := sx4.1
  have lx5 := sx5.1
  have qx2 := ktc x2
  have nb := kyd b
  have e6 : k + kfc [.i .i64 x1, .l x2, .i .i64 x3, .l x4, .l x5] = k + 1 + kf x2 + 1 + 5 * (x4.length : Int) + 5 * (x5.length : Int) := by simp only [kfc, nthD, asL]; omega
  have e7 : k + kn ([.i .i64 x1, .l x2, .i .i64 x3, .l x4, .l x5] :: b) = k + 1 + kf x2 + 1 + 5 * (x4.length : Int) + 5 * (x5.length : Int) + kn b := by rw [kn, ← Int.add_assoc, e6]
  rw [e7] at hk
  have e1 : ∀ (r : List D) (b : Rw), decide ((a.length : Int) < ((a ++ r :: b).length : Int)) = true := fun r b => decide_eq_true (by simp; omega)
  have e0 : decide (0 ≤ (a.length : Int)) = true := decide_eq_true (by omega)
  have eg : ∀ (r : List D) (b : Rw), (a ++ r :: b).getD a.length [] = r := fun r b => kbe a b r _ rfl
  have u0 : w64 (k + 1) = k + 1 := ki _ (by omega)
  have u2 : w64 (k + 1 + kf x2 + 1) = k + 1 + kf x2 + 1 := ki _ (by omega)
  have m1 := ktj x2 tx2 sx2.2 (by omega) (k + 1) (by omega) (by omega)
  have n1 : decide (k + 1 + kf x2 < 0) = false := decide_eq_false (by omega)
  have m3 := kyk x4 (by omega) (k + 1 + kf x2 + 1) (by omega) (by omega)
  have n3 : decide (k + 1 + kf x2 + 1 + 5 * (x4.length : Int) < 0) = false := decide_eq_false (by omega)
  have m4 := kwh x5 (by omega) (k + 1 + kf x2 + 1 + 5 * (x4.length : Int)) (by omega) (by omega)
  have n4 : decide (k + 1 + kf x2 + 1 + 5 * (x4.length : Int) + 5 * (x5.length : Int) < 0) = false := decide_eq_false (by omega)
  have hw := kc a.length (by omega)
  have this := fun (z0 : SV) (z1 : SV) (z2 : SV) (z3 : SV) (z4 : SV) (z5 : SV) => ih (a ++ [kkb k [.i .i64 x1, .l x2, .i .i64 x3, .l x4, .l x5]]) m (k + 1 + kf x2 + 1 + 5 * (x4.length : Int) + 5 * (x5.length : Int)) z0 z1 z2 z3 z4 z5 _ _ hb hb2 rfl rfl (by omega) (by simp; omega) (by omega) (by omega)
  have e3 : (a ++ [kkb k [.i .i64 x1, .l x2, .i .i64 x3, .l x4, .l x5]]).length = a.length + 1 := by simp
  simp only [e3, List.append_assoc] at this
  have e5 : a ++ kcb k ([.i .i64 x1, .l x2, .i .i64 x3, .l x4, .l x5] :: b) = a ++ kkb k [.i .i64 x1, .l x2, .i .i64 x3, .l x4, .l x5] :: kcb (k + 1 + kf x2 + 1 + 5 * (x4.length : Int) + 5 * (x5.length : Int)) b := by rw [kcb, e6]
  rw [e5]
  have ez : isRow z28 (kkb k [.i .i64 x1, .l x2, .i .i64 x3, .l x4, .l x5]) = true := rfl
  have d0 : asI (nthD (kkb k [.i .i64 x1, .l x2, .i .i64 x3, .l x4, .l x5]) 0) = (k) := rfl
  have d1 : asL (nthD (kkb k [.i .i64 x1, .l x2, .i .i64 x3, .l x4, .l x5]) 1) = (kz (k + 1) x2) := rfl
  have d2 : asI (nthD (kkb k [.i .i64 x1, .l x2, .i .i64 x3, .l x4, .l x5]) 2) = (k + 1 + kf x2) := rfl
  have d3 : asL (nthD (kkb k [.i .i64 x1, .l x2, .i .i64 x3, .l x4, .l x5]) 3) = (khb (k + 1 + kf x2 + 1) x4) := rfl
  have d4 : asL (nthD (kkb k [.i .i64 x1, .l x2, .i .i64 x3, .l x4, .l x5]) 4) = (kw (k + 1 + kf x2 + 1 + 5 * (x4.length : Int)) x5) := rfl
  simp only [la21o0, e1, e0, if_true, itn, eg, ez, d0, d1, d2, d3, d4, u0, u2, m1, gz2, gz1, n1, m3, gz3, gz1, n3, m4, gz4, gz1, n4, bne_self_eq_false, beq_self_eq_true, bnt, bft, if_false, bat, ka, hw]
  rw [e7]
  exact this _ _ _ _ _ _
theorem kti (l : Rw) (h : ∀ r ∈ l, typL km r) (hs : ∀ r ∈ l, szdL km r) (hl : l.length ≤ 4000000) (k : Int) (h0 : 0 ≤ k) (hk : k + kn l ≤ 4000000000000000000) : t21 (kcb k l) k = some ([.one (.i .i64 (k + kn l))], []) := by
 unfold t21 ta21
 exact kih _ _ _ _ _ _ _ (fun _ _ _ _ _ _ _ _ => rfl) l [] KK k _ _ _ _ _ _ _ _ h hs rfl rfl (by rw [kj]; omega) (by simpa using hl) h0 hk
end Go.Den.L11

namespace Go.Den.L11.Vq
inductive Reach {α : Type} (tg : α → List α) (s : α) : α → Prop
 | base {d : α} : d ∈ tg s → Reach tg s d
 | step {x d : α} : Reach tg s x → d ∈ tg x → Reach tg s d
theorem khk {α : Type} {tg : α → List α} {s : α} {B : List α} (h : ∀ x ∈ s :: B, ∀ d ∈ tg x, d ∈ B) : ∀ d, Reach tg s d → d ∈ B := by
 intro d r
 induction r with
 | base hd => exact h _ (by simp) _ hd
 | step _ hd ih => exact h _ (by simp [ih]) _ hd
def ins (o : List Int) : List Int → List Int
 | [] => o
 | d :: ds => ins (if d ∈ o then o else o ++ [d]) ds
theorem kug : ∀ {ds o : List Int} {x : Int}, x ∈ ins o ds ↔ x ∈ o ∨ x ∈ ds
 | [], o, x => by simp [ins]
 | d :: ds, o, x => by
  rw [ins, kug]
  by_cases h : d ∈ o
  ·simp only [h, if_true, List.mem_cons]
   constructor
   ·rintro (a | a) <;> simp [a]
   ·rintro (a | a | a)
    ·exact .inl a
    ·exact .inl (a ▸ h)
    ·exact .inr a
  ·simp [h, or_assoc]
theorem kgj : ∀ {ds o : List Int}, o.Nodup → (ins o ds).Nodup
 | [], _, h => h
 | d :: ds, o, h => by
  rw [ins]
  refine kgj ?_
  by_cases hd : d ∈ o
  ·simpa [hd] using h
  ·simp only [hd, if_false]
   rw [List.nodup_append]
   exact ⟨h, by simp, by intro a ha b hb; simp at hb; subst hb; intro e; exact hd (e ▸ ha)⟩
theorem ins_pre : ∀ {ds o : List Int}, o <+: ins o ds
 | [], o => List.prefix_refl o
 | d :: ds, o => by
  rw [ins]
  refine List.IsPrefix.trans ?_ ins_pre
  by_cases hd : d ∈ o
  ·simp [hd]
  ·simp [hd]
structure Inv (tg : Int → List Int) (s : Int) (out : List Int) (i : Nat) : Prop where
 nd : out.Nodup
 sound : ∀ d ∈ out, Reach tg s d
 done : ∀ x ∈ (s :: out).take i, ∀ d ∈ tg x, d ∈ out
theorem Inv.start {tg : Int → List Int} {s : Int} : Inv tg s [] 0 := ⟨by simp, by simp, by simp⟩
theorem Inv.next {tg : Int → List Int} {s : Int} {out : List Int} {i : Nat} (h : Inv tg s out i) {x : Int} (hx : (s :: out)[i]? = some x) : Inv tg s (ins out (tg x)) (i + 1) := by
 have hr : x = s ∨ Reach tg s x := by
  cases i with
  | zero => simp at hx; exact .inl hx.symm
  | succ i => simp at hx; exact .inr (h.sound _ (List.mem_of_getElem? hx))
 obtain ⟨t, ht⟩ := (ins_pre : out <+: ins out (tg x))
 refine ⟨kgj h.nd, ?_, ?_⟩
 ·intro d hd
  rcases kug.1 hd with h1 | h1
  ·exact h.sound _ h1
  ·rcases hr with e | e
   ·subst e; exact .base h1
   ·exact .step e h1
 ·intro y hy d hd
  have hl : i < (s :: out).length := by
   have := List.getElem?_eq_some_iff.1 hx
   exact this.1
  rw [← ht, ← List.cons_append, List.take_append_of_le_length (by omega), List.take_add_one, hx] at hy
  simp only [Option.toList, List.mem_append, List.mem_singleton] at hy
  rcases hy with h1 | h1
  ·exact kug.2 (.inl (h.done _ h1 _ hd))
  ·subst h1; exact kug.2 (.inr hd)
theorem Inv.last {tg : Int → List Int} {s : Int} {out : List Int} {i : Nat} (h : Inv tg s out i) (hi : out.length + 1 ≤ i) : ∀ d, d ∈ out ↔ Reach tg s d := by
 intro d
 refine ⟨h.sound d, khk (fun x hx => ?_) d⟩
 have : (s :: out).take i = s :: out := List.take_of_length_le (by simpa using hi)
 exact h.done x (by rw [this]; exact hx)
theorem ktp {adj : Nat → List Nat} {at_ n : Nat} {a o : Nat → Nat → Bool}
  (hb : ∀ k x, o k x = true → x < n) (h0 : o 0 at_ = true)
  (hmo : ∀ k x, o k x = true → o (k + 1) x = true) (hma : ∀ k x, a k x = true → a (k + 1) x = true)
  (hao : ∀ k x, a k x = true → o k x = true)
  (hso : ∀ k x, o k x = true → x = at_ ∨ Reach adj at_ x) (hsa : ∀ k x, a k x = true → Reach adj at_ x)
  (hc : ∀ k i, o k i = true → ∀ x ∈ adj i, a (k + 1) x = true) :
  ∀ x, a n x = true ↔ Reach adj at_ x := by
 have hmok : ∀ j k x, o k x = true → o (k + j) x = true := by
  intro j; induction j with
  | zero => intro k x h; exact h
  | succ j ih => intro k x h; exact hmo _ _ (ih k x h)
 have hmak : ∀ j k x, a k x = true → a (k + j) x = true := by
  intro j; induction j with
  | zero => intro k x h; exact h
  | succ j ih => intro k x h; exact hma _ _ (ih k x h)
 have hat : ∀ k, o k at_ = true := fun k => by have := hmok k 0 at_ h0; simpa using this
 have hcnt : ∀ k, (∃ j, j < k ∧ ∀ x, o (j + 1) x = true → o j x = true) ∨ k + 1 ≤ ((List.range n).filter (o k)).length := by
  intro k; induction k with
  | zero =>
   right
   have : at_ ∈ (List.range n).filter (o 0) := by simp [h0, hb 0 at_ h0]
   exact List.length_pos_of_mem this
  | succ k ih =>
   rcases ih with ⟨j, hj, h⟩ | h
   ·exact .inl ⟨j, by omega, h⟩
   ·by_cases hq : ∀ x, o (k + 1) x = true → o k x = true
    ·exact .inl ⟨k, by omega, hq⟩
    ·right
     simp only [Classical.not_forall] at hq
     obtain ⟨x, h1, h2⟩ := hq
     have hs : ∀ (l : List Nat), x ∈ l → (l.filter (o k)).length + 1 ≤ (l.filter (o (k + 1))).length := by
      have hle : ∀ (l : List Nat), (l.filter (o k)).length ≤ (l.filter (o (k + 1))).length := by
       intro l; induction l with
       | nil => simp
       | cons y l ih2 =>
        simp only [List.filter_cons]
        by_cases hy : o k y = true
        ·simp [hy, hmo _ _ hy, ih2]
        ·by_cases hz : o (k + 1) y = true <;> simp [hy, hz] <;> omega
      intro l hl
      induction l with
      | nil => simp at hl
      | cons y l ih2 =>
       simp only [List.filter_cons]
       by_cases e : x = y
       ·subst e
        have := hle l
        simp [h1, h2]; omega
       ·have hm : x ∈ l := by simpa [e] using hl
        have := ih2 hm
        by_cases hy : o k y = true
        ·simp [hy, hmo _ _ hy]; omega
        ·by_cases hz : o (k + 1) y = true <;> simp [hy, hz] <;> omega
     have := hs (List.range n) (by simp [hb _ _ h1])
     omega
 have hle : ((List.range n).filter (o n)).length ≤ n := by
  have := List.length_filter_le (o n) (List.range n); simpa using this
 obtain ⟨j, hj, h⟩ : ∃ j, j < n ∧ ∀ x, o (j + 1) x = true → o j x = true := by
  rcases hcnt n with h | h
  ·exact h
  ·omega
 have hcl : ∀ x, Reach adj at_ x → a (j + 1) x = true := by
  intro x r
  induction r with
  | base hd => exact hc j _ (hat j) _ hd
  | step _ hd ih => exact hc j _ (h _ (hao _ _ ih)) _ hd
 intro x
 refine ⟨hsa n x, fun r => ?_⟩
 have := hmak (n - (j + 1)) (j + 1) x (hcl x r)
 rwa [show j + 1 + (n - (j + 1)) = n by omega] at this
theorem perm_of {l1 l2 : List Int} (h1 : l1.Nodup) (h2 : l2.Nodup) (h : ∀ a, a ∈ l1 ↔ a ∈ l2) : l1.Perm l2 := (List.perm_ext_iff_of_nodup h1 h2).2 h
end Go.Den.L11.Vq

namespace Go.Den.L11.Vq
abbrev BB := (Nat → Bool) × (Nat → Bool)
def updB (f : Nat → Bool) (x : Nat) : Nat → Bool := fun y => if y = x then true else f y
def setB (p : BB) (x : Nat) : BB := (updB p.1 x, updB p.2 x)
def nmB (p : BB) (ds : List Nat) : BB := ds.foldl setB p
def plB (adj : Nat → List Nat) (p : BB) (i : Nat) : BB := if p.1 i then nmB p (adj i) else p
def rdB (adj : Nat → List Nat) (n : Nat) (p : BB) : BB := (List.range n).foldl (plB adj) p
def itB (adj : Nat → List Nat) (n : Nat) : Nat → BB → BB
 | 0, p => p
 | k + 1, p => rdB adj n (itB adj n k p)
structure LeB (p q : BB) : Prop where
 o : ∀ x, p.1 x = true → q.1 x = true
 a : ∀ x, p.2 x = true → q.2 x = true
theorem LeB.refl (p : BB) : LeB p p := ⟨fun _ h => h, fun _ h => h⟩
theorem LeB.trans {p q r : BB} (h : LeB p q) (g : LeB q r) : LeB p r := ⟨fun x h1 => g.o x (h.o x h1), fun x h1 => g.a x (h.a x h1)⟩
theorem kue {β : Type} {f : BB → β → BB} (h : ∀ p b, LeB p (f p b)) : ∀ (l : List β) (p : BB), LeB p (l.foldl f p)
 | [], p => .refl p
 | b :: l, p => (h p b).trans (kue h l _)
theorem knm (p : BB) (x : Nat) : LeB p (setB p x) := ⟨fun y h => by simp only [setB, updB]; split <;> simp [h], fun y h => by simp only [setB, updB]; split <;> simp [h]⟩
theorem kpp (p : BB) (ds : List Nat) : LeB p (nmB p ds) := kue knm ds p
theorem kql (adj : Nat → List Nat) (p : BB) (i : Nat) : LeB p (plB adj p i) := by
 unfold plB; split
 ·exact kpp _ _
 ·exact .refl _
theorem kbo (adj : Nat → List Nat) (n : Nat) (p : BB) : LeB p (rdB adj n p) := kue (kql adj) _ p
theorem kkp (p : BB) (x : Nat) : (setB p x).2 x = true := by simp [setB, updB]
theorem kpn : ∀ (ds : List Nat) (p : BB), ∀ x ∈ ds, (nmB p ds).2 x = true
 | d :: ds, p, x, h => by
  rcases List.mem_cons.1 h with e | e
  ·subst e; exact (kue knm ds _).a x (kkp p x)
  ·exact kpn ds (setB p d) x e
theorem kyn (adj : Nat → List Nat) : ∀ (l : List Nat) (p : BB) (i : Nat), i ∈ l → p.1 i = true → ∀ x ∈ adj i, (l.foldl (plB adj) p).2 x = true
 | j :: l, p, i, hi, ho, x, hx => by
  rcases List.mem_cons.1 hi with e | e
  ·subst e
   refine (kue (kql adj) l _).a x ?_
   simp only [plB, ho, if_true]
   exact kpn _ _ x hx
  ·exact kyn adj l _ i e ((kql adj p j).o i ho) x hx
structure WellB (adj : Nat → List Nat) (at_ n : Nat) (p : BB) : Prop where
 b : ∀ x, p.1 x = true → x < n
 ao : ∀ x, p.2 x = true → p.1 x = true
 so : ∀ x, p.1 x = true → x = at_ ∨ Reach adj at_ x
 sa : ∀ x, p.2 x = true → Reach adj at_ x
theorem WellB.set {adj : Nat → List Nat} {at_ n : Nat} {p : BB} (h : WellB adj at_ n p) {x : Nat} (hx : x < n) (hr : Reach adj at_ x) : WellB adj at_ n (setB p x) := by
 constructor
 ·intro y hy; simp only [setB, updB] at hy; split at hy
  ·subst_vars; exact hx
  ·exact h.b y hy
 ·intro y hy; simp only [setB, updB] at hy ⊢; split
  ·rfl
  ·rename_i e; simp only [e, if_false] at hy; exact h.ao y hy
 ·intro y hy; simp only [setB, updB] at hy; split at hy
  ·subst_vars; exact .inr hr
  ·exact h.so y hy
 ·intro y hy; simp only [setB, updB] at hy; split at hy
  ·subst_vars; exact hr
  ·exact h.sa y hy
theorem WellB.nm {adj : Nat → List Nat} {at_ n : Nat} : ∀ (ds : List Nat) {p : BB}, WellB adj at_ n p → (∀ x ∈ ds, x < n ∧ Reach adj at_ x) → WellB adj at_ n (nmB p ds)
 | [], _, h, _ => h
 | d :: ds, p, h, hd => by
  have := WellB.nm ds (h.set (hd d (by simp)).1 (hd d (by simp)).2) (fun x hx => hd x (by simp [hx]))
  simpa [nmB] using this
theorem WellB.pl {adj : Nat → List Nat} {at_ n : Nat} (hadj : ∀ i, ∀ x ∈ adj i, x < n) {p : BB} (h : WellB adj at_ n p) (i : Nat) : WellB adj at_ n (plB adj p i) := by
 unfold plB; split
 ·rename_i ho
  refine h.nm _ (fun x hx => ⟨hadj i x hx, ?_⟩)
  rcases h.so i ho with e | e
  ·subst e; exact .base hx
  ·exact .step e hx
 ·exact h
theorem WellB.pls {adj : Nat → List Nat} {at_ n : Nat} (hadj : ∀ i, ∀ x ∈ adj i, x < n) : ∀ (l : List Nat) {p : BB}, WellB adj at_ n p → WellB adj at_ n (l.foldl (plB adj) p)
 | [], _, h => h
 | i :: l, _, h => WellB.pls hadj l (h.pl hadj i)
theorem WellB.it {adj : Nat → List Nat} {at_ n : Nat} (hadj : ∀ i, ∀ x ∈ adj i, x < n) {p : BB} (h : WellB adj at_ n p) : ∀ k, WellB adj at_ n (itB adj n k p)
 | 0 => h
 | k + 1 => (WellB.it hadj h k).pls hadj _
theorem itB_reach {adj : Nat → List Nat} {at_ n : Nat} (hadj : ∀ i, ∀ x ∈ adj i, x < n) (hat : at_ < n) :
  ∀ x, (itB adj n n (updB (fun _ => false) at_, fun _ => false)).2 x = true ↔ Reach adj at_ x := by
 have hw : ∀ k, WellB adj at_ n (itB adj n k (updB (fun _ => false) at_, fun _ => false)) := WellB.it hadj (by
  constructor
  ·intro x hx; simp only [updB] at hx; split at hx
   ·subst_vars; exact hat
   ·simp at hx
  ·intro x hx; simp at hx
  ·intro x hx; simp only [updB] at hx; split at hx
   ·subst_vars; exact .inl rfl
   ·simp at hx
  ·intro x hx; simp at hx)
 refine ktp (o := fun k => (itB adj n k (updB (fun _ => false) at_, fun _ => false)).1) (a := fun k => (itB adj n k (updB (fun _ => false) at_, fun _ => false)).2) (fun k => (hw k).b) ?_ (fun k => (kbo adj n _).o) (fun k => (kbo adj n _).a) (fun k => (hw k).ao) (fun k => (hw k).so) (fun k => (hw k).sa) ?_
 ·simp [itB, updB]
 ·intro k i hi x hx
  exact kyn adj (List.range n) _ i (List.mem_range.2 ((hw k).b i hi)) hi x hx
theorem kul {adj : Nat → List Nat} {tg : Int → List Int} {idp : Nat → Int} {n : Nat}
  (hadj : ∀ i, i < n → ∀ d, d ∈ tg (idp i) ↔ ∃ x ∈ adj i, idp x = d) (hlt : ∀ i, ∀ x ∈ adj i, x < n) (hinj : ∀ i j, i < n → j < n → idp i = idp j → i = j) {at_ : Nat} (hat : at_ < n) :
  (∀ x, Reach adj at_ x → Reach tg (idp at_) (idp x)) ∧ (∀ d, Reach tg (idp at_) d → ∃ x, Reach adj at_ x ∧ idp x = d ∧ x < n) := by
 constructor
 ·intro x r
  have : x < n ∧ Reach tg (idp at_) (idp x) := by
   induction r with
   | base hd => exact ⟨hlt _ _ hd, .base ((hadj _ hat _).2 ⟨_, hd, rfl⟩)⟩
   | step _ hd ih => exact ⟨hlt _ _ hd, .step ih.2 ((hadj _ ih.1 _).2 ⟨_, hd, rfl⟩)⟩
  exact this.2
 ·intro d r
  induction r with
  | base hd =>
   obtain ⟨x, hx, e⟩ := (hadj _ hat _).1 hd
   exact ⟨x, .base hx, e, hlt _ _ hx⟩
  | step _ hd ih =>
   obtain ⟨y, ry, ey, hy⟩ := ih
   subst ey
   obtain ⟨x, hx, e⟩ := (hadj _ hy _).1 hd
   exact ⟨x, .step ry hx, e, hlt _ _ hx⟩
theorem reach_iff {adj : Nat → List Nat} {tg : Int → List Int} {idp : Nat → Int} {n : Nat}
  (hadj : ∀ i, i < n → ∀ d, d ∈ tg (idp i) ↔ ∃ x ∈ adj i, idp x = d) (hlt : ∀ i, ∀ x ∈ adj i, x < n) (hinj : ∀ i j, i < n → j < n → idp i = idp j → i = j) {at_ : Nat} (hat : at_ < n) (x : Nat) (hx : x < n) :
  Reach adj at_ x ↔ Reach tg (idp at_) (idp x) := by
 obtain ⟨h1, h2⟩ := kul hadj hlt hinj hat
 refine ⟨h1 x, fun r => ?_⟩
 obtain ⟨y, ry, e, hy⟩ := h2 _ r
 rwa [hinj x y hx hy e.symm]
end Go.Den.L11.Vq

namespace Go.Den.L11
open Go Go.IntWalk
def fnd (l : Rw) (id : Int) : Option (List D) := l.find? (fun r => asI (nthD r 0) == id)
theorem kzm (n9 : Int) (l : Rw) (id : Int) (hl : l.length < 4611686018427387904) (ht : ∀ r ∈ l, typL ke r) (A : List D → Rs) (B : Rs) (q1 : Int → Int → Int → Int → Int → BA → Rw → Int → Int → Int → Bool → Bool → Rs) (q2 : SV → Int → Bool → SV → Rs)
  (h1 : ∀ a b c d e f g h i n x y, q1 a b c d e f g h i n x y = A [.i .i64 a, .i .i64 b, .i .i64 c, .i .i64 d, .i .i64 e, .s f, .l g, .i .i64 h, .i .i64 i]) (h2 : ∀ a b c d, q2 a b c d = B) :
  ∀ (k i m : Nat) (v w x : SV), i + k = l.length → k < m → l132o0 n9 l id (l.length : Int) q1 q2 m v (i : Int) w x = match fnd (l.drop i) id with | some r => A r | none => B := by
 intro k
 induction k with
 | zero =>
  intro i m v w x hi hm
  obtain ⟨m, rfl⟩ : ∃ m', m = m' + 1 := ⟨m - 1, by omega⟩
  rw [show i = l.length by omega]
  simp [l132o0, fnd, h2]
 | succ k ih =>
  intro i m v w x hi hm
  obtain ⟨m, rfl⟩ : ∃ m', m = m' + 1 := ⟨m - 1, by omega⟩
  have hil : i < l.length := by omega
  have hd : l.drop i = l[i] :: l.drop (i + 1) := List.drop_eq_getElem_cons hil
  have hg : l.getD ((i : Int)).toNat [] = l[i] := by simp [List.getD, hil]
  obtain ⟨x1, x2, x3, x4, x5, x6, x7, x8, x9, hr, -, -, -⟩ := kqb (ht l[i] (List.getElem_mem hil))
  have e1 : (decide ((0 : Int) ≤ (i : Int)) && true && isRow z64 l[i]) = true := by
   rw [hr, show decide ((0 : Int) ≤ (i : Int)) = true from decide_eq_true (by omega)]; rfl
  have e2 : decide ((i : Int) < (l.length : Int)) = true := by simp [hil]
  simp only [l132o0, e2, if_true, hg, e1, ka, hd, fnd, List.find?_cons]
  by_cases hq : (asI (nthD l[i] 0) == id) = true
  ·simp only [hq, if_true, h1]; rw [hr]; rfl
  ·simp only [hq, bft, if_false]
   rw [kc i (by omega), ih (i + 1) m _ _ _ (by omega) (by omega)]
   rfl
theorem kmh (n1 : Int) (l : Rw) (id : Int) (hl : l.length ≤ 1048576) (ht : ∀ r ∈ l, typL ke r) :
  t132 n1 l id = some ([.one (.b (fnd l id).isSome), .agg ((fnd l id).getD [.i .i64 0, .i .i64 0, .i .i64 0, .i .i64 0, .i .i64 0, .s ⟨#[]⟩, .l [], .i .i64 0, .i .i64 0])], []) := by
 unfold t132

 have := kzm n1 l id (by omega) ht (fun r => some ([.one (.b true), .agg r], [])) (some ([.one (.b false), .agg [.i .i64 0, .i .i64 0, .i .i64 0, .i .i64 0, .i .i64 0, .s ⟨#[]⟩, .l [], .i .i64 0, .i .i64 0]], [])) _ _ (fun _ _ _ _ _ _ _ _ _ _ _ _ => rfl) (fun _ _ _ _ => rfl) l.length 0 KK .undef .undef .undef (by omega) (by rw [kj]; omega)
 refine Eq.trans this ?_
 simp only [List.drop_zero]
 cases fnd l id <;> rfl
def ints (o : List Int) : Rw := o.map fun x => [D.i .i64 x]
theorem kle (o : List Int) : (ints o).length = o.length := by simp [ints]
theorem krg {o : List Int} {i : Nat} (h : i < o.length) : (ints o).getD i [] = [D.i .i64 o[i]] := by simp [ints, List.getD, h]
theorem kxo (x n0 : Int) (q1 : Int → Bool → Bool → Rs) (q2 : SV → Int → Bool → SV → Rs) (h1 : ∀ a b c, q1 a b c = some ([.one (.i .i64 a)], [])) (h2 : ∀ a b c d, q2 a b c d = some ([.one (.i .i64 (-1))], [])) (o : List Int) (hl : o.length < 4611686018427387904) : ∀ (k i m : Nat) (u v w : SV), i + k = o.length → k < m →
  ∃ y : Int, l133o0 (ints o) x n0 ((ints o).length : Int) q1 q2 m u i v w = some ([.one (.i .i64 y)], []) ∧ decide (y ≥ 0) = decide (x ∈ o.drop i) := by
 intro k
 induction k with
 | zero =>
  intro i m u v w e hm
  obtain ⟨m, rfl⟩ : ∃ m', m = m' + 1 := ⟨m - 1, by omega⟩
  have ei : decide ((i : Int) < ((ints o).length : Int)) = false := by rw [kle]; simp; omega
  refine ⟨-1, by simp only [l133o0, ei, h2, bft, if_false], ?_⟩
  rw [show i = o.length by omega]; simp
 | succ k ih =>
  intro i m u v w e hm
  obtain ⟨m, rfl⟩ : ∃ m', m = m' + 1 := ⟨m - 1, by omega⟩
  have hi : i < o.length := by omega
  have e1 := kk (i := i) (n := (ints o).length) (by rw [kle]; omega)
  have ez : isRow z3 [D.i .i64 o[i]] = true := rfl
  have en : asI (nthD [D.i .i64 o[i]] 0) = o[i] := rfl
  have hw := kc i (by omega)
  simp only [l133o0, e1, kgc, itn, krg hi, ez, en, bat, ka, if_true, hw, List.drop_eq_getElem_cons hi, List.mem_cons]
  by_cases hb : x = o[i]
  ·have : (x == o[i]) = true := by simpa using hb
   exact ⟨i, by simp only [this, if_true, h1], by simp [hb]⟩
  ·have : (x == o[i]) = false := by simpa using hb
   simp only [this, bft, if_false, hb, false_or]
   exact ih (i + 1) m _ _ _ (by omega) (by omega)
theorem kal (o : List Int) (hl : o.length ≤ 1048576) (x : Int) : t101 (ints o) x = some ([.one (.b (decide (x ∈ o)))], []) := by
 obtain ⟨y, hy, hd⟩ := kxo x 0 (fun a _ _ => some ([.one (.i .i64 a)], [])) (fun _ _ _ _ => some ([.one (.i .i64 (-1))], [])) (fun _ _ _ => rfl) (fun _ _ _ _ => rfl) o (by omega) o.length 0 KK .undef .undef .undef (by omega) (by rw [kj]; omega)
 have hy' : t133 (ints o) x = some ([.one (.i .i64 y)], []) := hy
 have ew : okR zr133 zo133 (some ([.one (.i .i64 y)], [])) = true := rfl
 have eb : asI (resC (some ([.one (.i .i64 y)], [])) 0 0) = y := rfl
 simp only [t101, ta101, hy', ew, eb, ka, hd, List.drop_zero]
def idOf (r : List D) : Int := asI (nthD r 1)
def kjc (l : Rw) : List Int := l.map idOf
theorem gz5 : ∀ b, okR zr101 zo101 (some ([.one (.b b)], [])) = true := fun _ => id rfl
theorem gz6 : ∀ b, asB (resC (some ([.one (.b b)], [])) 0 0) = b := fun _ => id rfl
theorem ken (n0 : Int) (l0 : Rw) (n1 n2 : Int) (b0 b1 : Bool) (L : Rw) (hL : ∀ r ∈ L, typL kv r) (hl : L.length ≤ 1048576) (q1 : SV → Int → Bool → SV → Rw → Rw → Rs) (s : Int) :
  ∀ (k i m : Nat) (v w x : SV) (o : List Int), i + k = L.length → k < m → o.length + k + 1 ≤ 1048576 →
   ∃ a b c d, la100o3 t101 t132 n0 l0 n1 n2 b0 b1 L (L.length : Int) q1 m v (i : Int) w x (ints o) (ints (s :: o)) = q1 a b c d (ints (Vq.ins o (kjc (L.drop i)))) (ints (s :: Vq.ins o (kjc (L.drop i)))) := by
 intro k
 induction k with
 | zero =>
  intro i m v w x o e hm _
  obtain ⟨m, rfl⟩ : ∃ m', m = m' + 1 := ⟨m - 1, by omega⟩
  rw [show i = L.length by omega]
  simp only [la100o3, Int.lt_irrefl, decide_false, bft, if_false, List.drop_length, kjc, List.map_nil, Vq.ins]
  exact ⟨_, _, _, _, rfl⟩
 | succ k ih =>
  intro i m v w x o e hm ho
  obtain ⟨m, rfl⟩ : ∃ m', m = m' + 1 := ⟨m - 1, by omega⟩
  have hi : i < L.length := by omega
  have hg : L.getD i [] = L[i] := by simp [List.getD, hi]
  obtain ⟨x1, x2, hr, -⟩ := kqf (hL L[i] (List.getElem_mem hi))
  have e1 := kk (i := i) (n := L.length) (by omega)
  have ez : isRow z129 L[i] = true := by rw [hr]; rfl
  have eid : asI (nthD L[i] 1) = idOf L[i] := rfl
  have hw := kc i (by omega)
  have ec := kal o (by omega) (idOf L[i])
  simp only [la100o3, e1, kgc, itn, hg, ez, eid, ec, gz5, gz6, bat, ka, if_true, hw, List.drop_eq_getElem_cons hi, kjc, List.map_cons, Vq.ins]
  by_cases hb : idOf L[i] ∈ o
  ·simp only [hb, decide_true, bnt, bft, if_false, if_true]
   exact ih (i + 1) m _ _ _ o (by omega) (by omega) (by omega)
  ·have hc : ∀ n : Nat, n + 1 ≤ 1048577 → (flatR 1 ([[.i .i64 (idOf L[i])]] : Rw) && decide (n + ([[D.i .i64 (idOf L[i])]] : Rw).length ≤ lim)) = true := by
    intro n hn
    have : n + 1 ≤ lim := by unfold lim; omega
    have f : flatR 1 ([[D.i .i64 (idOf L[i])]] : Rw) = true := rfl
    rw [f]; simpa using this
   simp only [hb, decide_false, bnf, if_true, if_false]
   rw [hc _ (by rw [kle]; omega), hc _ (by rw [kle]; simp; omega)]
   simp only [ka]
   have a1 : ints o ++ [[D.i .i64 (idOf L[i])]] = ints (o ++ [idOf L[i]]) := by simp [ints]
   have a2 : ints (s :: o) ++ [[D.i .i64 (idOf L[i])]] = ints (s :: (o ++ [idOf L[i]])) := by simp [ints]
   rw [a1, a2]
   exact ih (i + 1) m _ _ _ (o ++ [idOf L[i]]) (by omega) (by omega) (by simp; omega)
theorem kgb {α σ : Type} (L : Nat → Nat → α → σ → Rs) (n : Nat) (P : Nat → α → Prop) (Q : Rs → Prop)
  (he : ∀ m a s, P n a → Q (L (m + 1) n a s))
  (hs : ∀ i m a s, i < n → P i a → (∃ a' s', L (m + 1) i a s = L m (i + 1) a' s' ∧ P (i + 1) a') ∨ Q (L (m + 1) i a s)) :
  ∀ (k i m : Nat) (a : α) (s : σ), i + k = n → k < m → P i a → Q (L m i a s) := by
 intro k
 induction k with
 | zero =>
  intro i m a s e hm hp
  obtain ⟨m, rfl⟩ : ∃ m', m = m' + 1 := ⟨m - 1, by omega⟩
  have : i = n := by omega
  subst this
  exact he m a s hp
 | succ k ih =>
  intro i m a s e hm hp
  obtain ⟨m, rfl⟩ : ∃ m', m = m' + 1 := ⟨m - 1, by omega⟩
  rcases hs i m a s (by omega) hp with ⟨a', s', h1, h2⟩ | h
  ·rw [h1]; exact ih (i + 1) m a' s' (by omega) (by omega) h2
  ·exact h
def allW (f : Nat → Bool) : Nat → Nat → Bool
 | 0, _ => true
 | k + 1, i => f i && allW f k (i + 1)
theorem kwb {f : Nat → Bool} : ∀ (k i : Nat), allW f k i = true ↔ ∀ j, i ≤ j → j < i + k → f j = true
 | 0, i => by simp [allW]; omega
 | k + 1, i => by
  rw [allW, Bool.and_eq_true, kwb]
  constructor
  ·rintro ⟨h1, h2⟩ j hj hk
   by_cases e : j = i
   ·rw [e]; exact h1
   ·exact h2 j (by omega) (by omega)
  ·intro h
   exact ⟨h i (by omega) (by omega), fun j hj hk => h j (by omega) (by omega)⟩
theorem kdd {σ : Type} (L : Nat → Nat → σ → Rs) (n : Nat) (f : Nat → Bool) (A B : Rs)
  (he : ∀ m s, L (m + 1) n s = B)
  (hs : ∀ i m s, i < n → (f i = true ∧ ∃ s', L (m + 1) i s = L m (i + 1) s') ∨ (f i = false ∧ L (m + 1) i s = A)) :
  ∀ (k i m : Nat) (s : σ), i + k = n → k < m → L m i s = if allW f k i = true then B else A := by
 intro k
 induction k with
 | zero =>
  intro i m s e hm
  obtain ⟨m, rfl⟩ : ∃ m', m = m' + 1 := ⟨m - 1, by omega⟩
  have : i = n := by omega
  subst this
  simp [allW, he]
 | succ k ih =>
  intro i m s e hm
  obtain ⟨m, rfl⟩ : ∃ m', m = m' + 1 := ⟨m - 1, by omega⟩
  rw [allW]
  rcases hs i m s (by omega) with ⟨h0, s', h1⟩ | ⟨h0, h1⟩
  ·rw [h1, h0, bta]; exact ih (i + 1) m s' (by omega) (by omega)
  ·rw [h1, h0]; simp
theorem kzj {i n : Nat} (h : i < n) : decide ((0 : Int) ≤ (i : Int) ∧ (i : Int) < (n : Int)) = true := by simp; omega
theorem kp (n : Nat) : decide ((n : Int) < (n : Int)) = false := by simp
def byB (s : BA) (i : Nat) : Int := ((s.get! i).toNat : Int)
def nbB (n1 : Int) : Bool := ((((((decide (n1 ≥ (97 : Int))) && (decide (n1 ≤ (122 : Int)))) || ((decide (n1 ≥ (48 : Int))) && (decide (n1 ≤ (57 : Int))))) || (n1 == (46 : Int))) || (n1 == (95 : Int))) || (n1 == (45 : Int)))
def kzd (s : BA) : Bool := (((decide ((s.size : Int) ≥ 1) && decide ((s.size : Int) ≤ 8)) && !(s.toList == (⟨#[46]⟩ : BA).toList)) && !(s.toList == (⟨#[46, 46]⟩ : BA).toList)) && allW (fun i => nbB (byB s i)) s.size 0
def kpg (s : BA) : Bool := (decide ((s.size : Int) ≥ 1) && decide ((s.size : Int) ≤ 60)) && allW (fun i => byB s i == 47 || nbB (byB s i)) s.size 0
theorem kyj (s : BA) (i : Nat) : ((s.get! ((i : Int)).toNat).toNat : Int) = byB s i := by rw [itn]; rfl
theorem gz7 : ∀ x, okR zr57 zo57 (some ([.one (.b x)], [])) = true := fun _ => id rfl
theorem gz8 : ∀ x, asB (resC (some ([.one (.b x)], [])) 0 0) = x := fun _ => id rfl
theorem kzl (s : BA) (hs : s.size < 4611686018427387904) : t125 s = some ([.one (.b (kzd s))], []) := by
 have key := fun b7 b9 => kdd (σ := SV × SV) (fun m i s' => la125o1 t57 t139 s b7 b9 (fun _ _ _ => some ([.one (.b false)], [])) (fun _ _ _ => some ([.one (.b true)], [])) m (i : Int) s'.1 s'.2) s.size (fun i => nbB (byB s i)) (some ([.one (.b false)], [])) (some ([.one (.b true)], []))
  (by intro m s'; simp only [la125o1, kp, bft, if_false])
  (by
   intro i m s' hi
   have e : t139 (byB s i) = some ([.one (.b (nbB (byB s i)))], []) := rfl
   simp only [la125o1, kk hi, kzj hi, kyj, e, ka, if_true, kc i (by omega)]
   cases h : nbB (byB s i)
   ·exact .inr ⟨rfl, rfl⟩
   ·exact .inl ⟨rfl, (_, _), rfl⟩) s.size 0 KK (SV.undef, SV.undef) (by omega) (by rw [kj]; omega)
 simp only [t125, ta125, kde, gz7, gz8, ka]
 rw [kim _ ((decide ((s.size : Int) ≥ 1) && decide ((s.size : Int) ≤ 8) && !(s.toList == (⟨#[46]⟩ : BA).toList)) && !(s.toList == (⟨#[46, 46]⟩ : BA).toList))]
 ·unfold kzd
  split
  ·rename_i h
   rw [h, bta]
   refine Eq.trans (key _ _) ?_
   split <;> (rename_i h2; simp only [h2, Bool.not_eq_true] at * <;> simp [h2])
  ·rename_i h
   rw [Bool.not_eq_true] at h
   rw [h, Bool.false_and]
 ·simp only [Bool.not_and, Bool.not_not, ge_iff_le]
theorem kyl (s : BA) (hs : s.size < 4611686018427387904) : t142 s = some ([.one (.b (kzd s))], []) := by
 have key := fun b7 B => kdd (σ := SV × SV × SV) (fun m i s' => la142o0 t63 t141 s b7 (s.size : Int) (fun _ _ _ => some ([.one (.b false)], [])) (fun _ _ _ _ => B) m s'.1 (i : Int) s'.2.1 s'.2.2) s.size (fun i => nbB (byB s i)) (some ([.one (.b false)], [])) B
  (by intro m s'; simp only [la142o0, kp, bft, if_false])
  (by
   intro i m s' hi
   have e : t141 (byB s i) = some ([.one (.b (nbB (byB s i)))], []) := rfl
   simp only [la142o0, kk hi, kzj hi, kyj, e, ka, if_true, kc i (by omega)]
   cases h : nbB (byB s i)
   ·exact .inr ⟨rfl, rfl⟩
   ·exact .inl ⟨rfl, (_, _, _), rfl⟩) s.size 0 KK (SV.undef, SV.undef, SV.undef) (by omega) (by rw [kj]; omega)
 refine Eq.trans (key _ _) ?_
 unfold kzd
 split
 ·rename_i h
  rw [h, bat]; rfl
 ·rename_i h
  rw [Bool.not_eq_true] at h
  rw [h, Bool.and_false]
theorem krl (s : BA) (hs : s.size < 4611686018427387904) : t124 s = some ([.one (.b (kpg s))], []) := by
 have key := fun b7 b9 => kdd (σ := SV × SV) (fun m i s' => la124o1 t57 t139 s b7 b9 (fun _ _ _ => some ([.one (.b false)], [])) (fun _ _ _ => some ([.one (.b true)], [])) m (i : Int) s'.1 s'.2) s.size (fun i => byB s i == 47 || nbB (byB s i)) (some ([.one (.b false)], [])) (some ([.one (.b true)], []))
  (by intro m s'; simp only [la124o1, kp, bft, if_false])
  (by
   intro i m s' hi
   have e : t139 (byB s i) = some ([.one (.b (nbB (byB s i)))], []) := rfl
   simp only [la124o1, kk hi, kzj hi, kyj, e, ka, if_true, kc i (by omega), bto, bne]
   cases h : nbB (byB s i) <;> cases h2 : byB s i == 47
   ·exact .inr ⟨rfl, rfl⟩
   ·exact .inl ⟨rfl, (_, _), rfl⟩
   ·exact .inl ⟨rfl, (_, _), rfl⟩
   ·exact .inl ⟨rfl, (_, _), rfl⟩) s.size 0 KK (SV.undef, SV.undef) (by omega) (by rw [kj]; omega)
 simp only [t124, ta124, kde, gz7, gz8, ka]
 rw [kim _ (decide ((s.size : Int) ≥ 1) && decide ((s.size : Int) ≤ 60)) rfl]
 unfold kpg
 split
 ·rename_i h
  rw [h, bta]
  refine Eq.trans (key _ _) ?_
  split <;> (rename_i h2; simp only [h2, Bool.not_eq_true] at * <;> simp [h2])
 ·rename_i h
  rw [Bool.not_eq_true] at h
  rw [h, Bool.false_and]
theorem ksl (s : BA) (hs : s.size < 4611686018427387904) : t130 s = some ([.one (.b (kpg s))], []) := by
 have key := fun b7 B => kdd (σ := SV × SV × SV) (fun m i s' => la130o0 t63 t141 s b7 (s.size : Int) (fun _ _ _ => some ([.one (.b false)], [])) (fun _ _ _ _ => B) m s'.1 (i : Int) s'.2.1 s'.2.2) s.size (fun i => byB s i == 47 || nbB (byB s i)) (some ([.one (.b false)], [])) B
  (by intro m s'; simp only [la130o0, kp, bft, if_false])
  (by
   intro i m s' hi
   have e : t141 (byB s i) = some ([.one (.b (nbB (byB s i)))], []) := rfl
   simp only [la130o0, kk hi, kzj hi, kyj, e, ka, if_true, kc i (by omega), bto, bne]
   cases h : nbB (byB s i) <;> cases h2 : byB s i == 47
   ·exact .inr ⟨rfl, rfl⟩
   ·exact .inl ⟨rfl, (_, _, _), rfl⟩
   ·exact .inl ⟨rfl, (_, _, _), rfl⟩
   ·exact .inl ⟨rfl, (_, _, _), rfl⟩) s.size 0 KK (SV.undef, SV.undef, SV.undef) (by omega) (by rw [kj]; omega)
 refine Eq.trans (key _ _) ?_
 unfold kpg
 split
 ·rename_i h
  rw [h, bat]; rfl
 ·rename_i h
  rw [Bool.not_eq_true] at h
  rw [h, Bool.and_false]
def nmsL (r : List D) : Rw := asL (nthD r 6)
def idI (r : List D) : Int := asI (nthD r 0)
def tgV (l : Rw) (id : Int) : List Int := match fnd l id with | some r => kjc (nmsL r) | none => []
def univ (l : Rw) : List Int := l.flatMap fun r => kjc (nmsL r)
structure Few (l : Rw) : Prop where
 n : l.length ≤ 24
 t : ∀ r ∈ l, typL ke r
 k : ∀ r ∈ l, (nmsL r).length ≤ 12
theorem kof {l : Rw} {id : Int} {r : List D} (h : fnd l id = some r) : r ∈ l ∧ idI r = id := by
 refine ⟨List.mem_of_find?_eq_some h, ?_⟩
 have := List.find?_some h
 simpa [idI] using this
theorem knf {r : List D} (h : typL ke r) : ∀ d ∈ nmsL r, typL kv d := by
 obtain ⟨x1, x2, x3, x4, x5, x6, x7, x8, x9, rfl, -, -, h⟩ := kqb h
 exact h
theorem kfm {l : Rw} {x d : Int} (h : d ∈ tgV l x) : d ∈ univ l := by
 unfold tgV at h
 split at h
 ·rename_i r hr
  exact List.mem_flatMap.2 ⟨r, (kof hr).1, h⟩
 ·cases h
theorem klh {l : Rw} (h : Few l) : (univ l).length ≤ 288 := by
 have : ∀ (l : Rw) (n : Nat), (∀ r ∈ l, (nmsL r).length ≤ 12) → l.length ≤ n → (univ l).length ≤ n * 12 := by
  intro l
  induction l with
  | nil => intro n _ _; simp [univ]
  | cons r l ih =>
   intro n hk hn
   obtain ⟨n, rfl⟩ : ∃ n', n = n' + 1 := ⟨n - 1, by simp at hn; omega⟩
   have h1 := ih n (fun r hr => hk r (by simp [hr])) (by simpa using hn)
   have h2 := hk r (by simp)
   simp only [univ, List.flatMap_cons, List.length_append, kjc, List.length_map] at h1 ⊢
   omega
 exact this l 24 h.k h.n
theorem kii {l : Rw} {s d : Int} (h : Vq.Reach (tgV l) s d) : d ∈ univ l := by
 cases h with
 | base h => exact kfm h
 | step _ h => exact kfm h
theorem kaj {l : Rw} (h : Few l) {s : Int} {o : List Int} {i : Nat} (hi : Vq.Inv (tgV l) s o i) : o.length ≤ (univ l).length := List.Nodup.length_le_of_subset hi.nd fun d hd => kii (hi.sound d hd)
theorem kjn (n1 : Int) (l : Rw) (hf : Few l) (s n0 : Int) (q1 : Int → SV → Bool → SV → SV → SV → SV → SV → SV → Rw → Rw → Rs) (h1 : ∀ a b c d e f g h i j k, q1 a b c d e f g h i j k = some ([.one (.l j)], [])) :
  ∀ (k i m : Nat) (a b c d e f g h : SV) (o : List Int), i + k = (univ l).length + 2 → k < m → Vq.Inv (tgV l) s o i → i ≤ o.length + 1 →
   ∃ o', Vq.Inv (tgV l) s o' (o'.length + 1) ∧ la100o0 t101 t132 n1 l n0 q1 m (i : Int) a b c d e f g h (ints o) (ints (s :: o)) = some ([.one (.l (ints o'))], []) := by
 intro k
 have hu := klh hf
 have hn := hf.n
 induction k with
 | zero =>
  intro i m a b c d e f g h o e1 hm hi hl
  have := kaj hf hi
  omega
 | succ k ih =>
  intro i m a b c d e f g h o e1 hm hi hl
  obtain ⟨m, rfl⟩ : ∃ m', m = m' + 1 := ⟨m - 1, by omega⟩
  have ho := kaj hf hi
  have hlen : (ints (s :: o)).length = o.length + 1 := by rw [kle]; simp
  by_cases hx : i < o.length + 1
  ·have hx' : i < (s :: o).length := by simpa using hx
   have hg : (ints (s :: o)).getD i [] = [D.i .i64 (s :: o)[i]] := krg hx'
   have hs : (s :: o)[i]? = some (s :: o)[i] := List.getElem?_eq_getElem hx'
   generalize (s :: o)[i] = x at hg hs
   have hnx := hi.next hs
   have e2 := kk (i := i) (n := (ints (s :: o)).length) (by omega)
   have e3 : (decide ((0 : Int) ≤ (i : Int)) && decide ((i : Int) < ((ints (s :: o)).length : Int))) = true := by rw [e2]; simp
   have e4 : (decide (1 ≤ ([D.i .i64 x] : List D).length) && isF z3 0 [D.i .i64 x]) = true := rfl
   have e5 : asI (nthD [D.i .i64 x] 0) = x := rfl
   have e6 := kmh n1 l x (by omega) hf.t
   have hw := kc i (by omega)
   cases hr : fnd l x with
   | none =>
    rw [hr] at e6
    have htg : tgV l x = [] := by simp [tgV, hr]
    rw [htg] at hnx
    have hnx : Vq.Inv (tgV l) s o (i + 1) := hnx
    have e7 : okR zr132 zo132 (some ([.one (.b (none : Option (List D)).isSome), .agg ((none : Option (List D)).getD [.i .i64 0, .i .i64 0, .i .i64 0, .i .i64 0, .i .i64 0, .s ⟨#[]⟩, .l [], .i .i64 0, .i .i64 0])], [])) = true := rfl
    have e8 : asB (resC (some ([.one (.b (none : Option (List D)).isSome), .agg ((none : Option (List D)).getD [.i .i64 0, .i .i64 0, .i .i64 0, .i .i64 0, .i .i64 0, .s ⟨#[]⟩, .l [], .i .i64 0, .i .i64 0])], [])) 0 0) = false := rfl
    simp only [la100o0, e2, e3, itn, hg, e4, e5, e6, e7, e8, ka, if_true, bnf, hw]
    exact ih (i + 1) m _ _ _ _ _ _ _ _ o (by omega) (by omega) hnx (by omega)
   | some r =>
    obtain ⟨hrm, hrid⟩ := kof hr
    obtain ⟨x1, x2, x3, x4, x5, x6, x7, x8, x9, er, -, -, ht⟩ := kqb (hf.t r hrm)
    have hk : x7.length ≤ 12 := by have := hf.k r hrm; rw [er] at this; exact this
    have htg : tgV l x = kjc x7 := by simp only [tgV, hr]; rw [er]; rfl
    rw [htg] at hnx
    rw [hr, er] at e6
    simp only [la100o0, e2, e3, itn, hg, e4, e5, e6, ka, if_true]
    obtain ⟨a', b', c', d', e9⟩ := ken n1 l n0 (i : Int) true false x7 ht (by omega) (fun (v0 : SV) (n2 : Int) (b0 : Bool) (v1 : SV) (l0 : Rw) (l1 : Rw) =>
     la100o0 t101 t132 n1 l n0 q1 m (w64 ((i : Int) + (1 : Int))) (keepV [704, 832] v0) (.d (.b true)) (.d (.b false)) (.d (.l x7)) (.d (.i .i64 (x7.length : Int))) (.d (.i .i64 n2)) (.d (.b b0)) (keepV [704, 832] v1) l0 l1) s x7.length 0 KK (SV.op true [.i .i64 x1, .i .i64 x2, .i .i64 x3, .i .i64 x4, .i .i64 x5, .s x6, .l x7, .i .i64 x8, .i .i64 x9]) g h o (by omega) (by rw [kj]; omega) (by omega)
    have hp : o.length ≤ (Vq.ins o (kjc x7)).length := (Vq.ins_pre (ds := kjc x7) (o := o)).length_le
    obtain ⟨o', hi', ho'⟩ := ih (i + 1) m (keepV [704, 832] a') (.d (.b true)) (.d (.b false)) (.d (.l x7)) (.d (.i .i64 (x7.length : Int))) (.d (.i .i64 b')) (.d (.b c')) (keepV [704, 832] d') (Vq.ins o (kjc x7)) (by omega) (by omega) hnx (by omega)
    refine ⟨o', hi', ?_⟩
    rw [← hw] at ho'
    exact Eq.trans e9 ho'
  ·refine ⟨o, ?_, ?_⟩
   ·rw [show o.length + 1 = i by omega]; exact hi
   ·have e2 : decide ((i : Int) < ((ints (s :: o)).length : Int)) = false := by simp; omega
    simp only [la100o0, e2, bft, if_false, h1]
theorem kqk (n1 : Int) (l : Rw) (hf : Few l) (s : Int) : ∃ o : List Int, o.Nodup ∧ o.length ≤ 288 ∧ (∀ d, d ∈ o ↔ Vq.Reach (tgV l) s d) ∧ t100 n1 l s = some ([.one (.l (ints o))], []) := by
 obtain ⟨o, hi, h⟩ := kjn n1 l hf s s (fun (n0 : Int) (v0 : SV) (b0 : Bool) (v1 : SV) (v2 : SV) (v3 : SV) (v4 : SV) (v5 : SV) (v6 : SV) (l0 : Rw) (l1 : Rw) => some ([.one (.l l0)], [])) (fun _ _ _ _ _ _ _ _ _ _ _ => rfl) ((univ l).length + 2) 0 KK SV.undef SV.undef SV.undef SV.undef SV.undef SV.undef SV.undef SV.undef [] (by omega) (by rw [kj]; have := klh hf; omega) Vq.Inv.start (by omega)
 exact ⟨o, hi.nd, Nat.le_trans (kaj hf hi) (klh hf), hi.last (Nat.le_refl _), h⟩
def plc : Rw → Int → Option Nat
 | [], _ => none
 | r :: l, id => if idI r == id then some 0 else (plc l id).map (· + 1)
def atI (l : Rw) (id : Int) : Int := match plc l id with | some i => (i : Int) | none => -1
theorem kyc : ∀ {l : Rw} {id : Int} {i : Nat}, plc l id = some i → i < l.length ∧ idI (l.getD i []) = id ∧ fnd l id = some (l.getD i [])
 | [], _, _, h => by simp [plc] at h
 | r :: l, id, i, h => by
  rw [plc] at h
  by_cases hq : (idI r == id) = true
  ·simp only [hq, if_true, Option.some.injEq] at h
   subst h
   refine ⟨by simp, by simpa using hq, ?_⟩
   have : (asI (nthD r 0) == id) = true := hq
   simp only [fnd, List.find?_cons, this, List.getD_cons_zero]
  ·simp only [hq, bft, if_false, Option.map_eq_some_iff] at h
   obtain ⟨j, hj, rfl⟩ := h
   obtain ⟨h1, h2, h3⟩ := kyc hj
   have hq' : (asI (nthD r 0) == id) = false := by simpa [idI] using hq
   refine ⟨by simp; omega, by simpa using h2, ?_⟩
   simp only [fnd, List.find?_cons, hq']
   rw [show List.find? (fun r => asI (nthD r 0) == id) l = fnd l id from rfl, h3]
   simp
theorem kjh : ∀ {l : Rw} {id : Int}, plc l id = none → fnd l id = none
 | [], _, _ => rfl
 | r :: l, id, h => by
  rw [plc] at h
  by_cases hq : (idI r == id) = true
  ·simp [hq] at h
  ·simp only [hq, bft, if_false, Option.map_eq_none_iff] at h
   have hq' : (asI (nthD r 0) == id) = false := by simpa [idI] using hq
   simp only [fnd, List.find?_cons, hq']
   exact kjh h
theorem kzf (l : Rw) (id : Int) : (plc l id).isSome = (fnd l id).isSome := by
 cases h : plc l id with
 | none => rw [kjh h]; rfl
 | some i => rw [(kyc h).2.2]; rfl
theorem kro {l : Rw} {id : Int} {i : Nat} (hi : i < l.length) : plc (l.drop i) id = if idI l[i] == id then some 0 else (plc (l.drop (i + 1)) id).map (· + 1) := by
 rw [List.drop_eq_getElem_cons hi, plc]
theorem ku : ∀ r, typL ke r → isRow z64 r = true := fun r h => by
 obtain ⟨x1, x2, x3, x4, x5, x6, x7, x8, x9, rfl, -⟩ := kqb h; rfl
theorem knc : ∀ r, typL kv r → isRow z129 r = true := fun r h => by
 obtain ⟨x1, x2, rfl, -⟩ := kqf h; rfl
theorem kdg {es : List Sh} {z : List D} {l : Rw} (h : ∀ r ∈ l, typL es r) (hz : ∀ r, typL es r → isRow z r = true) (i : Nat) (hi : i < l.length) : (decide ((0 : Int) ≤ (i : Int)) && decide ((i : Int) < (l.length : Int)) && isRow z (l.getD i [])) = true := by
 rw [kgc, kk hi, hz _ (kcc h hi)]; rfl
theorem kzb {es : List Sh} {z : List D} {l : Rw} (h : ∀ r ∈ l, typL es r) (hz : ∀ r, typL es r → isRow z r = true) (i : Nat) (hi : i < l.length) : (decide ((0 : Int) ≤ (i : Int)) && true && isRow z (l.getD i [])) = true := by
 rw [kgc, hz _ (kcc h hi)]; rfl
theorem kgd {es : List Sh} {z : List D} {l : Rw} (h : ∀ r ∈ l, typL es r) (hz : ∀ r, typL es r → isRow z r = true) (i : Nat) (hi : i < l.length) : (decide ((0 : Int) ≤ (i : Int)) && true && isRow z l[i]) = true := by
 rw [kgc, hz _ (h _ (List.getElem_mem hi))]; rfl
theorem kwm (n1 : Int) (l : Rw) (id : Int) (hl : l.length ≤ 1048576) (ht : ∀ r ∈ l, typL ke r) : t126 n1 l id = some ([.one (.i .i64 (atI l id))], []) := by
 refine kgb (α := Unit) (σ := SV × SV) (fun m i _ s' => l126o0 n1 l id 0 n1 l (fun n _ _ => some ([.one (.i .i64 n)], [])) (fun _ _ _ => some ([.one (.i .i64 (-1))], [])) m (i : Int) s'.1 s'.2) l.length (fun i _ => plc l id = (plc (l.drop i) id).map (· + i)) (fun x => x = some ([.one (.i .i64 (atI l id))], []))
  (by
   intro m a s' hp
   simp only [l126o0, kp, bft, if_false]
   simp only [List.drop_length, plc, Option.map_none] at hp
   simp only [atI, hp])
  (by
   intro i m a s' hi hp
   have hg : l.getD i [] = l[i] := klb hi
   simp only [l126o0, kk hi, itn, kgd ht ku i hi, ka, if_true, kc i (by omega), hg]
   rw [kro hi] at hp
   by_cases hq : (idI l[i] == id) = true
   ·right
    have hq' : (asI (nthD l[i] 0) == id) = true := hq
    simp only [hq', if_true]
    simp only [hq, if_true, Option.map_some, Nat.zero_add] at hp
    simp only [atI, hp]
   ·left
    have hq' : (asI (nthD l[i] 0) == id) = false := by simpa [idI] using hq
    simp only [hq', bft, if_false]
    refine ⟨(), (_, _), rfl, ?_⟩
    simp only [hq, bft, if_false, Option.map_map] at hp
    rw [hp]; congr 1; funext x; simp; omega) l.length 0 KK () (SV.undef, SV.undef) (by omega) (by rw [kj]; omega) (by simp)
def ko (f : Nat → Bool) (n : Nat) : Rw := (List.range n).map fun i => [D.b (f i)]
theorem kuc (f : Nat → Bool) (n : Nat) : (ko f n).length = n := by simp [ko]
theorem kph {f : Nat → Bool} {n i : Nat} (h : i < n) : (ko f n).getD i [] = [D.b (f i)] := by simp [ko, List.getD, h]
theorem kqn (n : Nat) : List.replicate n z4 = ko (fun _ => false) n := by
 apply List.ext_getElem
 ·simp [ko]
 ·intro i h1 h2; simp [ko, z4]
theorem khj {f : Nat → Bool} {n x : Nat} (h : x < n) : stR (ko f n) x 0 [.b true] = ko (Vq.updB f x) n := by
 apply List.ext_getElem
 ·simp [stR, ko]
 ·intro i h1 h2
  have hi : i < n := by simpa [stR, ko] using h1
  simp only [stR, ko, List.getElem_modify, List.getElem_map, List.getElem_range, Vq.updB]
  by_cases e : x = i
  ·subst e; simp
  ·simp only [e, if_false, show ¬ i = x from fun q => e q.symm]
theorem kbm {f g : Nat → Bool} {n : Nat} (h : ∀ i, i < n → f i = g i) : ko f n = ko g n := by
 unfold ko
 apply List.map_congr_left
 intro i hi
 rw [h i (List.mem_range.1 hi)]
def adjV (l : Rw) (i : Nat) : List Nat := (kjc (nmsL (l.getD i []))).filterMap (plc l)
theorem kcm {l : Rw} {i : Nat} : ∀ x ∈ adjV l i, x < l.length := by
 intro x hx
 obtain ⟨d, -, hd⟩ := List.mem_filterMap.1 hx
 exact (kyc hd).1
theorem gz9 : ∀ y, okR zr126 zo126 (some ([.one (.i .i64 y)], [])) = true := fun _ => id rfl
theorem gz10 : ∀ y, asI (resC (some ([.one (.i .i64 y)], [])) 0 0) = y := fun _ => id rfl
theorem kgp (n1 : Int) (l0 : Rw) (n2 n3 n4 : Int) (b0 b1 b2 b3 : Bool) (n0 : Int) (l : Rw) (hl : l.length ≤ 1048576) (ht : ∀ r ∈ l, typL ke r) (i : Nat) (hi : i < l.length) (hk : (nmsL (l.getD i [])).length ≤ 1048576) (q1 : Int → SV → Bool → SV → Rw → Rw → Rs) (p : Vq.BB) (v w x : SV) :
  ∃ a b c d, la92o6 t126 n1 l0 n2 n3 n4 (i : Int) b0 b1 b2 b3 n0 l q1 KK 0 v w x (ko p.2 l.length) (ko p.1 l.length) = q1 a b c d (ko (Vq.nmB p (adjV l i)).2 l.length) (ko (Vq.nmB p (adjV l i)).1 l.length) := by
 have hri := kdg ht ku i hi
 refine kgb (α := Vq.BB) (σ := SV × SV × SV) (fun m j p s' => la92o6 t126 n1 l0 n2 n3 n4 (i : Int) b0 b1 b2 b3 n0 l q1 m (j : Int) s'.1 s'.2.1 s'.2.2 (ko p.2 l.length) (ko p.1 l.length)) (nmsL (l.getD i [])).length (fun j p' => p' = Vq.nmB p ((kjc ((nmsL (l.getD i [])).take j)).filterMap (plc l))) (fun y => ∃ a b c d, y = q1 a b c d (ko (Vq.nmB p (adjV l i)).2 l.length) (ko (Vq.nmB p (adjV l i)).1 l.length))
  ?_ ?_ (nmsL (l.getD i [])).length 0 KK p (v, w, x) (by omega) (by rw [kj]; omega) (by simp [kjc, Vq.nmB])
 ·intro m p' s' hp
  rw [List.take_length] at hp
  have e : decide (((nmsL (l.getD i [])).length : Int) < ((asL (nthD (l.getD i []) 6)).length : Int)) = false := kp _
  simp only [la92o6, itn, hri, e, ka, bft, if_false, hp]
  exact ⟨_, _, _, _, rfl⟩
 ·intro j m p' s' hj hp
  left
  have e : decide ((j : Int) < ((asL (nthD (l.getD i []) 6)).length : Int)) = true := kk hj
  have hrj := kgd (knf (kcc ht hi)) knc j hj
  have hg : (asL (nthD (l.getD i []) 6)).getD j [] = (nmsL (l.getD i []))[j] := klb hj
  have ht1 : (kjc ((nmsL (l.getD i [])).take (j + 1))).filterMap (plc l) = (kjc ((nmsL (l.getD i [])).take j)).filterMap (plc l) ++ [asI (nthD (nmsL (l.getD i []))[j] 1)].filterMap (plc l) := by
   rw [List.take_succ_eq_append_getElem hj]; simp only [kjc, List.map_append, List.filterMap_append, List.map_cons, List.map_nil]; rfl
  simp only [la92o6, itn, hri, e, hg, hrj, kwm n0 l _ hl ht, gz9, gz10, ka, if_true, kc j (by omega)]
  cases hq : plc l (asI (nthD (nmsL (l.getD i []))[j] 1)) with
  | none =>
   have h1 : atI l (asI (nthD (nmsL (l.getD i []))[j] 1)) = -1 := by simp only [atI, hq]
   have m1 : decide ((-1 : Int) ≥ 0) = false := rfl
   simp only [h1, m1, bft, if_false]
   refine ⟨p', (_, _, _), rfl, ?_⟩
   rw [ht1, hp]; simp only [List.filterMap_cons, hq, List.filterMap_nil, List.append_nil]
  | some y =>
   have h1 : atI l (asI (nthD (nmsL (l.getD i []))[j] 1)) = (y : Int) := by simp only [atI, hq]
   have hy := (kyc hq).1
   simp only [h1]
   have a1 : decide ((y : Int) ≥ 0) = true := by simp
   have a2 : ∀ f, decide ((y : Int) < ((ko f l.length).length : Int)) = true := by intro f; rw [kuc, kk hy]
   have a3 : ∀ f, decide (1 ≤ 1 ∧ y < (ko f l.length).length) = true := by intro f; rw [kuc]; simpa using hy
   simp only [a1, kgc, a2, a3, bat, if_true, ka, itn, khj hy]
   refine ⟨Vq.setB p' y, (_, _, _), rfl, ?_⟩
   rw [ht1, hp]; simp only [List.filterMap_cons, hq, List.filterMap_nil, Vq.nmB, List.foldl_append, List.foldl_cons, List.foldl_nil]
theorem kmp (n1 : Int) (l0 : Rw) (n0 n2 n3 : Int) (b0 b1 : Bool) (n4 : Int) (l : Rw) (hl : l.length ≤ 1048576) (ht : ∀ r ∈ l, typL ke r) (hk : ∀ r ∈ l, (nmsL r).length ≤ 1048576) (q1 : Int → SV → SV → Bool → SV → SV → SV → Rw → Rw → Rs) (p : Vq.BB) (s : SV × SV × SV × SV × SV × SV) :
  ∃ a b c d e f g, la92o3 t126 n1 l0 n0 n2 n3 b0 b1 n4 l q1 KK 0 s.1 s.2.1 s.2.2.1 s.2.2.2.1 s.2.2.2.2.1 s.2.2.2.2.2 (ko p.2 l.length) (ko p.1 l.length) = q1 a b c d e f g (ko (Vq.rdB (adjV l) l.length p).2 l.length) (ko (Vq.rdB (adjV l) l.length p).1 l.length) := by
 refine kgb (α := Vq.BB) (σ := SV × SV × SV × SV × SV × SV) (fun m j p s => la92o3 t126 n1 l0 n0 n2 n3 b0 b1 n4 l q1 m (j : Int) s.1 s.2.1 s.2.2.1 s.2.2.2.1 s.2.2.2.2.1 s.2.2.2.2.2 (ko p.2 l.length) (ko p.1 l.length)) l.length (fun j p' => p' = (List.range j).foldl (Vq.plB (adjV l)) p) (fun y => ∃ a b c d e f g, y = q1 a b c d e f g (ko (Vq.rdB (adjV l) l.length p).2 l.length) (ko (Vq.rdB (adjV l) l.length p).1 l.length))
  ?_ ?_ l.length 0 KK p s (by omega) (by rw [kj]; omega) (by simp)
 ·intro m p' s' hp
  have e := kp l.length
  simp only [la92o3, e, bft, if_false, hp]
  exact ⟨_, _, _, _, _, _, _, rfl⟩
 ·intro j m p' s' hj hp
  left
  have a2 : (decide ((0 : Int) ≤ (j : Int)) && decide ((j : Int) < ((ko p'.1 l.length).length : Int))) = true := by rw [kuc, kgc, kk hj]; rfl
  have a4 : (decide (1 ≤ ([D.b (p'.1 j)] : List D).length) && isF z4 0 [D.b (p'.1 j)]) = true := rfl
  have a5 : asB (nthD [D.b (p'.1 j)] 0) = p'.1 j := rfl
  have hfold : (List.range (j + 1)).foldl (Vq.plB (adjV l)) p = Vq.plB (adjV l) p' j := by rw [List.range_succ, List.foldl_append, hp]; rfl
  simp only [la92o3, kk hj, a2, itn, kph hj, a4, a5, ka, if_true, kc j (by omega)]
  cases ho : p'.1 j with
  | false =>
   simp only [bnf, if_true]
   refine ⟨p', (_, _, _, _, _, _), rfl, ?_⟩
   rw [hfold, Vq.plB, ho]; rfl
  | true =>
   simp only [bnt, bft, if_false]
   obtain ⟨a, b, c, d, he⟩ := kgp n1 l0 n0 n2 n3 b0 b1 true false n4 l hl ht j hj (hk _ (knb hj)) (fun (n5 : Int) (v0 : SV) (b2 : Bool) (v1 : SV) (l1 : Rw) (l2 : Rw) =>
    la92o3 t126 n1 l0 n0 n2 n3 b0 b1 n4 l q1 m ((j + 1 : Nat) : Int) (.d (.i .i64 n5)) (keepV [128, 960, 1216] v0) (.d (.b true)) (.d (.b false)) (.d (.b b2)) (keepV [128, 960, 1216] v1) l1 l2) p' s'.2.1 s'.2.2.2.2.1 s'.2.2.2.2.2
   refine ⟨Vq.nmB p' (adjV l j), (_, _, _, _, _, _), he, ?_⟩
   rw [hfold, Vq.plB, ho]; rfl
theorem kip (n1 : Int) (l0 : Rw) (n0 n2 : Int) (b0 : Bool) (n3 : Int) (l : Rw) (hl : l.length ≤ 1048576) (ht : ∀ r ∈ l, typL ke r) (hk : ∀ r ∈ l, (nmsL r).length ≤ 1048576) (q1 : Int → SV → SV → SV → Bool → SV → SV → SV → SV → Rw → Rw → Rs) (h1 : ∀ a b c d e f g h i j k, q1 a b c d e f g h i j k = some ([.one (.l j)], [])) (p : Vq.BB) (s : SV × SV × SV × SV × SV × SV × SV × SV) :
    la92o1 t126 n1 l0 n0 n2 b0 n3 l q1 KK 0 s.1 s.2.1 s.2.2.1 s.2.2.2.1 s.2.2.2.2.1 s.2.2.2.2.2.1 s.2.2.2.2.2.2.1 s.2.2.2.2.2.2.2 (ko p.2 l.length) (ko p.1 l.length) = some ([.one (.l (ko (Vq.itB (adjV l) l.length l.length p).2 l.length))], []) := by
  refine kgb (α := Vq.BB) (σ := SV × SV × SV × SV × SV × SV × SV × SV) (fun m j p s => la92o1 t126 n1 l0 n0 n2 b0 n3 l q1 m (j : Int) s.1 s.2.1 s.2.2.1 s.2.2.2.1 s.2.2.2.2.1 s.2.2.2.2.2.1 s.2.2.2.2.2.2.1 s.2.2.2.2.2.2.2 (ko p.2 l.length) (ko p.1 l.length)) l.length (fun j p' => p' = Vq.itB (adjV l) l.length j p) (fun y => y = some ([.one (.l (ko (Vq.itB (adjV l) l.length l.length p).2 l.length))], []))
    ?_ ?_ l.length 0 KK p s (by omega) (by rw [kj]; omega) rfl
  · intro m p' s' hp
    simp only [la92o1, kp, bft, if_false, hp, h1]
  · intro j m p' s' hj hp
    left
    simp only [la92o1, kk hj, if_true, kc j (by omega)]
    obtain ⟨a, b, c, d, e, f, g, he⟩ := kmp n1 l0 n0 n2 (j : Int) b0 true n3 l hl ht hk (fun (n4 : Int) (v0 : SV) (v1 : SV) (b1 : Bool) (v2 : SV) (v3 : SV) (v4 : SV) (l1 : Rw) (l2 : Rw) =>
       la92o1 t126 n1 l0 n0 n2 b0 n3 l q1 m ((j + 1 : Nat) : Int) (.d (.i .i64 n4)) (keepV [128, 960, 1216] v0) (keepV [128, 960, 1216] v1) (.d (.b true)) (.d (.b b1)) (keepV [128, 960, 1216] v2) (keepV [128, 960, 1216] v3) (keepV [128, 960, 1216] v4) l1 l2) p' (s'.2.1, s'.2.2.1, s'.2.2.2.2.1, s'.2.2.2.2.2.1, s'.2.2.2.2.2.2.1, s'.2.2.2.2.2.2.2)
    exact ⟨Vq.rdB (adjV l) l.length p', (_, _, _, _, _, _, _, _), he, by rw [hp]; rfl⟩
structure GoodV (l : Rw) : Prop extends Few l where
 up : ∀ i j, i < j → j < l.length → idI (l.getD i []) < idI (l.getD j [])
 all : ∀ r ∈ l, ∀ d ∈ kjc (nmsL r), (fnd l d).isSome = true
 dat : ∀ r ∈ l, (asS (nthD r 5)).size ≤ 64
 pln : ∀ r ∈ l, asI (nthD r 1) ≠ 2 → asI (nthD r 7) = 0 ∧ asI (nthD r 8) = 0
theorem GoodV.inj {l : Rw} (h : GoodV l) : ∀ i j, i < l.length → j < l.length → idI (l.getD i []) = idI (l.getD j []) → i = j := by
 intro i j hi hj e
 rcases Nat.lt_trichotomy i j with g | g | g
 ·have := h.up i j g hj; omega
 ·exact g
 ·have := h.up j i g hi; omega
theorem GoodV.place {l : Rw} (h : GoodV l) {i : Nat} (hi : i < l.length) : plc l (idI (l.getD i [])) = some i := by
 cases hq : plc l (idI (l.getD i [])) with
 | none =>
  have := kjh hq
  have h2 : (fnd l (idI (l.getD i []))).isSome = true := by
   unfold fnd; rw [List.find?_isSome]; exact ⟨_, knb hi, by simp [idI]⟩
  rw [this] at h2; simp at h2
 | some j =>
  obtain ⟨h1, h2, -⟩ := kyc hq
  rw [h.inj j i h1 hi h2]
theorem GoodV.found {l : Rw} (h : GoodV l) {i : Nat} (hi : i < l.length) : fnd l (idI (l.getD i [])) = some (l.getD i []) := (kyc (h.place hi)).2.2
theorem GoodV.adj {l : Rw} (h : GoodV l) : ∀ i, i < l.length → ∀ d, d ∈ tgV l (idI (l.getD i [])) ↔ ∃ x ∈ adjV l i, idI (l.getD x []) = d := by
 intro i hi d
 simp only [tgV, h.found hi]
 constructor
 ·intro hd
  have := h.all _ (knb hi) d hd
  rw [← kzf, Option.isSome_iff_exists] at this
  obtain ⟨x, hx⟩ := this
  exact ⟨x, List.mem_filterMap.2 ⟨d, hd, hx⟩, (kyc hx).2.1⟩
 ·rintro ⟨x, hx, e⟩
  obtain ⟨d', hd, hx⟩ := List.mem_filterMap.1 hx
  rw [(kyc hx).2.1] at e
  exact e ▸ hd
open Classical in
theorem kth (n1 : Int) (l : Rw) (h : GoodV l) (i : Nat) (hi : i < l.length) : t92 n1 l (idI (l.getD i [])) = some ([.one (.l (ko (fun x => decide (Vq.Reach (tgV l) (idI (l.getD i [])) (idI (l.getD x [])))) l.length))], []) := by
 have hn := h.n
 have hl : l.length ≤ 1048576 := by omega
 have e1 : decide (0 ≤ (l.length : Int) ∧ (l.length : Int) ≤ lim ∧ True) = true := by unfold lim; simp; omega
 have e2 : atI l (idI (l.getD i [])) = (i : Int) := by simp only [atI, h.place hi]
 have e3 : decide ((i : Int) < 0) = false := by simp
 have a2 : ∀ f, (decide ((0 : Int) ≤ (i : Int)) && decide ((i : Int) < ((ko f l.length).length : Int))) = true := by intro f; rw [kuc, kgc, kk hi]; rfl
 have a3 : ∀ f, decide (1 ≤ 1 ∧ i < (ko f l.length).length) = true := by intro f; rw [kuc]; simpa using hi
 simp only [t92, ta92, kwm n1 l _ hl h.t, gz9, gz10, e1, e2, e3, ka, bft, if_false, itn, kqn, a2, a3, khj hi]
 refine Eq.trans (kip n1 l (idI (l.getD i [])) (i : Int) false n1 l hl h.t (fun r hr => by have := h.k r hr; omega) _ (fun _ _ _ _ _ _ _ _ _ _ _ => rfl) (Vq.updB (fun _ => false) i, fun _ => false) (SV.undef, SV.undef, SV.undef, SV.undef, SV.undef, SV.undef, SV.undef, SV.undef)) ?_
 have : ko (Vq.itB (adjV l) l.length l.length (Vq.updB (fun _ => false) i, fun _ => false)).2 l.length = ko (fun x => decide (Vq.Reach (tgV l) (idI (l.getD i [])) (idI (l.getD x [])))) l.length := by
  apply kbm
  intro x hx
  rw [Bool.eq_iff_iff, Vq.itB_reach (fun i => kcm) hi, decide_eq_true_eq]
  exact Vq.reach_iff h.adj (fun i => kcm) h.inj hi x hx
 rw [this]
theorem kwg (a b : Nat) (h : a + b < 4611686018427387904) : w64 ((a : Int) + (b : Int)) = ((a + b : Nat) : Int) := by
 rw [ki _ (by omega)]; omega
theorem kcl {α : Type} {f : α → Nat} {c : Nat} : ∀ (l : List α), (∀ x ∈ l, f x ≤ c) → (l.map f).sum ≤ l.length * c
 | [], _ => by simp
 | x :: l, h => by
  have h1 := kcl l (fun x hx => h x (by simp [hx]))
  have h2 := h x (by simp)
  simp only [List.map_cons, List.sum_cons, List.length_cons, Nat.add_mul]; omega
theorem kaf {α : Type} (f : α → Nat) {l : List α} {i : Nat} (hi : i < l.length) : ((l.take (i + 1)).map f).sum = ((l.take i).map f).sum + f l[i] := by
 rw [List.take_succ_eq_append_getElem hi, List.map_append, List.sum_append_nat]; simp
theorem kud {α : Type} {f : α → Nat} {c : Nat} {l : List α} (h : ∀ x ∈ l, f x ≤ c) {i n : Nat} (hn : l.length ≤ n) : ((l.take i).map f).sum ≤ n * c := by
 refine Nat.le_trans (kcl _ fun x hx => h x (List.mem_of_mem_take hx)) ?_
 exact Nat.mul_le_mul_right _ (by simp; omega)
def datN (r : List D) : Nat := (asS (nthD r 5)).size
open Classical in
noncomputable def blw (l : Rw) (s : Int) (n : Nat) : List Nat := (List.range n).filter fun x => decide (Vq.Reach (tgV l) s (idI (l.getD x [])))
noncomputable def usB (l : Rw) (s : Int) : Nat := ((blw l s l.length).map fun x => datN (l.getD x [])).sum
noncomputable def usN (l : Rw) (s : Int) : Nat := (blw l s l.length).length
theorem gz11 : ∀ y, okR zr100 zo100 (some ([.one (.l y)], [])) = true := fun _ => id rfl
theorem gz12 : ∀ y, asL (resC (some ([.one (.l y)], [])) 0 0) = y := fun _ => id rfl
theorem gz13 : ∀ b r, asB (resC (some ([.one (.b b), .agg r], [])) 0 0) = b := fun _ _ => id rfl
theorem kum (n1 : Int) (l : Rw) (h : GoodV l) (s : Int) : t135 n1 l s = some ([.one (.i .i64 (usB l s)), .one (.i .i64 (usN l s))], []) := by
 obtain ⟨o, hnd, hlen, hmem, hb⟩ := kqk n1 l h.toFew s
 have hn := h.n
 let g : Int → Nat := fun x => match fnd l x with | some r => datN r | none => 0
 have hg : ∀ x ∈ o, g x ≤ 64 := by
  intro x hx
  simp only [g]
  cases hq : fnd l x with
  | none => simp
  | some r => exact h.dat r (kof hq).1
 have hperm : o.Perm ((blw l s l.length).map fun x => idI (l.getD x [])) := by
  refine Vq.perm_of hnd ?_ ?_
  ·unfold blw List.Nodup
   rw [List.pairwise_map]
   refine List.Pairwise.imp_of_mem ?_ (List.nodup_range.filter _ : List.Pairwise _ _)
   intro a b ha hb2 hab e
   exact hab (h.inj a b (List.mem_range.1 (List.mem_filter.1 ha).1) (List.mem_range.1 (List.mem_filter.1 hb2).1) e)
  ·intro a
   rw [hmem]
   simp only [List.mem_map, blw, List.mem_filter, List.mem_range, decide_eq_true_eq]
   constructor
   ·intro hr
    have hu := kii hr
    obtain ⟨r, hr1, hr2⟩ := List.mem_flatMap.1 hu
    have := h.all r hr1 a hr2
    rw [← kzf, Option.isSome_iff_exists] at this
    obtain ⟨x, hx⟩ := this
    obtain ⟨h1, h2, -⟩ := kyc hx
    exact ⟨x, ⟨h1, by rw [h2]; exact hr⟩, h2⟩
   ·rintro ⟨x, ⟨_, h2⟩, rfl⟩; exact h2
 have hsum : (o.map g).sum = usB l s := by
  rw [(hperm.map g).sum_nat, List.map_map]
  unfold usB
  congr 1
  apply List.map_congr_left
  intro x hx
  have hx := List.mem_range.1 (List.mem_filter.1 hx).1
  simp only [Function.comp, g, h.found hx]
 have hl2 : o.length = usN l s := by rw [hperm.length_eq, List.length_map]; rfl
 have hlo := kle o
 have ew2 : ∀ b r, (r = [.i .i64 0, .i .i64 0, .i .i64 0, .i .i64 0, .i .i64 0, .s ⟨#[]⟩, .l [], .i .i64 0, .i .i64 0] ∨ typL ke r) → okR zr132 zo132 (some ([.one (.b b), .agg r], [])) = true := by
  intro b r hr
  rcases hr with rfl | hr
  ·rfl
  ·obtain ⟨x1, x2, x3, x4, x5, x6, x7, x8, x9, rfl, -⟩ := kqb hr; rfl
 simp only [t135, ta135, hb, gz11, gz12, ka]
 refine kgb (α := Nat) (σ := SV × SV × SV × SV) (fun m i b s' => la135o0 t100 t132 n1 l s 0 0 ((ints o).length : Int) (ints o) (fun (n0 : Int) (v0 : SV) (v1 : SV) (n2 : Int) (b0 : Bool) (v2 : SV) => some ([.one (.i .i64 n0), .one (.i .i64 ((ints o).length : Int))], [])) m (b : Int) s'.1 s'.2.1 (i : Int) s'.2.2.1 s'.2.2.2) o.length (fun i b => b = ((o.take i).map g).sum) (fun y => y = some ([.one (.i .i64 (usB l s)), .one (.i .i64 (usN l s))], []))
  ?_ ?_ o.length 0 KK 0 (SV.undef, SV.undef, SV.undef, SV.undef) (by omega) (by rw [kj]; omega) (by simp)
 ·intro m b s' hp
  rw [List.take_length, hsum] at hp
  have e : decide ((o.length : Int) < ((ints o).length : Int)) = false := by rw [hlo]; simp
  simp only [la135o0, e, bft, if_false, hp]
  rw [hlo, hl2]
 ·intro i m b s' hi hp
  left
  have e : decide ((i : Int) < ((ints o).length : Int)) = true := by rw [hlo]; exact kk hi
  have hbl : b ≤ 288 * 64 := by rw [hp]; exact kud hg hlen
  have a4 : (decide (1 ≤ ([D.i .i64 o[i]] : List D).length) && isF z3 0 [D.i .i64 o[i]]) = true := rfl
  have a5 : asI (nthD [D.i .i64 o[i]] 0) = o[i] := rfl
  have hst := kaf g hi
  have hw := kc i (by omega)
  have e6 := kmh n1 l o[i] (by omega) h.t
  cases hq : fnd l o[i] with
  | none =>
   rw [hq] at e6
   have hg0 : g o[i] = 0 := by simp only [g, hq]
   simp only [la135o0, e, kgc, bat, itn, krg hi, a4, a5, e6, ew2 _ _ (.inl rfl), gz13, Option.isSome_none, Option.getD_none, ka, if_true, bnf, bnt, bft, if_false, hw]
   exact ⟨b, (_, _, _, _), rfl, by omega⟩
  | some r =>
   rw [hq] at e6
   have hr := (kof hq).1
   have hg0 : g o[i] = datN r := by simp only [g, hq]
   have hd := h.dat r hr
   have e7 : asS (resC (some ([.one (.b true), .agg r], [])) 1 5) = asS (nthD r 5) := by
    obtain ⟨x1, x2, x3, x4, x5, x6, x7, x8, x9, rfl, -⟩ := kqb (h.t r hr); rfl
   have hw2 : w64 ((b : Int) + ((asS (nthD r 5)).size : Int)) = ((b + datN r : Nat) : Int) := kwg b (datN r) (by unfold datN; omega)
   simp only [la135o0, e, kgc, bat, itn, krg hi, a4, a5, e6, ew2 _ _ (.inr (h.t r hr)), gz13, Option.isSome_some, Option.getD_some, ka, if_true, bnt, bnf, hw, e7, hw2]
   exact ⟨b + datN r, (_, _, _, _), rfl, by omega⟩
theorem gz14 : ∀ y, okR zr92 zo92 (some ([.one (.l y)], [])) = true := fun _ => id rfl
theorem gz15 : ∀ b, (decide (1 ≤ ([D.b b] : List D).length) && isF z4 0 [D.b b]) = true := fun _ => id rfl
theorem gz16 : ∀ b, asB (nthD [D.b b] 0) = b := fun _ => id rfl
theorem kkn (n1 : Int) (l : Rw) (h : GoodV l) (j : Nat) (hj : j < l.length) : t127 n1 l (idI (l.getD j [])) = some ([.one (.i .i64 (usB l (idI (l.getD j [])))), .one (.i .i64 (usN l (idI (l.getD j []))))], []) := by
 have hn := h.n
 have hb := kth n1 l h j hj
 generalize idI (l.getD j []) = s at hb ⊢
 simp only [t127, ta127, hb, gz14, gz12, ka]
 have hbl : ∀ i, i ≤ l.length → (blw l s i).length ≤ 24 ∧ ((blw l s i).map fun x => datN (l.getD x [])).sum ≤ 1536 := by
  intro i hi
  have h1 : (blw l s i).length ≤ 24 := by
   unfold blw
   have := List.length_filter_le (fun x => @decide (Vq.Reach (tgV l) s (idI (l.getD x []))) (Classical.propDecidable _)) (List.range i)
   simp only [List.length_range] at this
   omega
  refine ⟨h1, ?_⟩
  have := kcl (f := fun x => datN (l.getD x [])) (c := 64) (blw l s i) (fun x hx => by
   have hx := (List.mem_filter.1 hx).1
   exact h.dat _ (knb (by have := List.mem_range.1 hx; omega)))
  omega
 refine kgb (α := Nat × Nat) (σ := SV × SV) (fun m i b s' => la127o0 t92 n1 l s 0 0 n1 l (ko (fun x => @decide (Vq.Reach (tgV l) s (idI (l.getD x []))) (Classical.propDecidable _)) l.length) (fun (n0 : Int) (n2 : Int) (n3 : Int) (b0 : Bool) (v0 : SV) => some ([.one (.i .i64 n0), .one (.i .i64 n2)], [])) m (b.1 : Int) (b.2 : Int) (i : Int) s'.1 s'.2) l.length (fun i b => b.1 = ((blw l s i).map fun x => datN (l.getD x [])).sum ∧ b.2 = (blw l s i).length) (fun y => y = some ([.one (.i .i64 (usB l s)), .one (.i .i64 (usN l s))], []))
  ?_ ?_ l.length 0 KK (0, 0) (SV.undef, SV.undef) (by omega) (by rw [kj]; omega) (by simp [blw])
 ·intro m b s' hp
  have e : ∀ f, decide ((l.length : Int) < ((ko f l.length).length : Int)) = false := by intro f; rw [kuc]; simp
  simp only [la127o0, e, bft, if_false, hp.1, hp.2]
  rfl
 ·intro i m b s' hi hp
  left
  have e : ∀ f, decide ((i : Int) < ((ko f l.length).length : Int)) = true := by intro f; rw [kuc]; exact kk hi
  have hbb := hbl i (by omega)
  have hw := kc i (by omega)
  have hr := kdg h.t ku i hi
  have hd := h.dat _ (knb hi)
  have hst : blw l s (i + 1) = blw l s i ++ if @decide (Vq.Reach (tgV l) s (idI (l.getD i []))) (Classical.propDecidable _) = true then [i] else [] := by
   unfold blw; rw [List.range_succ, List.filter_append]
   congr 1
   simp only [List.filter_cons, List.filter_nil]
  simp only [la127o0, e, kgc, bat, itn, kph hi, gz15, gz16, ka, if_true, hw]
  cases hc : @decide (Vq.Reach (tgV l) s (idI (l.getD i []))) (Classical.propDecidable _) with
  | false =>
   rw [hc] at hst
   simp only [bft, if_false, List.append_nil] at hst ⊢
   exact ⟨b, (_, _), rfl, by rw [hst]; exact hp⟩
  | true =>
   rw [hc] at hst
   simp only [if_true] at hst ⊢
   have hw2 : w64 ((b.1 : Int) + ((asS (nthD (l.getD i []) 5)).size : Int)) = ((b.1 + datN (l.getD i []) : Nat) : Int) := kwg b.1 (datN (l.getD i [])) (by have hd' : datN (l.getD i []) ≤ 64 := hd; omega)
   have hw3 : w64 ((b.2 : Int) + 1) = ((b.2 + 1 : Nat) : Int) := kc _ (by omega)
   rw [kgc, bta] at hr
   simp only [bta, hr, ka, hw2, hw3]
   refine ⟨(b.1 + datN (l.getD i []), b.2 + 1), (_, _), rfl, ?_⟩
   rw [hst]
   simp only [List.map_append, List.sum_append_nat, List.map_cons, List.map_nil, List.sum_cons, List.sum_nil, List.length_append, List.length_cons, List.length_nil]
   omega
noncomputable def kxd (l : Rw) (r : List D) : Bool := ((decide (asI (nthD r 7) > (0 : Int))) && (decide ((usB l (idI r) : Int) > asI (nthD r 7)))) || ((decide (asI (nthD r 8) > (0 : Int))) && (decide ((usN l (idI r) : Int) > asI (nthD r 8))))
noncomputable def kae (l : Rw) : Bool := !allW (fun i => !kxd l (l.getD i [])) l.length 0
theorem gz17 : ∀ x y, okR zr135 zo135 (some ([.one (.i .i64 x), .one (.i .i64 y)], [])) = true := fun _ _ => id rfl
theorem kzn (n1 : Int) (l : Rw) (h : GoodV l) (a1 a2 a3 a4 a5 : Int) (s6 : BA) (l7 : Rw) (a8 a9 : Int) : t105 n1 l a1 a2 a3 a4 a5 s6 l7 a8 a9 = some ([.one (.b (kxd l [.i .i64 a1, .i .i64 a2, .i .i64 a3, .i .i64 a4, .i .i64 a5, .s s6, .l l7, .i .i64 a8, .i .i64 a9]))], []) := by
 simp only [t105, ta105, kum n1 l h, gz17, ka]
 rfl
theorem gz18 : ∀ x, okR zr105 zo105 (some ([.one (.b x)], [])) = true := fun _ => id rfl
theorem gz19 : ∀ x, okR zr134 zo134 (some ([.one (.i .i64 x)], [])) = true := fun _ => id rfl
theorem gz20 : ∀ x, asI (resC (some ([.one (.i .i64 x)], [])) 0 0) = x := fun _ => id rfl
theorem kbq (n1 : Int) (l : Rw) (h : GoodV l) : t104 l n1 l = some ([.one (.b (kae l))], []) := by
 have hn := h.n
 have key : ∃ z : Int, t134 l n1 l = some ([.one (.i .i64 z)], []) ∧ decide (z ≥ 0) = kae l := by
  refine kgb (α := Unit) (σ := SV × SV × SV) (fun m i _ s' => la134o0 t105 l n1 l 0 (l.length : Int) (fun (n0 : Int) (b0 : Bool) (b1 : Bool) => some ([.one (.i .i64 n0)], [])) (fun (v0 : SV) (n2 : Int) (b2 : Bool) (v1 : SV) => some ([.one (.i .i64 (-1 : Int))], [])) m s'.1 (i : Int) s'.2.1 s'.2.2) l.length (fun i _ => ∀ j, j < i → kxd l (l.getD j []) = false) (fun y => ∃ z : Int, y = some ([.one (.i .i64 z)], []) ∧ decide (z ≥ 0) = kae l)
   ?_ ?_ l.length 0 KK () (SV.undef, SV.undef, SV.undef) (by omega) (by rw [kj]; omega) (by intro j hj; omega)
  ·intro m _ s' hp
   simp only [la134o0, kp, bft, if_false]
   refine ⟨-1, rfl, ?_⟩
   have : allW (fun i => !kxd l (l.getD i [])) l.length 0 = true := (kwb _ _).2 (fun j _ hj => by simp only [hp j (by omega), bnf])
   simp only [kae, this]
   rfl
  ·intro i m _ s' hi hp
   have hr := kzb h.t ku i hi
   have hg := knb hi
   obtain ⟨x1, x2, x3, x4, x5, x6, x7, x8, x9, er, -⟩ := kqb (h.t _ hg)
   have ho := kzn n1 l h x1 x2 x3 x4 x5 x6 x7 x8 x9
   rw [← er] at ho
   have eo : t105 n1 l (asI (nthD (l.getD i []) 0)) (asI (nthD (l.getD i []) 1)) (asI (nthD (l.getD i []) 2)) (asI (nthD (l.getD i []) 3)) (asI (nthD (l.getD i []) 4)) (asS (nthD (l.getD i []) 5)) (asL (nthD (l.getD i []) 6)) (asI (nthD (l.getD i []) 7)) (asI (nthD (l.getD i []) 8)) = some ([.one (.b (kxd l (l.getD i [])))], []) := by
    rw [← ho, er]; rfl
   simp only [la134o0, kk hi, itn, hr, eo, gz18, gz8, ka, if_true, kc i (by omega)]
   cases hc : kxd l (l.getD i []) with
   | false =>
    left
    simp only [bft, if_false]
    refine ⟨(), (_, _, _), rfl, ?_⟩
    intro j hj
    by_cases e : j = i
    ·rw [e]; exact hc
    ·exact hp j (by omega)
   | true =>
    right
    simp only [if_true]
    refine ⟨i, rfl, ?_⟩
    have : allW (fun i => !kxd l (l.getD i [])) l.length 0 = false := by
     rw [Bool.eq_false_iff]
     intro hq
     have := (kwb _ _).1 hq i (by omega) (by omega)
     simp only [hc, bnt] at this
     cases this
    simp only [kae, this]
    simp
 obtain ⟨z, hz, hd⟩ := key
 simp only [t104, ta104, hz, gz19, gz20, ka, hd]
theorem gz21 : ∀ x y, okR zr127 zo127 (some ([.one (.i .i64 x), .one (.i .i64 y)], [])) = true := fun _ _ => id rfl
theorem gz22 : ∀ x y, asI (resC (some ([.one (.i .i64 x), .one (.i .i64 y)], [])) 0 0) = x := fun _ _ => id rfl
theorem gz23 : ∀ x y, asI (resC (some ([.one (.i .i64 x), .one (.i .i64 y)], [])) 1 0) = y := fun _ _ => id rfl
theorem keo (n1 : Int) (l : Rw) (h : GoodV l) : t95 n1 l = some ([.one (.b (kae l))], []) := by
 have hn := h.n
 have key := kdd (σ := SV × SV × SV × SV × SV) (fun m i s' => la95o0 t127 n1 l false n1 l (fun _ _ _ _ _ _ _ _ _ _ _ _ _ _ _ => some ([.one (.b true)], [])) (fun _ _ _ _ _ _ => some ([.one (.b false)], [])) m (i : Int) s'.1 s'.2.1 s'.2.2.1 s'.2.2.2.1 s'.2.2.2.2) l.length (fun i => !kxd l (l.getD i [])) (some ([.one (.b true)], [])) (some ([.one (.b false)], []))
  (by intro m s'; simp only [la95o0, kp, bft, if_false])
  (by
   intro i m s' hi
   have hr := kzb h.t ku i hi
   have hp := h.pln _ (knb hi)
   have hu := kkn n1 l h i hi
   have hu : t127 n1 l (asI (nthD (l.getD i []) 0)) = some ([.one (.i .i64 (usB l (idI (l.getD i [])))), .one (.i .i64 (usN l (idI (l.getD i []))))], []) := hu
   simp only [la95o0, kk hi, itn, hr, hu, gz21, gz22, gz23, ka, if_true, kc i (by omega)]
   by_cases hc : ((asI (nthD (l.getD i []) 1) != 2) || ((asI (nthD (l.getD i []) 7) == 0) && (asI (nthD (l.getD i []) 8) == 0))) = true
   ·left
    have hz : asI (nthD (l.getD i []) 7) = 0 ∧ asI (nthD (l.getD i []) 8) = 0 := by
     simp only [Bool.or_eq_true, Bool.and_eq_true, bne_iff_ne, beq_iff_eq] at hc
     rcases hc with hc | hc
     ·exact hp hc
     ·exact hc
    simp only [hc, if_true]
    refine ⟨?_, (_, _, _, _, _), rfl⟩
    simp only [kxd, hz.1, hz.2]
    simp
   ·rw [Bool.not_eq_true] at hc
    simp only [hc, bft, if_false]
    cases ho : kxd l (l.getD i []) with
    | true =>
     right
     have ho' := ho
     unfold kxd at ho'
     simp only [ho', if_true]
     exact ⟨rfl, trivial⟩
    | false =>
     left
     have ho' := ho
     unfold kxd at ho'
     simp only [ho', bft, if_false]
     exact ⟨rfl, (_, _, _, _, _), rfl⟩) l.length 0 KK (SV.undef, SV.undef, SV.undef, SV.undef, SV.undef) (by omega) (by rw [kj]; omega)
 refine Eq.trans key ?_
 unfold kae
 split
 ·rename_i hq; rw [hq]; rfl
 ·rename_i hq; rw [Bool.not_eq_true] at hq; rw [hq]; rfl
def cntN (id : Int) (r : List D) : Nat := ((nmsL r).filter fun e => idOf e == id).length
def nmdN (l : Rw) (id : Int) : Nat := (l.map (cntN id)).sum
def totN (l : Rw) : Nat := (l.map datN).sum
theorem kfo {l : Rw} (h : Few l) (id : Int) : ∀ r ∈ l, cntN id r ≤ 12 := by
 intro r hr
 have := h.k r hr
 have h2 := List.length_filter_le (fun e => idOf e == id) (nmsL r)
 unfold cntN; omega
theorem kol {id : Int} {L : Rw} {j : Nat} (hj : j < L.length) : ((L.take (j + 1)).filter fun e => idOf e == id).length = ((L.take j).filter fun e => idOf e == id).length + if idOf L[j] == id then 1 else 0 := by
 rw [List.take_succ_eq_append_getElem hj, List.filter_append, List.length_append]
 congr 1
 simp only [List.filter_cons, List.filter_nil]
 split <;> rfl
theorem kxm (n1 : Int) (l : Rw) (h : GoodV l) : t103 n1 l = some ([.one (.i .i64 (totN l))], []) := by
 have hn := h.n
 refine kgb (α := Nat) (σ := SV) (fun m i b s' => l103o0 n1 l 0 l (l.length : Int) (fun n0 _ _ => some ([.one (.i .i64 n0)], [])) m (b : Int) (i : Int) s') l.length (fun i b => b = ((l.take i).map datN).sum) (fun y => y = some ([.one (.i .i64 (totN l))], []))
  ?_ ?_ l.length 0 KK 0 SV.undef (by omega) (by rw [kj]; omega) (by simp)
 ·intro m b s' hp
  rw [List.take_length] at hp
  simp only [l103o0, kp, bft, if_false, hp]
  rfl
 ·intro i m b s' hi hp
  left
  have hr := kgd h.t ku i hi
  have hb : b ≤ 24 * 64 := by rw [hp]; exact kud h.dat hn
  have hd : datN l[i] ≤ 64 := h.dat _ (List.getElem_mem hi)
  have hw2 : w64 ((b : Int) + ((asS (nthD l[i] 5)).size : Int)) = ((b + datN l[i] : Nat) : Int) := kwg b (datN l[i]) (by omega)
  have hg : l.getD i [] = l[i] := klb hi
  simp only [l103o0, kk hi, itn, hg, hr, ka, if_true, kc i (by omega), hw2]
  exact ⟨_, _, rfl, by rw [kaf datN hi, hp]⟩
theorem kgn (n1 : Int) (l : Rw) (h : GoodV l) : t94 n1 l = some ([.one (.i .i64 (totN l))], []) := by
 have hn := h.n
 refine kgb (α := Nat) (σ := SV) (fun m i b s' => l94o0 n1 l 0 n1 l (fun n0 _ _ => some ([.one (.i .i64 n0)], [])) m (b : Int) (i : Int) s') l.length (fun i b => b = ((l.take i).map datN).sum) (fun y => y = some ([.one (.i .i64 (totN l))], []))
  ?_ ?_ l.length 0 KK 0 SV.undef (by omega) (by rw [kj]; omega) (by simp)
 ·intro m b s' hp
  rw [List.take_length] at hp
  simp only [l94o0, kp, bft, if_false, hp]
  rfl
 ·intro i m b s' hi hp
  left
  have hr := kgd h.t ku i hi
  have hb : b ≤ 24 * 64 := by rw [hp]; exact kud h.dat hn
  have hd : datN l[i] ≤ 64 := h.dat _ (List.getElem_mem hi)
  have hw2 : w64 ((b : Int) + ((asS (nthD l[i] 5)).size : Int)) = ((b + datN l[i] : Nat) : Int) := kwg b (datN l[i]) (by omega)
  have hg : l.getD i [] = l[i] := klb hi
  simp only [l94o0, kk hi, itn, hg, hr, ka, if_true, kc i (by omega), hw2]
  exact ⟨_, _, rfl, by rw [kaf datN hi, hp]⟩
theorem kcn (n1 : Int) (l : Rw) (h : GoodV l) (id : Int) : t102 n1 l id = some ([.one (.i .i64 (nmdN l id))], []) := by
 have hn := h.n
 refine kgb (α := Nat) (σ := SV × SV × SV × SV × SV × SV) (fun m i b s' => l102o0 n1 l id 0 l (l.length : Int) (fun n0 _ _ _ _ _ _ _ => some ([.one (.i .i64 n0)], [])) m (b : Int) (i : Int) s'.1 s'.2.1 s'.2.2.1 s'.2.2.2.1 s'.2.2.2.2.1 s'.2.2.2.2.2) l.length (fun i b => b = ((l.take i).map (cntN id)).sum) (fun y => y = some ([.one (.i .i64 (nmdN l id))], []))
  ?_ ?_ l.length 0 KK 0 (SV.undef, SV.undef, SV.undef, SV.undef, SV.undef, SV.undef) (by omega) (by rw [kj]; omega) (by simp)
 ·intro m b s' hp
  rw [List.take_length] at hp
  simp only [l102o0, kp, bft, if_false, hp]
  rfl
 ·intro i m b s' hi hp
  left
  have hr := kgd h.t ku i hi
  have hb : b ≤ 24 * 12 := by rw [hp]; exact kud (kfo h.toFew id) hn
  have hg : l.getD i [] = l[i] := klb hi
  have hk : (nmsL l[i]).length ≤ 12 := h.k _ (List.getElem_mem hi)
  simp only [l102o0, kk hi, itn, hg, hr, ka, if_true, kc i (by omega)]
  suffices hs : ∀ (q1 : Int → Int → Bool → SV → Rs) (n2 : Int) (l0 : Rw) (n3 n4 : Int) (b0 : Bool) (n5 n6 n7 n8 n9 : Int) (s0 : BA) (l1 : Rw) (n10 n11 : Int) (v w : SV), ∃ x y z, l102o2 n1 l id n2 l0 n3 n4 b0 (nmsL l[i]) ((nmsL l[i]).length : Int) n5 n6 n7 n8 n9 s0 l1 n10 n11 q1 KK (b : Int) 0 v w = q1 ((b + cntN id l[i] : Nat) : Int) x y z by
   obtain ⟨x, y, z, e⟩ := hs (fun (n12 : Int) (n13 : Int) (b1 : Bool) (v0 : SV) =>
    l102o0 n1 l id 0 l (l.length : Int) (fun n0 _ _ _ _ _ _ _ => some ([.one (.i .i64 n0)], [])) m n12 ((i + 1 : Nat) : Int) (.d (.b true)) (.d (.l (asL (nthD l[i] 6)))) (.d (.i .i64 ((asL (nthD l[i] 6)).length : Int))) (.d (.i .i64 n13)) (.d (.b b1)) (keepV [] v0)) 0 l (l.length : Int) (i : Int) true (asI (nthD l[i] 0)) (asI (nthD l[i] 1)) (asI (nthD l[i] 2)) (asI (nthD l[i] 3)) (asI (nthD l[i] 4)) (asS (nthD l[i] 5)) (asL (nthD l[i] 6)) (asI (nthD l[i] 7)) (asI (nthD l[i] 8)) s'.2.2.2.2.1 s'.2.2.2.2.2
   exact ⟨b + cntN id l[i], (_, _, _, _, _, _), e, by rw [kaf (cntN id) hi, hp]⟩
  intro q1 n2 l0 n3 n4 b0 n5 n6 n7 n8 n9 s0 l1 n10 n11 v w
  refine kgb (α := Nat) (σ := SV × SV) (fun m j c s' => l102o2 n1 l id n2 l0 n3 n4 b0 (nmsL l[i]) ((nmsL l[i]).length : Int) n5 n6 n7 n8 n9 s0 l1 n10 n11 q1 m (c : Int) (j : Int) s'.1 s'.2) (nmsL l[i]).length (fun j c => c = b + (((nmsL l[i]).take j).filter fun e => idOf e == id).length) (fun y => ∃ x' y' z', y = q1 ((b + cntN id l[i] : Nat) : Int) x' y' z')
   ?_ ?_ (nmsL l[i]).length 0 KK b (v, w) (by omega) (by rw [kj]; omega) (by simp)
  ·intro m c s' hc
   rw [List.take_length] at hc
   simp only [l102o2, kp, bft, if_false, hc]
   exact ⟨_, _, _, rfl⟩
  ·intro j m c s' hj hc
   left
   have hrj := kgd (knf (h.t _ (List.getElem_mem hi))) knc j hj
   have hgj : (nmsL l[i]).getD j [] = (nmsL l[i])[j] := klb hj
   have hcl : c ≤ 24 * 12 + 12 := by
    have := List.length_filter_le (fun e => idOf e == id) ((nmsL l[i]).take j)
    simp only [List.length_take] at this
    omega
   have hct := kol (id := id) hj
   simp only [l102o2, kk hj, itn, hgj, hrj, ka, if_true, kc j (by omega), kc c (by omega)]
   cases hq : (idOf (nmsL l[i])[j] == id) with
   | true =>
    have hq' : (asI (nthD (nmsL l[i])[j] 1) == id) = true := hq
    rw [hq] at hct
    simp only [hq', if_true] at hct ⊢
    exact ⟨c + 1, (_, _), rfl, by omega⟩
   | false =>
    have hq' : (asI (nthD (nmsL l[i])[j] 1) == id) = false := hq
    rw [hq] at hct
    simp only [hq', bft, if_false] at hct ⊢
    exact ⟨c, (_, _), rfl, by omega⟩
theorem kin (n1 : Int) (l : Rw) (h : GoodV l) (id : Int) : t93 n1 l id = some ([.one (.i .i64 (nmdN l id))], []) := by
  have hn := h.n
  refine kgb (α := Nat) (σ := SV × SV × SV × SV) (fun m i b s' => l93o0 n1 l id 0 n1 l (fun n0 _ _ _ _ _ => some ([.one (.i .i64 n0)], [])) m (b : Int) (i : Int) s'.1 s'.2.1 s'.2.2.1 s'.2.2.2) l.length (fun i b => b = ((l.take i).map (cntN id)).sum) (fun y => y = some ([.one (.i .i64 (nmdN l id))], []))
    ?_ ?_ l.length 0 KK 0 (SV.undef, SV.undef, SV.undef, SV.undef) (by omega) (by rw [kj]; omega) (by simp)
  · intro m b s' hp
    rw [List.take_length] at hp
    simp only [l93o0, kp, bft, if_false, hp]
    rfl
  · intro i m b s' hi hp
    left
    have hri := kdg h.t ku i hi
    have hb : b ≤ 24 * 12 := by rw [hp]; exact kud (kfo h.toFew id) hn
    have hg : l.getD i [] = l[i] := klb hi
    have hk : (nmsL l[i]).length ≤ 12 := h.k _ (List.getElem_mem hi)
    simp only [l93o0, kk hi, if_true, kc i (by omega)]
    suffices hs : ∀ (q1 : Int → Int → Bool → SV → Rs) (b0 : Bool) (v w : SV), ∃ x y z, l93o2 n1 l id 0 (i : Int) b0 n1 l q1 KK (b : Int) 0 v w = q1 ((b + cntN id l[i] : Nat) : Int) x y z by
      obtain ⟨x, y, z, e⟩ := hs (fun (n2 : Int) (n3 : Int) (b1 : Bool) (v0 : SV) =>
       l93o0 n1 l id 0 n1 l (fun n0 _ _ _ _ _ => some ([.one (.i .i64 n0)], [])) m n2 ((i + 1 : Nat) : Int) (.d (.i .i64 n3)) (.d (.b true)) (.d (.b b1)) (keepV [128] v0)) true s'.2.2.1 s'.2.2.2
      exact ⟨b + cntN id l[i], (_, _, _, _), e, by rw [kaf (cntN id) hi, hp]⟩
    intro q1 b0 v w
    refine kgb (α := Nat) (σ := SV × SV) (fun m j c s' => l93o2 n1 l id 0 (i : Int) b0 n1 l q1 m (c : Int) (j : Int) s'.1 s'.2) (nmsL l[i]).length (fun j c => c = b + (((nmsL l[i]).take j).filter fun e => idOf e == id).length) (fun y => ∃ x' y' z', y = q1 ((b + cntN id l[i] : Nat) : Int) x' y' z')
      ?_ ?_ (nmsL l[i]).length 0 KK b (v, w) (by omega) (by rw [kj]; omega) (by simp)
    · intro m c s' hc
      rw [List.take_length] at hc
      have e : decide (((nmsL l[i]).length : Int) < ((asL (nthD l[i] 6)).length : Int)) = false := kp _
      rw [hg] at hri
      simp only [l93o2, itn, hg, hri, e, ka, bft, if_false, hc]
      exact ⟨_, _, _, rfl⟩
    · intro j m c s' hj hc
      left
      have e : decide ((j : Int) < ((asL (nthD l[i] 6)).length : Int)) = true := kk hj
      have hrj := kgd (knf (h.t _ (List.getElem_mem hi))) knc j hj
      have hgj : (asL (nthD l[i] 6)).getD j [] = (nmsL l[i])[j] := klb hj
      have hcl : c ≤ 24 * 12 + 12 := by
        have := List.length_filter_le (fun e => idOf e == id) ((nmsL l[i]).take j)
        simp only [List.length_take] at this
        omega
      have hct := kol (id := id) hj
      rw [hg] at hri
      simp only [l93o2, itn, hg, hri, e, hgj, hrj, ka, if_true, kc j (by omega), kc c (by omega)]
      cases hq : (idOf (nmsL l[i])[j] == id) with
      | true =>
        have hq' : (asI (nthD (nmsL l[i])[j] 1) == id) = true := hq
        rw [hq] at hct
        simp only [hq', if_true] at hct ⊢
        exact ⟨c + 1, (_, _), rfl, by omega⟩
      | false =>
        have hq' : (asI (nthD (nmsL l[i])[j] 1) == id) = false := hq
        rw [hq] at hct
        simp only [hq', bft, if_false] at hct ⊢
        exact ⟨c, (_, _), rfl, by omega⟩
theorem ksc (j : Nat) (h : j < 4611686018427387904) : (w64 ((j : Int) - 1)).toNat = j - 1 := by
 rw [ki _ (by omega)]; omega
theorem krc {es : List Sh} {z : List D} {l : Rw} (h : ∀ r ∈ l, typL es r) (hz : ∀ r, typL es r → isRow z r = true) {j : Nat} (hj : j < l.length) (hl : l.length < 4611686018427387904) (c : Bool) :
  ((decide ((0 : Int) ≤ w64 ((j : Int) - 1)) && decide (w64 ((j : Int) - 1) < (l.length : Int)) && isRow z (l.getD (j - 1) [])) || !(c && decide ((j : Int) > 0))) = true := by
 by_cases h0 : j = 0
 ·subst h0
  have : decide (((0 : Nat) : Int) > 0) = false := rfl
  rw [this, Bool.and_false, bnf, bot]
 ·rw [ki _ (by omega), hz _ (kcc h (by omega)), decide_eq_true (by omega : (0 : Int) ≤ (j : Int) - 1), decide_eq_true (by omega : (j : Int) - 1 < (l.length : Int))]
  rfl
def rngB (a b c : Int) : Bool := decide (b ≤ a) && decide (a ≤ c)
def nmOk (l L : Rw) (j : Nat) : Bool :=
 kzd (asS (nthD (L.getD j []) 0)) && !(idOf (L.getD j []) == 1) && (fnd l (idOf (L.getD j []))).isSome && !(decide ((j : Int) > 0) && !(Op.bytesLess (asS (nthD (L.getD (j - 1) []) 0)).toList (asS (nthD (L.getD j []) 0)).toList))
theorem keh {L : Rw} (h : ∀ r ∈ L, szdL kv r) {j : Nat} (hj : j < L.length) : (asS (nthD (L.getD j []) 0)).size < 4611686018427387904 := by
 have h1 : (asS (nthD (L.getD j []) 0)).size ≤ 1048576 := (h _ (knb hj)).1
 omega
theorem gz24 : ∀ x, okR zr142 zo142 (some ([.one (.b x)], [])) = true := fun _ => id rfl
theorem gz25 : ∀ x r, asB (resC (some ([.one (.b x), .agg r], [])) 0 0) = x := fun _ _ => id rfl
theorem kgl (n1 : Int) (l : Rw) (hl : l.length ≤ 1048576) (ht : ∀ r ∈ l, typL ke r) (L : Rw) (hL : ∀ r ∈ L, typL kv r) (hZ : ∀ r ∈ L, szdL kv r) (hLl : L.length < 4611686018427387904) (a1 a2 a3 a4 a5 : Int) (s6 : BA) (a8 a9 : Int) :
  t131 n1 l a1 a2 a3 a4 a5 s6 L a8 a9 = some ([.one (.b (allW (nmOk l L) L.length 0 && decide ((L.length : Int) ≤ 12)))], []) := by
 have key := fun B => kdd (σ := SV × SV × SV) (fun m j s' => la131o0 t132 t142 n1 l a1 a2 a3 a4 a5 s6 L a8 a9 false L (L.length : Int) a1 a2 a3 a4 a5 s6 L a8 a9 (fun _ _ _ _ _ => some ([.one (.b false)], [])) (fun _ _ _ _ => B) m s'.1 (j : Int) s'.2.1 s'.2.2) L.length (nmOk l L) (some ([.one (.b false)], [])) B
  (by intro m s'; simp only [la131o0, kp, bft, if_false])
  (by
   intro j m s' hj
   have hr := kzb hL knc j hj
   have hn := kyl _ (keh hZ hj)
   have hi := kmh n1 l (asI (nthD (L.getD j []) 1)) hl ht
   have ew2 : okR zr132 zo132 (some ([.one (.b (fnd l (asI (nthD (L.getD j []) 1))).isSome), .agg ((fnd l (asI (nthD (L.getD j []) 1))).getD [.i .i64 0, .i .i64 0, .i .i64 0, .i .i64 0, .i .i64 0, .s ⟨#[]⟩, .l [], .i .i64 0, .i .i64 0])], [])) = true := by
    cases hq : fnd l (asI (nthD (L.getD j []) 1)) with
    | none => rfl
    | some r =>
     obtain ⟨x1, x2, x3, x4, x5, x6, x7, x8, x9, rfl, -⟩ := kqb (ht r (kof hq).1); rfl
   have hp := krc hL knc hj hLl
   simp only [la131o0, kk hj, itn, hr, hn, hi, gz24, gz8, ew2, gz25, bto, ksc j (by omega), hp, ka, if_true, kc j (by omega)]
   have hc : (((!kzd (asS (nthD (L.getD j []) 0)) || asI (nthD (L.getD j []) 1) == 1) || !(fnd l (asI (nthD (L.getD j []) 1))).isSome) || (decide ((j : Int) > 0) && !(Op.bytesLess (asS (nthD (L.getD (j - 1) []) 0)).toList (asS (nthD (L.getD j []) 0)).toList))) = !nmOk l L j := by
    show _ = !(kzd _ && !(asI (nthD (L.getD j []) 1) == 1) && (fnd l (asI (nthD (L.getD j []) 1))).isSome && !(_ && _))
    generalize kzd _ = a
    generalize (asI _ == 1) = b
    generalize (fnd l _).isSome = c
    generalize decide ((j : Int) > 0) = d
    generalize Op.bytesLess _ _ = e
    revert a b c d e; decide
   rw [hc]
   cases hq : nmOk l L j
   ·exact .inr ⟨rfl, rfl⟩
   ·exact .inl ⟨rfl, (_, _, _), rfl⟩) L.length 0 KK (SV.undef, SV.undef, SV.undef) (by omega) (by rw [kj]; omega)
 refine Eq.trans (key _) ?_
 cases allW (nmOk l L) L.length 0 <;> rfl
theorem kfp (l : Rw) (id : Int) : decide (atI l id < 0) = !(fnd l id).isSome := by
 rw [← kzf]
 unfold atI
 cases plc l id with
 | none => rfl
 | some i => simp
def emS (s : BA) : Bool := s.toList == (⟨#[]⟩ : BA).toList
def kte (l : Rw) (kd md ud gd : Int) (s : BA) (L : Rw) (mb mi : Int) : Bool :=
  ((rngB md 0 2047 && rngB ud 0 1000) && rngB gd 0 1000) &&
  (if kd = 2 then emS s && decide ((L.length : Int) ≤ 12) && rngB mb 0 400 && rngB mi 0 24 && allW (nmOk l L) L.length 0
   else ((decide ((L.length : Int) = 0) && mb == 0) && mi == 0) && (if kd = 1 then decide ((s.size : Int) ≤ 64) else if kd = 3 then kpg s && md == 511 else false))
theorem khp (n : Nat) : decide ((n : Int) > 0) = !decide ((n : Int) = 0) := by
 rw [Bool.eq_iff_iff]; simp; omega
theorem gz26 : ∀ x, okR zr63 zo63 (some ([.one (.b x)], [])) = true := fun _ => id rfl
theorem gz27 : ∀ x, okR zr131 zo131 (some ([.one (.b x)], [])) = true := fun _ => id rfl
theorem gz28 : ∀ x, okR zr130 zo130 (some ([.one (.b x)], [])) = true := fun _ => id rfl
theorem kjg (n1 : Int) (l : Rw) (hl : l.length ≤ 1048576) (ht : ∀ r ∈ l, typL ke r) (id kd md ud gd : Int) (s : BA) (hs : s.size < 4611686018427387904) (L : Rw) (hL : ∀ r ∈ L, typL kv r) (hZ : ∀ r ∈ L, szdL kv r) (hLl : L.length < 4611686018427387904) (mb mi : Int) :
  t99 n1 l id kd md ud gd s L mb mi = some ([.one (.b (kte l kd md ud gd s L mb mi))], []) := by
 have e1 : ∀ a b c, (decide (b ≤ a) && decide (a ≤ c)) = rngB a b c := fun _ _ _ => rfl
 simp only [t99, ta99, kvc, kgl n1 l hl ht L hL hZ hLl, ksl s hs, gz26, gz27, gz28, gz8, bto, ka, e1, kte, khp, bne]
 rw [show (s.toList == (⟨#[]⟩ : BA).toList) = emS s from rfl]
 generalize rngB md 0 2047 = g1
 generalize rngB ud 0 1000 = g2
 generalize rngB gd 0 1000 = g3
 generalize rngB mb 0 400 = g4
 generalize rngB mi 0 24 = g5
 generalize emS s = g6
 generalize allW _ _ _ = g7
 generalize decide ((L.length : Int) ≤ 12) = g8
 generalize decide ((L.length : Int) = 0) = g9
 generalize (mb == 0) = g10
 generalize (mi == 0) = g11
 by_cases h2 : kd = 2
 ·subst h2
  have c1 : ((2 : Int) == 1) = false := rfl
  have c2 : ((2 : Int) == 2) = true := rfl
  have c3 : ((2 : Int) == 3) = false := rfl
  simp only [c1, c2, c3, bnt, Bool.false_and, bft, if_false, if_true]
  cases g1 <;> cases g2 <;> cases g3 <;> simp
  rw [Bool.eq_iff_iff]; simp; constructor <;> (intro h; simp [h])
 ·have c2 : (kd == 2) = false := by simpa using h2
  simp only [c2, if_neg h2, bnf, bta, bft, if_false]
  by_cases h1 : kd = 1
  ·subst h1
   have c1 : ((1 : Int) == 1) = true := rfl
   simp only [c1, if_true]
   cases g1 <;> cases g2 <;> cases g3 <;> cases g9 <;> cases g10 <;> cases g11 <;> rfl
  ·have c1 : (kd == 1) = false := by simpa using h1
   simp only [c1, if_neg h1, bft, if_false]
   by_cases h3 : kd = 3
   ·subst h3
    have c3 : ((3 : Int) == 3) = true := rfl
    simp only [c3, if_true]
    cases g1 <;> cases g2 <;> cases g3 <;> cases g9 <;> cases g10 <;> cases g11 <;> rfl
   ·have c3 : (kd == 3) = false := by simpa using h3
    simp only [c3, if_neg h3, bft, if_false]
    cases g1 <;> cases g2 <;> cases g3 <;> cases g9 <;> cases g10 <;> cases g11 <;> rfl
theorem gz29 : ∀ x, okR zr125 zo125 (some ([.one (.b x)], [])) = true := fun _ => id rfl
theorem gz30 : ∀ x, okR zr126 zo126 (some ([.one (.i .i64 x)], [])) = true := fun _ => id rfl
theorem gz31 : ∀ x, okR zr124 zo124 (some ([.one (.b x)], [])) = true := fun _ => id rfl
theorem keg (n1 : Int) (l : Rw) (hl : l.length ≤ 1048576) (ht : ∀ r ∈ l, typL ke r) (id kd md ud gd : Int) (s : BA) (hs : s.size < 4611686018427387904) (L : Rw) (hL : ∀ r ∈ L, typL kv r) (hZ : ∀ r ∈ L, szdL kv r) (hLl : L.length < 4611686018427387904) (mb mi : Int) :
  t91 n1 l id kd md ud gd s L mb mi = some ([.one (.b (kte l kd md ud gd s L mb mi))], []) := by
 have key := fun b0 b6 b7 b9 b1 b2 b17' => kdd (σ := SV × SV) (fun m j s' => la91o5 t57 t124 t125 t126 n1 l id kd md ud gd s L mb mi b0 b6 b7 kd b9 b1 b2 b17' n1 l id kd md ud gd s L mb mi (fun _ _ _ _ _ => some ([.one (.b false)], [])) (fun _ _ _ => some ([.one (.b true)], [])) m (j : Int) s'.1 s'.2) L.length (nmOk l L) (some ([.one (.b false)], [])) (some ([.one (.b true)], []))
  (by intro m s'; simp only [la91o5, kp, bft, if_false])
  (by
   intro j m s' hj
   have hr := kzb hL knc j hj
   have hn := kzl _ (keh hZ hj)
   have hi := kwm n1 l (asI (nthD (L.getD j []) 1)) hl ht
   have hp := krc hL knc hj hLl
   simp only [la91o5, kk hj, itn, hr, hn, hi, gz29, gz8, gz30, gz20, bto, ksc j (by omega), hp, ka, if_true, kc j (by omega), kfp]
   have hc : ((((!kzd (asS (nthD (L.getD j []) 0))) || (decide ((j : Int) > 0) && !(Op.bytesLess (asS (nthD (L.getD (j - 1) []) 0)).toList (asS (nthD (L.getD j []) 0)).toList))) || asI (nthD (L.getD j []) 1) == 1) || !(fnd l (asI (nthD (L.getD j []) 1))).isSome) = !nmOk l L j := by
    show _ = !(kzd _ && !(asI (nthD (L.getD j []) 1) == 1) && (fnd l (asI (nthD (L.getD j []) 1))).isSome && !(_ && _))
    generalize kzd _ = a
    generalize (asI _ == 1) = b
    generalize (fnd l _).isSome = c
    generalize decide ((j : Int) > 0) = d
    generalize Op.bytesLess _ _ = e
    revert a b c d e; decide
   rw [hc]
   cases hq : nmOk l L j
   ·exact .inr ⟨rfl, rfl⟩
   ·exact .inl ⟨rfl, (_, _), rfl⟩) L.length 0 KK (SV.undef, SV.undef) (by omega) (by rw [kj]; omega)
 have e1 : ∀ a b c, (decide (b ≤ a) && decide (a ≤ c)) = rngB a b c := fun _ _ _ => rfl
 have e2 : decide ((L.length : Int) > 12) = !decide ((L.length : Int) ≤ 12) := by rw [Bool.eq_iff_iff]; simp
 have e3 : ((L.length : Int) == 0) = decide ((L.length : Int) = 0) := rfl
 simp only [t91, ta91, kde, krl s hs, gz7, gz31, gz8, bto, ka, e1, e2, e3, kte]
 rw [show (s.toList == (⟨#[]⟩ : BA).toList) = emS s from rfl]
 by_cases h2 : kd = 2
 ·subst h2
  have c1 : ((2 : Int) == 1) = false := rfl
  have c2 : ((2 : Int) == 2) = true := rfl
  have c3 : ((2 : Int) == 3) = false := rfl
  simp only [c1, c2, c3, bft, if_false, if_true]
  by_cases hg : ((rngB md 0 2047 && rngB ud 0 1000) && rngB gd 0 1000) = true
  ·rw [if_neg (by simp only [Bool.and_eq_true] at hg; simp [hg]), hg, bta]
   by_cases hh : (((emS s && decide ((L.length : Int) ≤ 12)) && rngB mb 0 400) && rngB mi 0 24) = true
   ·rw [if_neg (by simp only [Bool.and_eq_true] at hh; simp [hh]), hh, bta]
    refine Eq.trans (key _ _ _ _ _ _ _) ?_
    cases allW (nmOk l L) L.length 0 <;> rfl
   ·rw [if_pos (by
     generalize emS s = g1 at hh ⊢
     generalize decide ((L.length : Int) ≤ 12) = g2 at hh ⊢
     generalize rngB mb 0 400 = g3 at hh ⊢
     generalize rngB mi 0 24 = g4 at hh ⊢
     revert hh; revert g1 g2 g3 g4; decide)]
    rw [Bool.not_eq_true] at hh
    rw [hh, Bool.false_and]
  ·rw [if_pos (by
    generalize rngB md 0 2047 = g1 at hg ⊢
    generalize rngB ud 0 1000 = g2 at hg ⊢
    generalize rngB gd 0 1000 = g3 at hg ⊢
    revert hg; revert g1 g2 g3; decide)]
   rw [Bool.not_eq_true] at hg
   rw [hg, Bool.false_and]
 ·have c2 : (kd == 2) = false := by simpa using h2
  simp only [c2, if_neg h2, bft, if_false]
  generalize rngB md 0 2047 = g1
  generalize rngB ud 0 1000 = g2
  generalize rngB gd 0 1000 = g3
  generalize decide ((L.length : Int) = 0) = g9
  generalize (mb == 0) = g10
  generalize (mi == 0) = g11
  by_cases h1 : kd = 1
  ·subst h1
   have c1 : ((1 : Int) == 1) = true := rfl
   simp only [c1, if_true]
   cases g1 <;> cases g2 <;> cases g3 <;> cases g9 <;> cases g10 <;> cases g11 <;> rfl
  ·have c1 : (kd == 1) = false := by simpa using h1
   simp only [c1, if_neg h1, bft, if_false]
   by_cases h3 : kd = 3
   ·subst h3
    have c3 : ((3 : Int) == 3) = true := rfl
    simp only [c3, if_true]
    cases g1 <;> cases g2 <;> cases g3 <;> cases g9 <;> cases g10 <;> cases g11 <;> rfl
   ·have c3 : (kd == 3) = false := by simpa using h3
    simp only [c3, if_neg h3, bft, if_false]
    cases g1 <;> cases g2 <;> cases g3 <;> cases g9 <;> cases g10 <;> cases g11 <;> rfl
theorem kuh (f : Nat → Bool) : ∀ (k i : Nat), allW (fun j => f (j + 1)) k i = allW f k (i + 1)
 | 0, _ => rfl
 | k + 1, i => by rw [allW, allW, kuh f k (i + 1)]
def rowB (l : Rw) (r : List D) : Bool := kte l (asI (nthD r 1)) (asI (nthD r 2)) (asI (nthD r 3)) (asI (nthD r 4)) (asS (nthD r 5)) (nmsL r) (asI (nthD r 7)) (asI (nthD r 8))
def frsB (n1 : Int) (l : Rw) (i : Nat) : Bool :=
 rngB (idI (l.getD i [])) 1 (w64 (n1 - 1)) && !(decide ((i : Int) > 0) && decide (idI (l.getD (i - 1) []) ≥ idI (l.getD i []))) && rowB l (l.getD i [])
open Classical in
noncomputable def sndB (l : Rw) (i : Nat) : Bool :=
 decide (Vq.Reach (tgV l) 1 (idI (l.getD i []))) && !((asI (nthD (l.getD i []) 1) == 2) && ((nmdN l (idI (l.getD i [])) : Int) != 1))
noncomputable def volB (n1 : Int) (l : Rw) : Bool :=
 ((rngB n1 2 100000 && rngB (l.length : Int) 1 24) && (idI (l.getD 0 []) == 1 && asI (nthD (l.getD 0 []) 1) == 2)) &&
 (allW (frsB n1 l) l.length 0 && (allW (sndB l) (l.length - 1) 1 && (decide ((totN l : Int) ≤ 400) && !kae l)))
theorem kxg {l : Rw} (ht : ∀ r ∈ l, typL ke r) (hz : ∀ r ∈ l, szdL ke r) {r : List D} (hr : r ∈ l) :
  (asS (nthD r 5)).size < 4611686018427387904 ∧ (nmsL r).length < 4611686018427387904 ∧ (∀ e ∈ nmsL r, typL kv e) ∧ (∀ e ∈ nmsL r, szdL kv e) := by
 have h1 := hz r hr
 have h2 := knf (ht r hr)
 obtain ⟨x1, x2, x3, x4, x5, x6, x7, x8, x9, rfl, -⟩ := kqb (ht r hr)
 obtain ⟨-, -, -, -, -, h5, ⟨h6, h7⟩, -⟩ := h1
 have h5 : x6.size ≤ 1048576 := h5
 have h6 : x7.length ≤ 1048576 := h6
 exact ⟨by show x6.size < _; omega, by show x7.length < _; omega, h2, h7⟩
theorem kri {n1 : Int} {l : Rw} (ht : ∀ r ∈ l, typL ke r) (hlen : l.length ≤ 24) (h : allW (frsB n1 l) l.length 0 = true) : GoodV l := by
 have hall : ∀ i, i < l.length → frsB n1 l i = true := fun i hi => (kwb _ _).1 h i (by omega) (by omega)
 have hrow : ∀ r ∈ l, rowB l r = true := by
  intro r hr
  obtain ⟨i, hi, rfl⟩ := List.mem_iff_getElem.1 hr
  have := hall i hi
  rw [frsB, Bool.and_eq_true, klb hi] at this
  exact this.2
 have hstep : ∀ i, i + 1 < l.length → idI (l.getD i []) < idI (l.getD (i + 1) []) := by
  intro i hi
  have := hall (i + 1) hi
  simp only [frsB, Bool.and_eq_true, Bool.not_eq_true', Bool.and_eq_false_iff, decide_eq_false_iff_not, Nat.add_sub_cancel] at this
  rcases this.1.2 with h | h
  ·exact absurd (by omega : ((i + 1 : Nat) : Int) > 0) h
  ·omega
 have hnm : ∀ r ∈ l, (nmsL r).length ≤ 12 ∧ allW (nmOk l (nmsL r)) (nmsL r).length 0 = true ∧ (asS (nthD r 5)).size ≤ 64 ∧ (asI (nthD r 1) ≠ 2 → asI (nthD r 7) = 0 ∧ asI (nthD r 8) = 0) := by
  intro r hr
  have h1 := hrow r hr
  simp only [rowB, kte, Bool.and_eq_true] at h1
  have h2 := h1.2
  by_cases hk : asI (nthD r 1) = 2
  ·rw [if_pos hk] at h2
   simp only [Bool.and_eq_true, decide_eq_true_eq] at h2
   refine ⟨by omega, h2.2, ?_, fun q => absurd hk q⟩
   have h3 : emS (asS (nthD r 5)) = true := h2.1.1.1.1
   have h3 : (asS (nthD r 5)).toList = (⟨#[]⟩ : BA).toList := by simpa [emS] using h3
   rw [kai, kxe] at h3
   omega
  ·rw [if_neg hk] at h2
   simp only [Bool.and_eq_true, decide_eq_true_eq, beq_iff_eq] at h2
   have h0 : (nmsL r).length = 0 := by have := h2.1.1.1; omega
   refine ⟨by omega, by rw [h0]; rfl, ?_, fun _ => ⟨h2.1.1.2, h2.1.2⟩⟩
   have h3 := h2.2
   by_cases h1 : asI (nthD r 1) = 1
   ·rw [if_pos h1, decide_eq_true_eq] at h3; omega
   ·rw [if_neg h1] at h3
    by_cases h4 : asI (nthD r 1) = 3
    ·rw [if_pos h4] at h3
     simp only [kpg, Bool.and_eq_true, decide_eq_true_eq] at h3
     have := h3.1.1.2; omega
    ·rw [if_neg h4] at h3; cases h3
 constructor
 ·exact ⟨hlen, ht, fun r hr => (hnm r hr).1⟩
 ·intro i j hij hj
  induction j with
  | zero => omega
  | succ j ih =>
   have h1 := hstep j hj
   by_cases e : i = j
   ·rw [e]; exact h1
   ·have := ih (by omega) (by omega); omega
 ·intro r hr d hd
  obtain ⟨e, he, rfl⟩ := List.mem_map.1 hd
  obtain ⟨j, hj, rfl⟩ := List.mem_iff_getElem.1 he
  have := (kwb _ _).1 (hnm r hr).2.1 j (by omega) (by omega)
  simp only [nmOk, Bool.and_eq_true, klb hj] at this
  exact this.1.2
 ·exact fun r hr => (hnm r hr).2.2.1
 ·exact fun r hr => (hnm r hr).2.2.2
theorem ksg (a b c d : Bool) : ((!a || (b && c)) || !d) = !((a && !(b && c)) && d) := by revert a b c d; decide
theorem kem (a b c : Bool) : (!a || (b && c)) = !(a && !(b && c)) := by revert a b c; decide
theorem kwf (n1 : Int) (l : Rw) (i : Nat) : ((rngB (asI (nthD (l.getD i []) 0)) 1 (w64 (n1 - 1)) && !(decide ((i : Int) > 0) && decide (asI (nthD (l.getD (i - 1) []) 0) ≥ asI (nthD (l.getD i []) 0)))) && kte l (asI (nthD (l.getD i []) 1)) (asI (nthD (l.getD i []) 2)) (asI (nthD (l.getD i []) 3)) (asI (nthD (l.getD i []) 4)) (asS (nthD (l.getD i []) 5)) (asL (nthD (l.getD i []) 6)) (asI (nthD (l.getD i []) 7)) (asI (nthD (l.getD i []) 8))) = frsB n1 l i := rfl
theorem gz32 : ∀ x, okR zr103 zo103 (some ([.one (.i .i64 x)], [])) = true := fun _ => id rfl
theorem gz33 : ∀ x, okR zr104 zo104 (some ([.one (.b x)], [])) = true := fun _ => id rfl
theorem gz34 : ∀ x, okR zr101 zo101 (some ([.one (.b x)], [])) = true := fun _ => id rfl
theorem gz35 : ∀ x, okR zr102 zo102 (some ([.one (.i .i64 x)], [])) = true := fun _ => id rfl
theorem gz36 : ∀ x, okR zr99 zo99 (some ([.one (.b x)], [])) = true := fun _ => id rfl
theorem khn (n1 : Int) (l : Rw) (hl : l.length ≤ 1048576) (ht : ∀ r ∈ l, typL ke r) (hz : ∀ r ∈ l, szdL ke r) : t66 n1 l = some ([.one (.b (volB n1 l))], []) := by
 have e1 : ∀ a b c, (decide (b ≤ a) && decide (a ≤ c)) = rngB a b c := fun _ _ _ => rfl
 simp only [t66, ta66, kvc, gz26, gz8, e1, bto, ka]
 by_cases hA : (rngB n1 2 100000 && rngB (l.length : Int) 1 24) = true
 ·have hA2 := hA
  rw [Bool.and_eq_true] at hA2
  have hlen : 1 ≤ l.length ∧ l.length ≤ 24 := by have := hA2.2; simp only [rngB, Bool.and_eq_true, decide_eq_true_eq] at this; omega
  have hr0 := kdg ht ku 0 (by omega)
  have hr0 : (decide ((0 : Int) ≤ 0) && decide ((0 : Int) < (l.length : Int)) && isRow z64 (l.getD ((0 : Int)).toNat [])) = true := hr0
  rw [hA2.1, hA2.2, hr0]
  simp only [bnt, bto, Bool.or_false, Bool.false_or, ka]
  rw [show l.getD ((0 : Int)).toNat [] = l.getD 0 [] from rfl]
  unfold volB
  rw [hA, bta]
  by_cases hB : (idI (l.getD 0 []) == 1 && asI (nthD (l.getD 0 []) 1) == 2) = true
  ·have hB2 := hB
   rw [Bool.and_eq_true] at hB2
   have hB3 : ((asI (nthD (l.getD 0 []) 0) != 1) || (asI (nthD (l.getD 0 []) 1) != 2)) = false := by
    have h1 : (asI (nthD (l.getD 0 []) 0) == 1) = true := hB2.1
    rw [bne, bne, h1, hB2.2]; rfl
   rw [hB3, hB, bta]
   simp only [bft, if_false]
   by_cases hC : allW (frsB n1 l) l.length 0 = true
   ·have hG := kri ht hlen.2 hC
    rw [hC, bta]
    refine kgb (α := Unit) (σ := SV × SV × SV) (fun m i _ s' => la66o1 t63 t99 t100 t101 t102 t103 t104 n1 l false false l (l.length : Int) n1 l _ _ m s'.1 (i : Int) s'.2.1 s'.2.2) l.length (fun _ _ => True) (fun x => x = some ([.one (.b (allW (sndB l) (l.length - 1) 1 && (decide ((totN l : Int) ≤ 400) && !kae l)))], []))
     ?_ ?_ l.length 0 KK () (SV.undef, SV.undef, SV.undef) (by omega) (by rw [kj]; omega) trivial
    ·intro m _ s' _
     obtain ⟨o, hnd, ho, hmem, hb⟩ := kqk n1 l hG.toFew 1
     have e7 : decide (0 ≤ (1 : Int) ∧ (1 : Int) ≤ (l.length : Int) ∧ (l.getD 0 z64).length = z64.length) = true := by
      have h0 : l.getD 0 z64 = l[0]'(by omega) := by simp [List.getD, show 0 < l.length by omega]
      obtain ⟨x1, x2, x3, x4, x5, x6, x7, x8, x9, er, -⟩ := kqb (ht _ (List.getElem_mem (show 0 < l.length by omega)))
      rw [h0, er]
      simp [z64]; omega
     simp only [la66o1, kp, bft, if_false, hb, gz11, gz12, e7, ka]
     have hdl : (l.drop (1 : Int).toNat) = l.drop 1 := rfl
     rw [hdl]
     have hlen2 : (l.drop 1).length = l.length - 1 := by simp
     have hgd : ∀ i, (l.drop 1).getD i [] = l.getD (i + 1) [] := by intro i; simp [List.getD, Nat.add_comm]
     have htd : ∀ r ∈ l.drop 1, typL ke r := fun r hr => ht r (List.mem_of_mem_drop hr)
     refine Eq.trans (kdd (σ := SV × SV × SV × SV) (fun m i s'' => la66o4 t63 t99 t100 t101 t102 t103 t104 n1 l false false l (l.length : Int) (l.length : Int) false (l.drop 1) ((l.drop 1).length : Int) n1 l (ints o) (fun _ _ _ _ _ _ _ _ _ _ _ _ _ _ => some ([.one (.b false)], [])) (fun (v0 : SV) (v1 : SV) (n0 : Int) (b0 : Bool) (v2 : SV) => _) m s''.1 s''.2.1 (i : Int) s''.2.2.1 s''.2.2.2) (l.drop 1).length (fun i => sndB l (i + 1)) (some ([.one (.b false)], [])) (some ([.one (.b (decide ((totN l : Int) ≤ 400) && !kae l))], []))
      (by
       intro m s''
       simp only [la66o4, kp, bft, if_false, kxm n1 l hG, gz32, gz20, kbq n1 l hG, gz33, gz8, bto, ka])
      (by
       intro i m s'' hi
       have hr := kzb htd ku i hi
       have hh := kal o (by omega) (asI (nthD ((l.drop 1).getD i []) 0))
       have hm : decide (asI (nthD ((l.drop 1).getD i []) 0) ∈ o) = @decide (Vq.Reach (tgV l) 1 (idI (l.getD (i + 1) []))) (Classical.propDecidable _) := by
        rw [Bool.eq_iff_iff]; simp only [decide_eq_true_eq]; rw [hmem, hgd]; exact Iff.rfl
       have hnm := kcn n1 l hG (asI (nthD ((l.drop 1).getD i []) 0))
       simp only [la66o4, kk hi, itn, hr, hh, hnm, gz34, gz35, gz8, gz20, bto, ka, if_true, kc i (by omega), hm, kem]
       have hs : (@decide (Vq.Reach (tgV l) 1 (idI (l.getD (i + 1) []))) (Classical.propDecidable _) && !((asI (nthD ((l.drop 1).getD i []) 1) == 2) && ((nmdN l (asI (nthD ((l.drop 1).getD i []) 0)) : Int) != 1))) = sndB l (i + 1) := by rw [hgd]; rfl
       rw [hs]
       cases hq : sndB l (i + 1)
       ·exact .inr ⟨rfl, rfl⟩
       ·exact .inl ⟨rfl, (_, _, _, _), rfl⟩) (l.drop 1).length 0 KK (_, _, SV.undef, SV.undef) (by omega) (by rw [kj]; omega)) ?_
     rw [kuh, hlen2]
     cases allW (sndB l) (l.length - 1) 1 <;> rfl
    ·intro i m _ s' hi _
     left
     have hr := kzb ht ku i hi
     have hq := (kwb _ _).1 hC i (by omega) (by omega)
     have hv := kxg ht hz (knb hi)
     have hin := kjg n1 l hl ht (asI (nthD (l.getD i []) 0)) (asI (nthD (l.getD i []) 1)) (asI (nthD (l.getD i []) 2)) (asI (nthD (l.getD i []) 3)) (asI (nthD (l.getD i []) 4)) (asS (nthD (l.getD i []) 5)) hv.1 (asL (nthD (l.getD i []) 6)) hv.2.2.1 hv.2.2.2 hv.2.1 (asI (nthD (l.getD i []) 7)) (asI (nthD (l.getD i []) 8))
     have hp := krc ht ku hi (by omega)
     simp only [la66o1, kk hi, itn, hr, kvc, hin, gz26, gz36, gz8, e1, bto, ksc i (by omega), hp, ka, if_true, kc i (by omega), ksg, kwf, hq, bnt, bft, if_false]
     exact ⟨(), (_, _, _), rfl, trivial⟩
   ·rw [Bool.not_eq_true] at hC
    rw [hC, Bool.false_and]
    have hC' : ∃ j, j < l.length ∧ frsB n1 l j = false := by
     apply Classical.byContradiction
     intro hq
     have : allW (frsB n1 l) l.length 0 = true := (kwb _ _).2 fun j _ hj => by
      cases hb : frsB n1 l j with
      | true => rfl
      | false => exact absurd ⟨j, by omega, hb⟩ hq
     rw [this] at hC; cases hC
    obtain ⟨j, hj, hjf⟩ := hC'
    refine kgb (α := Unit) (σ := SV × SV × SV) (fun m i _ s' => la66o1 t63 t99 t100 t101 t102 t103 t104 n1 l false false l (l.length : Int) n1 l _ _ m s'.1 (i : Int) s'.2.1 s'.2.2) l.length (fun i _ => i ≤ j) (fun x => x = some ([.one (.b false)], []))
     ?_ ?_ l.length 0 KK () (SV.undef, SV.undef, SV.undef) (by omega) (by rw [kj]; omega) (by omega)
    ·intro m _ s' hp; omega
    ·intro i m _ s' hi hp
     have hr := kzb ht ku i hi
     have hv := kxg ht hz (knb hi)
     have hin := kjg n1 l hl ht (asI (nthD (l.getD i []) 0)) (asI (nthD (l.getD i []) 1)) (asI (nthD (l.getD i []) 2)) (asI (nthD (l.getD i []) 3)) (asI (nthD (l.getD i []) 4)) (asS (nthD (l.getD i []) 5)) hv.1 (asL (nthD (l.getD i []) 6)) hv.2.2.1 hv.2.2.2 hv.2.1 (asI (nthD (l.getD i []) 7)) (asI (nthD (l.getD i []) 8))
     have hpc := krc ht ku hi (by omega)
     simp only [la66o1, kk hi, itn, hr, kvc, hin, gz26, gz36, gz8, e1, bto, ksc i (by omega), hpc, ka, if_true, kc i (by omega), ksg, kwf]
     cases hq : frsB n1 l i
     ·exact .inr rfl
     ·left
      refine ⟨(), (_, _, _), rfl, ?_⟩
      have : i ≠ j := by rintro rfl; rw [hq] at hjf; cases hjf
      omega
  ·rw [Bool.not_eq_true] at hB
   have hB3 : ((asI (nthD (l.getD 0 []) 0) != 1) || (asI (nthD (l.getD 0 []) 1) != 2)) = true := by
    have h1 : (asI (nthD (l.getD 0 []) 0) == 1 && asI (nthD (l.getD 0 []) 1) == 2) = false := hB
    rw [bne, bne, ← Bool.not_and, h1]; rfl
   rw [hB3, hB, Bool.false_and]
   rfl
 ·have hA1 : (!rngB n1 2 100000 || !rngB (l.length : Int) 1 24) = true := by rw [← Bool.not_and]; rw [Bool.not_eq_true] at hA; rw [hA]; rfl
  rw [hA1]
  simp only [bto, bnt, bnf, bot, ka, if_true]
  rw [Bool.not_eq_true] at hA
  unfold volB
  rw [hA, Bool.false_and, Bool.false_and]
theorem gz37 : ∀ x, okR zr94 zo94 (some ([.one (.i .i64 x)], [])) = true := fun _ => id rfl
theorem gz38 : ∀ x, okR zr95 zo95 (some ([.one (.b x)], [])) = true := fun _ => id rfl
theorem gz39 : ∀ x, okR zr93 zo93 (some ([.one (.i .i64 x)], [])) = true := fun _ => id rfl
theorem gz40 : ∀ x, okR zr91 zo91 (some ([.one (.b x)], [])) = true := fun _ => id rfl
theorem kci (n1 : Int) (l : Rw) (hl : l.length ≤ 1048576) (ht : ∀ r ∈ l, typL ke r) (hz : ∀ r ∈ l, szdL ke r) : t56 n1 l = some ([.one (.b (volB n1 l))], []) := by
 have e1 : ∀ a b c, (decide (b ≤ a) && decide (a ≤ c)) = rngB a b c := fun _ _ _ => rfl
 simp only [t56, ta56, kde, gz7, gz8, e1, bto, ka]
 by_cases hA : (rngB n1 2 100000 && rngB (l.length : Int) 1 24) = true
 ·have hA2 := hA
  rw [Bool.and_eq_true] at hA2
  have hlen : 1 ≤ l.length ∧ l.length ≤ 24 := by have := hA2.2; simp only [rngB, Bool.and_eq_true, decide_eq_true_eq] at this; omega
  have hr0 := kdg ht ku 0 (by omega)
  have hr0 : (decide ((0 : Int) ≤ 0) && decide ((0 : Int) < (l.length : Int)) && isRow z64 (l.getD ((0 : Int)).toNat [])) = true := hr0
  rw [hA2.1, hA2.2, hr0]
  simp only [bnt, bto, Bool.or_false, Bool.false_or, ka]
  rw [show l.getD ((0 : Int)).toNat [] = l.getD 0 [] from rfl]
  unfold volB
  rw [hA, bta]
  by_cases hB : (idI (l.getD 0 []) == 1 && asI (nthD (l.getD 0 []) 1) == 2) = true
  ·have hB2 := hB
   rw [Bool.and_eq_true] at hB2
   have hB3 : ((asI (nthD (l.getD 0 []) 0) != 1) || (asI (nthD (l.getD 0 []) 1) != 2)) = false := by
    have h1 : (asI (nthD (l.getD 0 []) 0) == 1) = true := hB2.1
    rw [bne, bne, h1, hB2.2]; rfl
   have h01 : idI (l.getD 0 []) = 1 := by simpa using hB2.1
   rw [hB3, hB, bta]
   simp only [bft, if_false]
   by_cases hC : allW (frsB n1 l) l.length 0 = true
   ·have hG := kri ht hlen.2 hC
    rw [hC, bta]
    refine kgb (α := Unit) (σ := SV × SV) (fun m i _ s' => la56o1 t57 t91 t92 t93 t94 t95 n1 l false false n1 l _ _ m (i : Int) s'.1 s'.2) l.length (fun _ _ => True) (fun x => x = some ([.one (.b (allW (sndB l) (l.length - 1) 1 && (decide ((totN l : Int) ≤ 400) && !kae l)))], []))
     ?_ ?_ l.length 0 KK () (SV.undef, SV.undef) (by omega) (by rw [kj]; omega) trivial
    ·intro m _ s' _
     have hb := kth n1 l hG 0 (by omega)
     rw [h01] at hb
     simp only [la56o1, kp, bft, if_false, hb, gz14, gz12, ka]
     refine Eq.trans (kdd (σ := SV × SV × SV) (fun m i s'' => la56o4 t57 t91 t92 t93 t94 t95 n1 l false (l.length : Int) false false n1 l (ko (fun x => @decide (Vq.Reach (tgV l) 1 (idI (l.getD x []))) (Classical.propDecidable _)) l.length) (fun _ _ _ _ => some ([.one (.b false)], [])) (fun (n0 : Int) (v0 : SV) (b0 : Bool) (v1 : SV) => _) m (i : Int) s''.1 s''.2.1 s''.2.2) l.length (sndB l) (some ([.one (.b false)], [])) (some ([.one (.b (decide ((totN l : Int) ≤ 400) && !kae l))], []))
      (by
       intro m s''
       simp only [la56o4, kp, bft, if_false, kgn n1 l hG, gz37, gz20, keo n1 l hG, gz38, gz8, bto, ka])
      (by
       intro i m s'' hi
       have hr := kzb ht ku i hi
       have a2 : ∀ f, decide ((i : Int) < ((ko f l.length).length : Int)) = true := by intro f; rw [kuc, kk hi]
       have hnm := kin n1 l hG (asI (nthD (l.getD i []) 0))
       have hr' : isRow z64 (l.getD i []) = true := ku _ (kcc ht hi)
       simp only [la56o4, kk hi, a2, kgc, bat, bta, itn, kph hi, gz15, gz16, hr', hnm, gz39, gz20, bto, ka, if_true, kc i (by omega), kem]
       have hs : (@decide (Vq.Reach (tgV l) 1 (idI (l.getD i []))) (Classical.propDecidable _) && !((asI (nthD (l.getD i []) 1) == 2) && ((nmdN l (asI (nthD (l.getD i []) 0)) : Int) != 1))) = sndB l i := rfl
       rw [hs]
       cases hq : sndB l i
       ·exact .inr ⟨rfl, rfl⟩
       ·exact .inl ⟨rfl, (_, _, _), rfl⟩) (l.length - 1) 1 KK (_, SV.undef, SV.undef) (by omega) (by rw [kj]; omega)) ?_
     cases allW (sndB l) (l.length - 1) 1 <;> rfl
    ·intro i m _ s' hi _
     left
     have hr := kzb ht ku i hi
     have hq := (kwb _ _).1 hC i (by omega) (by omega)
     have hv := kxg ht hz (knb hi)
     have hin := keg n1 l hl ht (asI (nthD (l.getD i []) 0)) (asI (nthD (l.getD i []) 1)) (asI (nthD (l.getD i []) 2)) (asI (nthD (l.getD i []) 3)) (asI (nthD (l.getD i []) 4)) (asS (nthD (l.getD i []) 5)) hv.1 (asL (nthD (l.getD i []) 6)) hv.2.2.1 hv.2.2.2 hv.2.1 (asI (nthD (l.getD i []) 7)) (asI (nthD (l.getD i []) 8))
     have hp := krc ht ku hi (by omega)
     simp only [la56o1, kk hi, itn, hr, kde, hin, gz7, gz40, gz8, e1, bto, ksc i (by omega), hp, ka, if_true, kc i (by omega), ksg, kwf, hq, bnt, bft, if_false]
     exact ⟨(), (_, _), rfl, trivial⟩
   ·rw [Bool.not_eq_true] at hC
    rw [hC, Bool.false_and]
    have hC' : ∃ j, j < l.length ∧ frsB n1 l j = false := by
     apply Classical.byContradiction
     intro hq
     have : allW (frsB n1 l) l.length 0 = true := (kwb _ _).2 fun j _ hj => by
      cases hb : frsB n1 l j with
      | true => rfl
      | false => exact absurd ⟨j, by omega, hb⟩ hq
     rw [this] at hC; cases hC
    obtain ⟨j, hj, hjf⟩ := hC'
    refine kgb (α := Unit) (σ := SV × SV) (fun m i _ s' => la56o1 t57 t91 t92 t93 t94 t95 n1 l false false n1 l _ _ m (i : Int) s'.1 s'.2) l.length (fun i _ => i ≤ j) (fun x => x = some ([.one (.b false)], []))
     ?_ ?_ l.length 0 KK () (SV.undef, SV.undef) (by omega) (by rw [kj]; omega) (by omega)
    ·intro m _ s' hp; omega
    ·intro i m _ s' hi hp
     have hr := kzb ht ku i hi
     have hv := kxg ht hz (knb hi)
     have hin := keg n1 l hl ht (asI (nthD (l.getD i []) 0)) (asI (nthD (l.getD i []) 1)) (asI (nthD (l.getD i []) 2)) (asI (nthD (l.getD i []) 3)) (asI (nthD (l.getD i []) 4)) (asS (nthD (l.getD i []) 5)) hv.1 (asL (nthD (l.getD i []) 6)) hv.2.2.1 hv.2.2.2 hv.2.1 (asI (nthD (l.getD i []) 7)) (asI (nthD (l.getD i []) 8))
     have hpc := krc ht ku hi (by omega)
     simp only [la56o1, kk hi, itn, hr, kde, hin, gz7, gz40, gz8, e1, bto, ksc i (by omega), hpc, ka, if_true, kc i (by omega), ksg, kwf]
     cases hq : frsB n1 l i
     ·exact .inr rfl
     ·left
      refine ⟨(), (_, _), rfl, ?_⟩
      have : i ≠ j := by rintro rfl; rw [hq] at hjf; cases hjf
      omega
  ·rw [Bool.not_eq_true] at hB
   have hB3 : ((asI (nthD (l.getD 0 []) 0) != 1) || (asI (nthD (l.getD 0 []) 1) != 2)) = true := by
    have h1 : (asI (nthD (l.getD 0 []) 0) == 1 && asI (nthD (l.getD 0 []) 1) == 2) = false := hB
    rw [bne, bne, ← Bool.not_and, h1]; rfl
   rw [hB3, hB, Bool.false_and]
   rfl
 ·have hA1 : (!rngB n1 2 100000 || !rngB (l.length : Int) 1 24) = true := by rw [← Bool.not_and]; rw [Bool.not_eq_true] at hA; rw [hA]; rfl
  rw [hA1]
  simp only [bto, bnt, bnf, bot, ka, if_true]
  rw [Bool.not_eq_true] at hA
  unfold volB
  rw [hA, Bool.false_and, Bool.false_and]
end Go.Den.L11
