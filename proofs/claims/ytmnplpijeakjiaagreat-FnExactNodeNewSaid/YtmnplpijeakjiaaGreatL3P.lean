/- Plain laws about what the functions compute; no condition. -/
import Derived.Test.YtmnplpijeakjiaaGreatL3Tw
import Derived.IntWalk
set_option linter.unusedVariables false
set_option linter.unusedSimpArgs false
namespace Go.Den.L3
open Go Go.IntWalk
abbrev BA := ByteArray
theorem bft : (false = true) = False := Bool.false_eq_true
theorem itn : ∀ n : Nat, (n : Int).toNat = n := Int.toNat_natCast
theorem bnt : (!true) = false := Bool.not_true
theorem bnf : (!false) = true := Bool.not_false
theorem bat : ∀ b : Bool, (b && true) = b := Bool.and_true
theorem bto : ∀ b : Bool, (true || b) = true := Bool.true_or
theorem bta : ∀ b : Bool, (true && b) = b := Bool.true_and
theorem ka (x : Rs) : chk true x = x := rfl
theorem kxd {b : Bool} (h : b = true) (x : Rs) : chk b x = x := by rw [h]; rfl
attribute [simp] ka okR isVs isV isD isDs isOs resC outC nthR nthO cellsDV nthD asB asI asS asL
theorem kfc {α : Type} (a b : Bool) (h : a = !b) (x y : α) : (if a = true then x else y) = (if b = true then y else x) := by
 subst h; cases b <;> rfl
theorem kib (a b : Bool) (h : a = b) : (some ([DV.one (.b a)], ([] : Rw)) : Rs) = some ([.one (.b b)], []) := by rw [h]
theorem krh : (⟨#[]⟩ : BA).toList = [] := by rw [ByteArray.toList_eq]
theorem kqd (s : BA) : s.toList = [] ↔ (s.size : Int) = 0 := by
 have e : s.size = s.data.toList.length := by rw [Array.length_toList]; rfl
 rw [ByteArray.toList_eq, e]
 cases s.data.toList <;> simp <;> omega
theorem kde (s : BA) : s.toList.isEmpty = decide ((s.size : Int) = 0) := by
 rw [Bool.eq_iff_iff, List.isEmpty_iff, kqd]; simp
attribute [simp] krh kqd kde
theorem kk : KK = 18446744073709551616 := Classical.choose_spec (⟨2 ^ 64, rfl⟩ : ∃ n : Nat, n = 2 ^ 64)
theorem kb (n : Int) (h : -9223372036854775808 ≤ n ∧ n ≤ 9223372036854775807) : w64 n = n := i64_in n h
theorem kdh {l : Rw} {i : Nat} (hi : i < l.length) : l.getD i [] = l[i] := by simp [List.getD, hi]
theorem knb {l : Rw} {es : List Sh} (h : ∀ r ∈ l, typL es r) {i : Nat} (hi : i < l.length) : typL es (l.getD i []) := by
 rw [kdh hi]; exact h _ (List.getElem_mem hi)
theorem ke (i : Nat) (h : i < 4611686018427387904) : w64 ((i : Int) + 1) = ((i + 1 : Nat) : Int) := by
 rw [kb _ (by omega)]; rfl
theorem klb (a b c : Int) : t18 a b c = some ([.one (.b (decide (b ≤ a) && decide (a ≤ c)))], []) := rfl
theorem koc (a b c : Int) : t34 a b c = some ([.one (.b (decide (b ≤ a) && decide (a ≤ c)))], []) := rfl
mutual
def szdD : Sh → D → Prop
 | .b, _ => True
 | .i _, _ => True
 | .s, d => (asS d).size ≤ 1048576
 | .l es, d => (asL d).length ≤ 1048576 ∧ ∀ r ∈ asL d, szdL es r
def szdL : List Sh → List D → Prop
 | [], _ => True
 | e :: es, ds => szdD e (nthD ds 0) ∧ szdL es ds.tail
end
theorem ksf {l : Rw} {i : Nat} (h : i < l.length) : l.getD i [] ∈ l := by rw [kdh h]; exact List.getElem_mem h
theorem kob {i n : Nat} (h : i < n) : decide ((i : Int) < (n : Int)) = true := by simp; omega
theorem kmb (i : Nat) : decide ((0 : Int) ≤ (i : Int)) = true := by simp
theorem kbe {α : Type} (f : α → α) : ∀ (a : List α) (x : α) (b : List α), (a ++ x :: b).modify a.length f = a ++ f x :: b
 | [], x, b => by simp
 | y :: a, x, b => by simp [kbe f a x b]
theorem kid (x1 : Int) (x2 : Int) (x3 : BA)  : t23 x1 x2 x3 x1 x2 x3 = some ([.one (.b true)], []) := by
 simp only [t23, bne_self_eq_false, bnt, bft, if_false, okR, isVs, isV, isD, isDs, isOs, resC, outC, nthR, nthO, cellsDV, nthD, asB, asI, asS, asL, bat, bta, BEq.rfl, ka, decide_true]
abbrev ki : List Sh := [.i .i64, .s]
theorem khc {r : List D} (h : typL ki r) : ∃ x1 x2, r = [.i .i64 x1, .s x2] ∧ x2.size ≤ maxLen := by
 obtain ⟨_, _, rfl, ⟨x1, rfl, _⟩, ⟨_, _, rfl, ⟨x2, rfl, wx2⟩, rfl⟩⟩ := h
 exact ⟨x1, x2, rfl, wx2⟩
theorem kwf (x1 : Int) (x2 : BA)  : t80 x1 x2 x1 x2 = some ([.one (.b true)], []) := by
 simp only [t80, bne_self_eq_false, bnt, bft, if_false, okR, isVs, isV, isD, isDs, isOs, resC, outC, nthR, nthO, cellsDV, nthD, asB, asI, asS, asL, bat, bta, BEq.rfl, ka, decide_true]
theorem kgf (b0 b1 : Bool) (q1 : Int → Bool → Bool → Rs) (q2 : Int → Bool → SV → Rs) (h2 : ∀ a b c, q2 a b c = some ([.one (.b true)], [])) (l : Rw) (h : ∀ r ∈ l, typL ki r) (hl : l.length < 4611686018427387904) : ∀ (k i m : Nat) (v w : SV), i + k = l.length → k < m →
  la38o1 t80 l l b0 b1 q1 q2 m i v w = some ([.one (.b true)], []) := by
 intro k
 induction k with
 | zero =>
  intro i m v w e hm
  obtain ⟨m, rfl⟩ : ∃ m', m = m' + 1 := ⟨m - 1, by omega⟩
  have ei : decide ((i : Int) < (l.length : Int)) = false := by simp; omega
  simp only [la38o1, ei, h2]
  simp
 | succ k ih =>
  intro i m v w e hm
  obtain ⟨m, rfl⟩ : ∃ m', m = m' + 1 := ⟨m - 1, by omega⟩
  have hr := knb h (i := i) (by omega)
  obtain ⟨c1, c2, er, wc2⟩ := khc hr
  have e1 : decide ((i : Int) < (l.length : Int)) = true := by simp; omega
  have e2 : decide ((0 : Int) ≤ (i : Int)) = true := by simp
  have ez : isRow z116 [.i .i64 c1, .s c2] = true := rfl
  have ew : okR zr80 zo80 (some ([.one (.b true)], [])) = true := rfl
  simp only [la38o1, e1, e2, itn, er, ez, nthD, asI, asS, asB, asL, kwf c1 c2, resC, nthR, cellsDV, ew, bat, ka, if_true, bnt, bft, if_false]
  rw [ke i (by omega)]
  exact ih (i + 1) m _ _ (by omega) (by omega)
theorem kyc (l : Rw) (hl : l.length ≤ 1048576) (h : ∀ r ∈ l, typL ki r) : t38 l l = some ([.one (.b true)], []) := by
 have := kgf false false (fun _ _ _ => some ([.one (.b false)], [])) (fun _ _ _ => some ([.one (.b true)], [])) (fun _ _ _ => rfl) l h (by omega) l.length 0 KK .undef .undef (by omega) (by rw [kk]; omega)
 simpa [t38, ta38] using this
theorem kkg (x1 : Int) (x2 : Int) (x3 : Int) (x4 : Int) (x5 : BA) (x6 : Rw) (wx6 : x6.length ≤ 1048576) (tx6 : ∀ r ∈ x6, typL ki r) : t62 x1 x2 x3 x4 x5 x6 x1 x2 x3 x4 x5 x6 = some ([.one (.b true)], []) := by
 simp only [t62, ta62, bne_self_eq_false, bnt, bft, if_false, kid x3 x4 x5 , kyc x6 wx6 tx6, zr23, zo23, zr38, zo38, okR, isVs, isV, isD, isDs, isOs, resC, outC, nthR, nthO, cellsDV, nthD, asB, asI, asS, asL, bat, bta, BEq.rfl, ka, decide_true]
abbrev kyb : List Sh := [.i .i64, .i .i64, .i .i64, .i .i64, .s]
theorem kbh {r : List D} (h : typL kyb r) : ∃ x1 x2 x3 x4 x5, r = [.i .i64 x1, .i .i64 x2, .i .i64 x3, .i .i64 x4, .s x5] ∧ x5.size ≤ maxLen := by
 obtain ⟨_, _, rfl, ⟨x1, rfl, _⟩, ⟨_, _, rfl, ⟨x2, rfl, _⟩, ⟨_, _, rfl, ⟨x3, rfl, _⟩, ⟨_, _, rfl, ⟨x4, rfl, _⟩, ⟨_, _, rfl, ⟨x5, rfl, wx5⟩, rfl⟩⟩⟩⟩⟩ := h
 exact ⟨x1, x2, x3, x4, x5, rfl, wx5⟩
theorem kxh (x1 : Int) (x2 : Int) (x3 : Int) (x4 : Int) (x5 : BA)  : t104 x1 x2 x3 x4 x5 x1 x2 x3 x4 x5 = some ([.one (.b true)], []) := by
 simp only [t104, bne_self_eq_false, bnt, bft, if_false, okR, isVs, isV, isD, isDs, isOs, resC, outC, nthR, nthO, cellsDV, nthD, asB, asI, asS, asL, bat, bta, BEq.rfl, ka, decide_true]
theorem kpg (b0 b1 : Bool) (q1 : Int → Bool → Bool → Rs) (q2 : Int → Bool → SV → Rs) (h2 : ∀ a b c, q2 a b c = some ([.one (.b true)], [])) (l : Rw) (h : ∀ r ∈ l, typL kyb r) (hl : l.length < 4611686018427387904) : ∀ (k i m : Nat) (v w : SV), i + k = l.length → k < m →
  la63o1 t104 l l b0 b1 q1 q2 m i v w = some ([.one (.b true)], []) := by
 intro k
 induction k with
 | zero =>
  intro i m v w e hm
  obtain ⟨m, rfl⟩ : ∃ m', m = m' + 1 := ⟨m - 1, by omega⟩
  have ei : decide ((i : Int) < (l.length : Int)) = false := by simp; omega
  simp only [la63o1, ei, h2]
  simp
 | succ k ih =>
  intro i m v w e hm
  obtain ⟨m, rfl⟩ : ∃ m', m = m' + 1 := ⟨m - 1, by omega⟩
  have hr := knb h (i := i) (by omega)
  obtain ⟨c1, c2, c3, c4, c5, er, wc5⟩ := kbh hr
  have e1 : decide ((i : Int) < (l.length : Int)) = true := by simp; omega
  have e2 : decide ((0 : Int) ≤ (i : Int)) = true := by simp
  have ez : isRow z139 [.i .i64 c1, .i .i64 c2, .i .i64 c3, .i .i64 c4, .s c5] = true := rfl
  have ew : okR zr104 zo104 (some ([.one (.b true)], [])) = true := rfl
  simp only [la63o1, e1, e2, itn, er, ez, nthD, asI, asS, asB, asL, kxh c1 c2 c3 c4 c5, resC, nthR, cellsDV, ew, bat, ka, if_true, bnt, bft, if_false]
  rw [ke i (by omega)]
  exact ih (i + 1) m _ _ (by omega) (by omega)
theorem kqg (l : Rw) (hl : l.length ≤ 1048576) (h : ∀ r ∈ l, typL kyb r) : t63 l l = some ([.one (.b true)], []) := by
 have := kpg false false (fun _ _ _ => some ([.one (.b false)], [])) (fun _ _ _ => some ([.one (.b true)], [])) (fun _ _ _ => rfl) l h (by omega) l.length 0 KK .undef .undef (by omega) (by rw [kk]; omega)
 simpa [t63, ta63] using this
theorem kbg (x1 : Int) (x2 : Int) (x3 : Int) (x4 : Int) (x5 : BA) (x6 : Rw) (x7 : Rw) (wx6 : x6.length ≤ 1048576) (tx6 : ∀ r ∈ x6, typL ki r) (wx7 : x7.length ≤ 1048576) (tx7 : ∀ r ∈ x7, typL kyb r) : t24 x1 x2 x3 x4 x5 x6 x7 x1 x2 x3 x4 x5 x6 x7 = some ([.one (.b true)], []) := by
 simp only [t24, ta24, bne_self_eq_false, bnt, bft, if_false, kkg x1 x2 x3 x4 x5 x6 wx6 tx6, kqg x7 wx7 tx7, zr62, zo62, zr63, zo63, okR, isVs, isV, isD, isDs, isOs, resC, outC, nthR, nthO, cellsDV, nthD, asB, asI, asS, asL, bat, bta, BEq.rfl, ka, decide_true]
abbrev kac : List Sh := [.s, .i .i64]
theorem kkh {r : List D} (h : typL kac r) : ∃ x1 x2, r = [.s x1, .i .i64 x2] ∧ x1.size ≤ maxLen := by
 obtain ⟨_, _, rfl, ⟨x1, rfl, wx1⟩, ⟨_, _, rfl, ⟨x2, rfl, _⟩, rfl⟩⟩ := h
 exact ⟨x1, x2, rfl, wx1⟩
theorem kcf (x1 : BA) (x2 : Int)  : t191 x1 x2 x1 x2 = some ([.one (.b true)], []) := by
 simp only [t191, bne_self_eq_false, bnt, bft, if_false, okR, isVs, isV, isD, isDs, isOs, resC, outC, nthR, nthO, cellsDV, nthD, asB, asI, asS, asL, bat, bta, BEq.rfl, ka, decide_true]
theorem khe (b0 b1 : Bool) (q1 : Int → Bool → Bool → Rs) (q2 : Int → Bool → SV → Rs) (h2 : ∀ a b c, q2 a b c = some ([.one (.b true)], [])) (l : Rw) (h : ∀ r ∈ l, typL kac r) (hl : l.length < 4611686018427387904) : ∀ (k i m : Nat) (v w : SV), i + k = l.length → k < m →
  la181o1 t191 l l b0 b1 q1 q2 m i v w = some ([.one (.b true)], []) := by
 intro k
 induction k with
 | zero =>
  intro i m v w e hm
  obtain ⟨m, rfl⟩ : ∃ m', m = m' + 1 := ⟨m - 1, by omega⟩
  have ei : decide ((i : Int) < (l.length : Int)) = false := by simp; omega
  simp only [la181o1, ei, h2]
  simp
 | succ k ih =>
  intro i m v w e hm
  obtain ⟨m, rfl⟩ : ∃ m', m = m' + 1 := ⟨m - 1, by omega⟩
  have hr := knb h (i := i) (by omega)
  obtain ⟨c1, c2, er, wc1⟩ := kkh hr
  have e1 : decide ((i : Int) < (l.length : Int)) = true := by simp; omega
  have e2 : decide ((0 : Int) ≤ (i : Int)) = true := by simp
  have ez : isRow z179 [.s c1, .i .i64 c2] = true := rfl
  have ew : okR zr191 zo191 (some ([.one (.b true)], [])) = true := rfl
  simp only [la181o1, e1, e2, itn, er, ez, nthD, asI, asS, asB, asL, kcf c1 c2, resC, nthR, cellsDV, ew, bat, ka, if_true, bnt, bft, if_false]
  rw [ke i (by omega)]
  exact ih (i + 1) m _ _ (by omega) (by omega)
theorem koe (l : Rw) (hl : l.length ≤ 1048576) (h : ∀ r ∈ l, typL kac r) : t181 l l = some ([.one (.b true)], []) := by
 have := khe false false (fun _ _ _ => some ([.one (.b false)], [])) (fun _ _ _ => some ([.one (.b true)], [])) (fun _ _ _ => rfl) l h (by omega) l.length 0 KK .undef .undef (by omega) (by rw [kk]; omega)
 simpa [t181, ta181] using this
abbrev km : List Sh := [.i .i64, .i .i64, .i .i64, .i .i64, .i .i64, .s, .l [.s, .i .i64], .i .i64, .i .i64]
theorem knc {r : List D} (h : typL km r) : ∃ x1 x2 x3 x4 x5 x6 x7 x8 x9, r = [.i .i64 x1, .i .i64 x2, .i .i64 x3, .i .i64 x4, .i .i64 x5, .s x6, .l x7, .i .i64 x8, .i .i64 x9] ∧ x6.size ≤ maxLen ∧ x7.length ≤ maxLen ∧ (∀ r ∈ x7, typL kac r) := by
 obtain ⟨_, _, rfl, ⟨x1, rfl, _⟩, ⟨_, _, rfl, ⟨x2, rfl, _⟩, ⟨_, _, rfl, ⟨x3, rfl, _⟩, ⟨_, _, rfl, ⟨x4, rfl, _⟩, ⟨_, _, rfl, ⟨x5, rfl, _⟩, ⟨_, _, rfl, ⟨x6, rfl, wx6⟩, ⟨_, _, rfl, ⟨x7, rfl, wx7, tx7⟩, ⟨_, _, rfl, ⟨x8, rfl, _⟩, ⟨_, _, rfl, ⟨x9, rfl, _⟩, rfl⟩⟩⟩⟩⟩⟩⟩⟩⟩ := h
 exact ⟨x1, x2, x3, x4, x5, x6, x7, x8, x9, rfl, wx6, wx7, tx7⟩
theorem kqf (x1 : Int) (x2 : Int) (x3 : Int) (x4 : Int) (x5 : Int) (x6 : BA) (x7 : Rw) (x8 : Int) (x9 : Int) (wx7 : x7.length ≤ 1048576) (tx7 : ∀ r ∈ x7, typL kac r) : t162 x1 x2 x3 x4 x5 x6 x7 x8 x9 x1 x2 x3 x4 x5 x6 x7 x8 x9 = some ([.one (.b true)], []) := by
 simp only [t162, ta162, bne_self_eq_false, bnt, bft, if_false, koe x7 wx7 tx7, zr181, zo181, okR, isVs, isV, isD, isDs, isOs, resC, outC, nthR, nthO, cellsDV, nthD, asB, asI, asS, asL, bat, bta, BEq.rfl, ka, decide_true]
theorem kve (b0 b1 : Bool) (q1 : Int → Bool → Bool → Rs) (q2 : Int → Bool → SV → Rs) (h2 : ∀ a b c, q2 a b c = some ([.one (.b true)], [])) (l : Rw) (h : ∀ r ∈ l, typL km r) (hs : ∀ r ∈ l, szdL km r) (hl : l.length < 4611686018427387904) : ∀ (k i m : Nat) (v w : SV), i + k = l.length → k < m →
  la134o1 t162 l l b0 b1 q1 q2 m i v w = some ([.one (.b true)], []) := by
 intro k
 induction k with
 | zero =>
  intro i m v w e hm
  obtain ⟨m, rfl⟩ : ∃ m', m = m' + 1 := ⟨m - 1, by omega⟩
  have ei : decide ((i : Int) < (l.length : Int)) = false := by simp; omega
  simp only [la134o1, ei, h2]
  simp
 | succ k ih =>
  intro i m v w e hm
  obtain ⟨m, rfl⟩ : ∃ m', m = m' + 1 := ⟨m - 1, by omega⟩
  have hr := knb h (i := i) (by omega)
  obtain ⟨c1, c2, c3, c4, c5, c6, c7, c8, c9, er, wc6, wc7, tc7⟩ := knc hr
  have hso := hs _ (ksf (l := l) (i := i) (by omega))
  rw [er] at hso
  have e1 : decide ((i : Int) < (l.length : Int)) = true := by simp; omega
  have e2 : decide ((0 : Int) ≤ (i : Int)) = true := by simp
  have ez : isRow z143 [.i .i64 c1, .i .i64 c2, .i .i64 c3, .i .i64 c4, .i .i64 c5, .s c6, .l c7, .i .i64 c8, .i .i64 c9] = true := rfl
  have ew : okR zr162 zo162 (some ([.one (.b true)], [])) = true := rfl
  simp only [la134o1, e1, e2, itn, er, ez, nthD, asI, asS, asB, asL, kqf c1 c2 c3 c4 c5 c6 c7 c8 c9 hso.2.2.2.2.2.2.1.1 tc7, resC, nthR, cellsDV, ew, bat, ka, if_true, bnt, bft, if_false]
  rw [ke i (by omega)]
  exact ih (i + 1) m _ _ (by omega) (by omega)
theorem khf (l : Rw) (hl : l.length ≤ 1048576) (h : ∀ r ∈ l, typL km r) (hs : ∀ r ∈ l, szdL km r) : t134 l l = some ([.one (.b true)], []) := by
 have := kve false false (fun _ _ _ => some ([.one (.b false)], [])) (fun _ _ _ => some ([.one (.b true)], [])) (fun _ _ _ => rfl) l h hs (by omega) l.length 0 KK .undef .undef (by omega) (by rw [kk]; omega)
 simpa [t134, ta134] using this
theorem kph (x1 : Int) (x2 : Rw) (wx2 : x2.length ≤ 1048576) (tx2 : ∀ r ∈ x2, typL km r) (sx2 : ∀ r ∈ x2, szdL km r) : t101 x1 x2 x1 x2 = some ([.one (.b true)], []) := by
 simp only [t101, ta101, bne_self_eq_false, bnt, bft, if_false, khf x2 wx2 tx2 sx2, zr134, zo134, okR, isVs, isV, isD, isDs, isOs, resC, outC, nthR, nthO, cellsDV, nthD, asB, asI, asS, asL, bat, bta, BEq.rfl, ka, decide_true]
abbrev kq : List Sh := [.i .i64]
theorem kch {r : List D} (h : typL kq r) : ∃ x1, r = [.i .i64 x1] := by
 obtain ⟨_, _, rfl, ⟨x1, rfl, _⟩, rfl⟩ := h
 exact ⟨x1, rfl⟩
theorem khg (b0 b1 : Bool) (q1 : Int → Bool → Bool → Rs) (q2 : Int → Bool → SV → Rs) (h2 : ∀ a b c, q2 a b c = some ([.one (.b true)], [])) (l : Rw) (h : ∀ r ∈ l, typL kq r) (hl : l.length < 4611686018427387904) : ∀ (k i m : Nat) (v w : SV), i + k = l.length → k < m →
  l60o1 l l b0 b1 q1 q2 m i v w = some ([.one (.b true)], []) := by
 intro k
 induction k with
 | zero =>
  intro i m v w e hm
  obtain ⟨m, rfl⟩ : ∃ m', m = m' + 1 := ⟨m - 1, by omega⟩
  have ei : decide ((i : Int) < (l.length : Int)) = false := by simp; omega
  simp only [l60o1, ei, h2]
  simp
 | succ k ih =>
  intro i m v w e hm
  obtain ⟨m, rfl⟩ : ∃ m', m = m' + 1 := ⟨m - 1, by omega⟩
  have hr := knb h (i := i) (by omega)
  obtain ⟨c1, er⟩ := kch hr
  have e1 : decide ((i : Int) < (l.length : Int)) = true := by simp; omega
  have e2 : decide ((0 : Int) ≤ (i : Int)) = true := by simp
  have ez : isRow z3 [.i .i64 c1] = true := rfl
  simp only [l60o1, e1, e2, itn, er, ez, nthD, asI, asS, asB, asL, bne_self_eq_false, resC, nthR, cellsDV, bat, ka, if_true, bnt, bft, if_false]
  rw [ke i (by omega)]
  exact ih (i + 1) m _ _ (by omega) (by omega)
theorem ktc (l : Rw) (hl : l.length ≤ 1048576) (h : ∀ r ∈ l, typL kq r) : t60 l l = some ([.one (.b true)], []) := by
 have := khg false false (fun _ _ _ => some ([.one (.b false)], [])) (fun _ _ _ => some ([.one (.b true)], [])) (fun _ _ _ => rfl) l h (by omega) l.length 0 KK .undef .undef (by omega) (by rw [kk]; omega)
 simpa [t60] using this
theorem kyg (x1 : Int) (x2 : BA) (x3 : BA) (x4 : Int) (x5 : Int) (x6 : BA)  : t105 x1 x2 x3 x4 x5 x6 x1 x2 x3 x4 x5 x6 = some ([.one (.b true)], []) := by
 simp only [t105, bne_self_eq_false, bnt, bft, if_false, okR, isVs, isV, isD, isDs, isOs, resC, outC, nthR, nthO, cellsDV, nthD, asB, asI, asS, asL, bat, bta, BEq.rfl, ka, decide_true]
theorem kre (x1 : Int) (x2 : BA)  : t163 x1 x2 x1 x2 = some ([.one (.b true)], []) := by
 simp only [t163, bne_self_eq_false, bnt, bft, if_false, okR, isVs, isV, isD, isDs, isOs, resC, outC, nthR, nthO, cellsDV, nthD, asB, asI, asS, asL, bat, bta, BEq.rfl, ka, decide_true]
abbrev kic : List Sh := [.i .i64, .i .i64, .i .i64, .i .i64, .i .i64]
theorem koi {r : List D} (h : typL kic r) : ∃ x1 x2 x3 x4 x5, r = [.i .i64 x1, .i .i64 x2, .i .i64 x3, .i .i64 x4, .i .i64 x5] := by
 obtain ⟨_, _, rfl, ⟨x1, rfl, _⟩, ⟨_, _, rfl, ⟨x2, rfl, _⟩, ⟨_, _, rfl, ⟨x3, rfl, _⟩, ⟨_, _, rfl, ⟨x4, rfl, _⟩, ⟨_, _, rfl, ⟨x5, rfl, _⟩, rfl⟩⟩⟩⟩⟩ := h
 exact ⟨x1, x2, x3, x4, x5, rfl⟩
theorem kog (x1 : Int) (x2 : Int) (x3 : Int) (x4 : Int) (x5 : Int)  : t135 x1 x2 x3 x4 x5 x1 x2 x3 x4 x5 = some ([.one (.b true)], []) := by
 simp only [t135, bne_self_eq_false, bnt, bft, if_false, okR, isVs, isV, isD, isDs, isOs, resC, outC, nthR, nthO, cellsDV, nthD, asB, asI, asS, asL, bat, bta, BEq.rfl, ka, decide_true]
theorem kcg (b0 b1 : Bool) (q1 : Int → Bool → Bool → Rs) (q2 : Int → Bool → SV → Rs) (h2 : ∀ a b c, q2 a b c = some ([.one (.b true)], [])) (l : Rw) (h : ∀ r ∈ l, typL kic r) (hl : l.length < 4611686018427387904) : ∀ (k i m : Nat) (v w : SV), i + k = l.length → k < m →
  la102o1 t135 l l b0 b1 q1 q2 m i v w = some ([.one (.b true)], []) := by
 intro k
 induction k with
 | zero =>
  intro i m v w e hm
  obtain ⟨m, rfl⟩ : ∃ m', m = m' + 1 := ⟨m - 1, by omega⟩
  have ei : decide ((i : Int) < (l.length : Int)) = false := by simp; omega
  simp only [la102o1, ei, h2]
  simp
 | succ k ih =>
  intro i m v w e hm
  obtain ⟨m, rfl⟩ : ∃ m', m = m' + 1 := ⟨m - 1, by omega⟩
  have hr := knb h (i := i) (by omega)
  obtain ⟨c1, c2, c3, c4, c5, er⟩ := koi hr
  have e1 : decide ((i : Int) < (l.length : Int)) = true := by simp; omega
  have e2 : decide ((0 : Int) ≤ (i : Int)) = true := by simp
  have ez : isRow z146 [.i .i64 c1, .i .i64 c2, .i .i64 c3, .i .i64 c4, .i .i64 c5] = true := rfl
  have ew : okR zr135 zo135 (some ([.one (.b true)], [])) = true := rfl
  simp only [la102o1, e1, e2, itn, er, ez, nthD, asI, asS, asB, asL, kog c1 c2 c3 c4 c5, resC, nthR, cellsDV, ew, bat, ka, if_true, bnt, bft, if_false]
  rw [ke i (by omega)]
  exact ih (i + 1) m _ _ (by omega) (by omega)
theorem kzf (l : Rw) (hl : l.length ≤ 1048576) (h : ∀ r ∈ l, typL kic r) : t102 l l = some ([.one (.b true)], []) := by
 have := kcg false false (fun _ _ _ => some ([.one (.b false)], [])) (fun _ _ _ => some ([.one (.b true)], [])) (fun _ _ _ => rfl) l h (by omega) l.length 0 KK .undef .undef (by omega) (by rw [kk]; omega)
 simpa [t102, ta102] using this
abbrev kxb : List Sh := [.i .i64, .i .i64, .i .i64, .i .i64, .s]
theorem krg {r : List D} (h : typL kxb r) : ∃ x1 x2 x3 x4 x5, r = [.i .i64 x1, .i .i64 x2, .i .i64 x3, .i .i64 x4, .s x5] ∧ x5.size ≤ maxLen := by
 obtain ⟨_, _, rfl, ⟨x1, rfl, _⟩, ⟨_, _, rfl, ⟨x2, rfl, _⟩, ⟨_, _, rfl, ⟨x3, rfl, _⟩, ⟨_, _, rfl, ⟨x4, rfl, _⟩, ⟨_, _, rfl, ⟨x5, rfl, wx5⟩, rfl⟩⟩⟩⟩⟩ := h
 exact ⟨x1, x2, x3, x4, x5, rfl, wx5⟩
theorem kme (x1 : Int) (x2 : Int) (x3 : Int) (x4 : Int) (x5 : BA)  : t136 x1 x2 x3 x4 x5 x1 x2 x3 x4 x5 = some ([.one (.b true)], []) := by
 simp only [t136, ta136, bne_self_eq_false, bnt, bft, if_false, kre x4 x5 , zr163, zo163, okR, isVs, isV, isD, isDs, isOs, resC, outC, nthR, nthO, cellsDV, nthD, asB, asI, asS, asL, bat, bta, BEq.rfl, ka, decide_true]
theorem ksd (b0 b1 : Bool) (q1 : Int → Bool → Bool → Rs) (q2 : Int → Bool → SV → Rs) (h2 : ∀ a b c, q2 a b c = some ([.one (.b true)], [])) (l : Rw) (h : ∀ r ∈ l, typL kxb r) (hl : l.length < 4611686018427387904) : ∀ (k i m : Nat) (v w : SV), i + k = l.length → k < m →
  la103o1 t136 l l b0 b1 q1 q2 m i v w = some ([.one (.b true)], []) := by
 intro k
 induction k with
 | zero =>
  intro i m v w e hm
  obtain ⟨m, rfl⟩ : ∃ m', m = m' + 1 := ⟨m - 1, by omega⟩
  have ei : decide ((i : Int) < (l.length : Int)) = false := by simp; omega
  simp only [la103o1, ei, h2]
  simp
 | succ k ih =>
  intro i m v w e hm
  obtain ⟨m, rfl⟩ : ∃ m', m = m' + 1 := ⟨m - 1, by omega⟩
  have hr := knb h (i := i) (by omega)
  obtain ⟨c1, c2, c3, c4, c5, er, wc5⟩ := krg hr
  have e1 : decide ((i : Int) < (l.length : Int)) = true := by simp; omega
  have e2 : decide ((0 : Int) ≤ (i : Int)) = true := by simp
  have ez : isRow z150 [.i .i64 c1, .i .i64 c2, .i .i64 c3, .i .i64 c4, .s c5] = true := rfl
  have ew : okR zr136 zo136 (some ([.one (.b true)], [])) = true := rfl
  simp only [la103o1, e1, e2, itn, er, ez, nthD, asI, asS, asB, asL, kme c1 c2 c3 c4 c5, resC, nthR, cellsDV, ew, bat, ka, if_true, bnt, bft, if_false]
  rw [ke i (by omega)]
  exact ih (i + 1) m _ _ (by omega) (by omega)
theorem kod (l : Rw) (hl : l.length ≤ 1048576) (h : ∀ r ∈ l, typL kxb r) : t103 l l = some ([.one (.b true)], []) := by
 have := ksd false false (fun _ _ _ => some ([.one (.b false)], [])) (fun _ _ _ => some ([.one (.b true)], [])) (fun _ _ _ => rfl) l h (by omega) l.length 0 KK .undef .undef (by omega) (by rw [kk]; omega)
 simpa [t103, ta103] using this
abbrev kg : List Sh := [.i .i64, .l [.i .i64, .i .i64, .i .i64, .i .i64, .i .i64, .s, .l [.s, .i .i64], .i .i64, .i .i64], .i .i64, .l [.i .i64, .i .i64, .i .i64, .i .i64, .i .i64], .l [.i .i64, .i .i64, .i .i64, .i .i64, .s]]
theorem kjc {r : List D} (h : typL kg r) : ∃ x1 x2 x3 x4 x5, r = [.i .i64 x1, .l x2, .i .i64 x3, .l x4, .l x5] ∧ x2.length ≤ maxLen ∧ (∀ r ∈ x2, typL km r) ∧ x4.length ≤ maxLen ∧ (∀ r ∈ x4, typL kic r) ∧ x5.length ≤ maxLen ∧ (∀ r ∈ x5, typL kxb r) := by
 obtain ⟨_, _, rfl, ⟨x1, rfl, _⟩, ⟨_, _, rfl, ⟨x2, rfl, wx2, tx2⟩, ⟨_, _, rfl, ⟨x3, rfl, _⟩, ⟨_, _, rfl, ⟨x4, rfl, wx4, tx4⟩, ⟨_, _, rfl, ⟨x5, rfl, wx5, tx5⟩, rfl⟩⟩⟩⟩⟩ := h
 exact ⟨x1, x2, x3, x4, x5, rfl, wx2, tx2, wx4, tx4, wx5, tx5⟩
theorem kff (x1 : Int) (x2 : Rw) (x3 : Int) (x4 : Rw) (x5 : Rw) (wx2 : x2.length ≤ 1048576) (tx2 : ∀ r ∈ x2, typL km r) (sx2 : ∀ r ∈ x2, szdL km r) (wx4 : x4.length ≤ 1048576) (tx4 : ∀ r ∈ x4, typL kic r) (wx5 : x5.length ≤ 1048576) (tx5 : ∀ r ∈ x5, typL kxb r) : t61 x1 x2 x3 x4 x5 x1 x2 x3 x4 x5 = some ([.one (.b true)], []) := by
 simp only [t61, ta61, bne_self_eq_false, bnt, bft, if_false, kph x1 x2 wx2 tx2 sx2, kzf x4 wx4 tx4, kod x5 wx5 tx5, zr101, zo101, zr102, zo102, zr103, zo103, okR, isVs, isV, isD, isDs, isOs, resC, outC, nthR, nthO, cellsDV, nthD, asB, asI, asS, asL, bat, bta, BEq.rfl, ka, decide_true]
theorem kpe (b0 b1 : Bool) (q1 : Int → Bool → Bool → Rs) (q2 : Int → Bool → SV → Rs) (h2 : ∀ a b c, q2 a b c = some ([.one (.b true)], [])) (l : Rw) (h : ∀ r ∈ l, typL kg r) (hs : ∀ r ∈ l, szdL kg r) (hl : l.length < 4611686018427387904) : ∀ (k i m : Nat) (v w : SV), i + k = l.length → k < m →
  la22o1 t61 l l b0 b1 q1 q2 m i v w = some ([.one (.b true)], []) := by
 intro k
 induction k with
 | zero =>
  intro i m v w e hm
  obtain ⟨m, rfl⟩ : ∃ m', m = m' + 1 := ⟨m - 1, by omega⟩
  have ei : decide ((i : Int) < (l.length : Int)) = false := by simp; omega
  simp only [la22o1, ei, h2]
  simp
 | succ k ih =>
  intro i m v w e hm
  obtain ⟨m, rfl⟩ : ∃ m', m = m' + 1 := ⟨m - 1, by omega⟩
  have hr := knb h (i := i) (by omega)
  obtain ⟨c1, c2, c3, c4, c5, er, wc2, tc2, wc4, tc4, wc5, tc5⟩ := kjc hr
  have hso := hs _ (ksf (l := l) (i := i) (by omega))
  rw [er] at hso
  have e1 : decide ((i : Int) < (l.length : Int)) = true := by simp; omega
  have e2 : decide ((0 : Int) ≤ (i : Int)) = true := by simp
  have ez : isRow z94 [.i .i64 c1, .l c2, .i .i64 c3, .l c4, .l c5] = true := rfl
  have ew : okR zr61 zo61 (some ([.one (.b true)], [])) = true := rfl
  simp only [la22o1, e1, e2, itn, er, ez, nthD, asI, asS, asB, asL, kff c1 c2 c3 c4 c5 hso.2.1.1 tc2 hso.2.1.2 hso.2.2.2.1.1 tc4 hso.2.2.2.2.1.1 tc5, resC, nthR, cellsDV, ew, bat, ka, if_true, bnt, bft, if_false]
  rw [ke i (by omega)]
  exact ih (i + 1) m _ _ (by omega) (by omega)
theorem kne (l : Rw) (hl : l.length ≤ 1048576) (h : ∀ r ∈ l, typL kg r) (hs : ∀ r ∈ l, szdL kg r) : t22 l l = some ([.one (.b true)], []) := by
 have := kpe false false (fun _ _ _ => some ([.one (.b false)], [])) (fun _ _ _ => some ([.one (.b true)], [])) (fun _ _ _ => rfl) l h hs (by omega) l.length 0 KK .undef .undef (by omega) (by rw [kk]; omega)
 simpa [t22, ta22] using this
abbrev kad : List Sh := [.i .i64, .i .i64, .i .i64, .i .i64, .s, .s, .i .i64, .i .i64, .s]
theorem kmi {r : List D} (h : typL kad r) : ∃ x1 x2 x3 x4 x5 x6 x7 x8 x9, r = [.i .i64 x1, .i .i64 x2, .i .i64 x3, .i .i64 x4, .s x5, .s x6, .i .i64 x7, .i .i64 x8, .s x9] ∧ x5.size ≤ maxLen ∧ x6.size ≤ maxLen ∧ x9.size ≤ maxLen := by
 obtain ⟨_, _, rfl, ⟨x1, rfl, _⟩, ⟨_, _, rfl, ⟨x2, rfl, _⟩, ⟨_, _, rfl, ⟨x3, rfl, _⟩, ⟨_, _, rfl, ⟨x4, rfl, _⟩, ⟨_, _, rfl, ⟨x5, rfl, wx5⟩, ⟨_, _, rfl, ⟨x6, rfl, wx6⟩, ⟨_, _, rfl, ⟨x7, rfl, _⟩, ⟨_, _, rfl, ⟨x8, rfl, _⟩, ⟨_, _, rfl, ⟨x9, rfl, wx9⟩, rfl⟩⟩⟩⟩⟩⟩⟩⟩⟩ := h
 exact ⟨x1, x2, x3, x4, x5, x6, x7, x8, x9, rfl, wx5, wx6, wx9⟩
theorem kvg (x1 : Int) (x2 : Int) (x3 : Int) (x4 : Int) (x5 : BA) (x6 : BA) (x7 : Int) (x8 : Int) (x9 : BA)  : t64 x1 x2 x3 x4 x5 x6 x7 x8 x9 x1 x2 x3 x4 x5 x6 x7 x8 x9 = some ([.one (.b true)], []) := by
 simp only [t64, ta64, bne_self_eq_false, bnt, bft, if_false, kyg x4 x5 x6 x7 x8 x9 , zr105, zo105, okR, isVs, isV, isD, isDs, isOs, resC, outC, nthR, nthO, cellsDV, nthD, asB, asI, asS, asL, bat, bta, BEq.rfl, ka, decide_true]
theorem ktf (b0 b1 : Bool) (q1 : Int → Bool → Bool → Rs) (q2 : Int → Bool → SV → Rs) (h2 : ∀ a b c, q2 a b c = some ([.one (.b true)], [])) (l : Rw) (h : ∀ r ∈ l, typL kad r) (hl : l.length < 4611686018427387904) : ∀ (k i m : Nat) (v w : SV), i + k = l.length → k < m →
  la25o1 t64 l l b0 b1 q1 q2 m i v w = some ([.one (.b true)], []) := by
 intro k
 induction k with
 | zero =>
  intro i m v w e hm
  obtain ⟨m, rfl⟩ : ∃ m', m = m' + 1 := ⟨m - 1, by omega⟩
  have ei : decide ((i : Int) < (l.length : Int)) = false := by simp; omega
  simp only [la25o1, ei, h2]
  simp
 | succ k ih =>
  intro i m v w e hm
  obtain ⟨m, rfl⟩ : ∃ m', m = m' + 1 := ⟨m - 1, by omega⟩
  have hr := knb h (i := i) (by omega)
  obtain ⟨c1, c2, c3, c4, c5, c6, c7, c8, c9, er, wc5, wc6, wc9⟩ := kmi hr
  have e1 : decide ((i : Int) < (l.length : Int)) = true := by simp; omega
  have e2 : decide ((0 : Int) ≤ (i : Int)) = true := by simp
  have ez : isRow z100 [.i .i64 c1, .i .i64 c2, .i .i64 c3, .i .i64 c4, .s c5, .s c6, .i .i64 c7, .i .i64 c8, .s c9] = true := rfl
  have ew : okR zr64 zo64 (some ([.one (.b true)], [])) = true := rfl
  simp only [la25o1, e1, e2, itn, er, ez, nthD, asI, asS, asB, asL, kvg c1 c2 c3 c4 c5 c6 c7 c8 c9, resC, nthR, cellsDV, ew, bat, ka, if_true, bnt, bft, if_false]
  rw [ke i (by omega)]
  exact ih (i + 1) m _ _ (by omega) (by omega)
theorem kvf (l : Rw) (hl : l.length ≤ 1048576) (h : ∀ r ∈ l, typL kad r) : t25 l l = some ([.one (.b true)], []) := by
 have := ktf false false (fun _ _ _ => some ([.one (.b false)], [])) (fun _ _ _ => some ([.one (.b true)], [])) (fun _ _ _ => rfl) l h (by omega) l.length 0 KK .undef .undef (by omega) (by rw [kk]; omega)
 simpa [t25, ta25] using this
theorem kah (x1 : Int) (x2 : Int) (x3 : Int) (x4 : Int) (x5 : Int) (x6 : Int) (x7 : Int) (x8 : Int) (x9 : Rw) (x10 : Int) (x11 : Rw) (x12 : Rw) (x13 : Rw) (wx9 : x9.length ≤ 1048576) (tx9 : ∀ r ∈ x9, typL ki r) (wx11 : x11.length ≤ 1048576) (tx11 : ∀ r ∈ x11, typL kq r) (wx12 : x12.length ≤ 1048576) (tx12 : ∀ r ∈ x12, typL kq r) (wx13 : x13.length ≤ 1048576) (tx13 : ∀ r ∈ x13, typL kq r) : t21 x1 x2 x3 x4 x5 x6 x7 x8 x9 x10 x11 x12 x13 x1 x2 x3 x4 x5 x6 x7 x8 x9 x10 x11 x12 x13 = some ([.one (.b true)], []) := by
 simp only [t21, ta21, bne_self_eq_false, bnt, bft, if_false, kyc x9 wx9 tx9, ktc x11 wx11 tx11, ktc x12 wx12 tx12, ktc x13 wx13 tx13, zr38, zo38, zr60, zo60, okR, isVs, isV, isD, isDs, isOs, resC, outC, nthR, nthO, cellsDV, nthD, asB, asI, asS, asL, bat, bta, BEq.rfl, ka, decide_true]
theorem kfb {sh : List Sh} {l : Rw} (h : ∀ r ∈ l, typL sh r) (z : List D) (hz : ∀ r, typL sh r → isRow z r = true) (i : Nat) (hi : i < l.length) : isRow z (l.getD i []) = true := hz _ (knb h hi)
theorem kmc : ∀ r, typL ki r → isRow z116 r = true := fun r h => by
 obtain ⟨a, b, rfl, _⟩ := khc h; rfl
def runB (l : Rw) (t : Int) : Nat → Nat → Int → Bool
 | 0, _, _ => true
 | k + 1, i, p => decide (p ≤ asI (nthD (l.getD i []) 0) ∧ asI (nthD (l.getD i []) 0) ≤ t ∧ ((asS (nthD (l.getD i []) 1)).size : Int) ≤ 1600) && runB l t k (i + 1) (asI (nthD (l.getD i []) 0))
def klc (a b : Int) : Bool := decide ((a = 0 ∧ b = 0) ∨ (1 ≤ a ∧ a ≤ 100000 ∧ 1 ≤ b ∧ b ≤ 100000))
theorem kvh (a b : Int) : t108 a b = some ([.one (.b (klc a b))], []) := by
 simp only [t108, ta108, koc, zr34, zo34, okR, isVs, isV, isD, isOs, resC, nthR, cellsDV, nthD, asB, bat, bto, ka]
 split <;> (apply kib; unfold klc; rw [Bool.eq_iff_iff]; simp_all; try omega)
theorem kze (s7 : BA) (b9 : Bool) (q1 : Int → BA → Bool → Rs) (h1 : ∀ n (s : BA) b, s.size ≤ 1000 → ∃ x, q1 n s b = some ([.one (.s x)], [])) : ∀ (k m : Nat) (n : Int) (s : BA) (v : SV), 0 ≤ n → n < 10 ^ k → n < 4611686018427387904 → k < m → s.size + k ≤ 1000 →
  ∃ x, l71o1 s7 b9 q1 m n s v = some ([.one (.s x)], []) := by
 intro k
 induction k with
 | zero =>
  intro m n s v h0 hn h2 hm hs
  obtain ⟨m, rfl⟩ : ∃ m', m = m' + 1 := ⟨m - 1, by omega⟩
  have e : decide (n > 0) = false := by simp; omega
  simp only [l71o1, e, bft, if_false]
  exact h1 _ _ _ (by omega)
 | succ k ih =>
  intro m n s v h0 hn h2 hm hs
  obtain ⟨m, rfl⟩ : ∃ m', m = m' + 1 := ⟨m - 1, by omega⟩
  by_cases e : n > 0
  ·have e' : decide (n > 0) = true := decide_eq_true e
   have hb : ∀ x : Int, isBytes [[D.i .u8 x]] = true := fun _ => rfl
   have hz : ∀ x : Int, (⟨(bytesD [[D.i .u8 x]]).toArray⟩ : BA).size = 1 := fun _ => rfl
   simp only [l71o1, e', if_true, hb, ka, hz]
   rw [kxd (decide_eq_true (by unfold lim; omega)), Int.tdiv_eq_ediv_of_nonneg h0, kb (n / 10) (by omega)]
   refine ih m (n / 10) _ _ (by omega) ?_ (by omega) (by omega) (by rw [ByteArray.size_append, hz]; omega)
   rw [Int.ediv_lt_iff_lt_mul (by omega)]
   rw [Int.pow_succ] at hn
   exact hn
  ·have e' : decide (n > 0) = false := decide_eq_false e
   simp only [l71o1, e', bft, if_false]
   exact h1 _ _ _ (by omega)
noncomputable def mkT (k : Int) : BA := asS (resC (t71 k) 0 0)
theorem kp (k : Int) (h : k < 4611686018427387904) : t71 k = some ([.one (.s (mkT k))], []) := by
 have : ∃ x, t71 k = some ([.one (.s x)], []) := by
  unfold t71
  by_cases e : k ≤ 0
  ·have e' : decide (k ≤ 0) = true := decide_eq_true e
   simp only [e', if_true]; exact ⟨_, rfl⟩
  ·have e' : decide (k ≤ 0) = false := decide_eq_false e
   simp only [e', bft, if_false]
   refine kze _ _ _ ?_ 20 KK k _ _ (by omega) (by omega) h (by rw [kk]; omega) (by show 0 + 20 ≤ 1000; omega)
   intro n s b hs
   have e0 : (⟨#[109]⟩ : BA).size = 1 := rfl
   simp only [e0]
   rw [kxd (decide_eq_true (by unfold lim; omega))]
   exact ⟨_, rfl⟩
 obtain ⟨x, hx⟩ := this
 have : mkT k = x := by unfold mkT; rw [hx]; rfl
 rw [this, hx]
theorem kz {x : BA} : okR zr71 zo71 (some ([.one (.s x)], [])) = true := rfl
theorem kab {x : BA} : asS (resC (some ([.one (.s x)], [])) 0 0) = x := rfl
theorem kdb (a b : Rw) (r ys : List D) (i off : Nat) (h : i = a.length) : stR (a ++ r :: b) i off ys = a ++ (r.take off ++ ys ++ r.drop (off + ys.length)) :: b := by
 subst h; unfold stR; exact kbe _ a r b
theorem kpb (a b : Rw) (r : List D) (i : Nat) (h : i = a.length) : (a ++ r :: b).getD i [] = r := by
 subst h; simp [List.getD]
theorem kbb : ∀ (es : List Sh) (r : List D), typL es r → r.length = es.length
 | [], r, h => by rw [show r = [] from h]; rfl
 | e :: es, r, h => by
  obtain ⟨d, r', rfl, _, h⟩ := h
  simp only [List.length_cons, kbb es r' h]
theorem kpd {n : Nat} {xs : Rw} (h : ∀ r ∈ xs, r.length = n) : fstSz n xs = true := by
 unfold fstSz
 cases xs with
 | nil => simp
 | cons r b => simpa using h r (by simp)
theorem kbj (a b : Rw) (i : Nat) (h : i = a.length) (c1 c2 d : D) : stR (a ++ [c1, c2] :: b) i 0 [d] = a ++ [d, c2] :: b := kdb a b _ _ i 0 h
theorem kwi (a b : Rw) (i : Nat) (h : i = a.length) (c1 c2 d : D) : stR (a ++ [c1, c2] :: b) i 1 [d] = a ++ [c1, d] :: b := kdb a b _ _ i 1 h
theorem len2 {r : List D} (h : r.length = 2) : ∃ c1 c2, r = [c1, c2] := by
 match r, h with
 | [c1, c2], _ => exact ⟨c1, c2, rfl⟩
noncomputable def khb (k : Int) : List D := [.i .i64 (k), .s (mkT (k + 1))]
noncomputable def kf : Int → Rw → Rw
 | _, [] => []
 | k, _ :: b => khb k :: kf (k + 1 + 1) b
theorem kvd (n8 : Int) (q : Int → Int → Bool → Rw → Rs) (hq : ∀ a b c d, q a b c d = some ([.one (.i .i64 a)], [[.l d]])) : ∀ (b a : Rw) (m : Nat) (k : Int) (v0 : SV), (∀ r ∈ b, r.length = 2) → b.length < m → a.length + b.length ≤ 4000000 → 0 ≤ k → k + 2 * (b.length : Int) ≤ 4000000000000000000 →
  la42o0 t71 n8 q m k (a.length : Int) v0 (a ++ b) = some ([.one (.i .i64 (k + 2 * (b.length : Int)))], [[.l (a ++ kf k b)]]) := by
 intro b
 induction b with
 | nil =>
  intro a m k v0 h hm hl h0 hk
  obtain ⟨m, rfl⟩ : ∃ m', m = m' + 1 := ⟨m - 1, by omega⟩
  have e : decide ((a.length : Int) < ((a ++ ([] : Rw)).length : Int)) = false := by simp
  have e2 : k + 2 * ((([] : Rw).length : Nat) : Int) = k := by simp
  simp only [la42o0, e, bft, if_false, hq, e2, kf]
 | cons r b ih =>
  intro a m k v0 h hm hl h0 hk
  obtain ⟨m, rfl⟩ : ∃ m', m = m' + 1 := ⟨m - 1, by omega⟩
  simp only [List.length_cons] at hm hl hk
  obtain ⟨c1, c2, rfl⟩ := len2 (h r (List.mem_cons_self ..))
  have hb : ∀ r ∈ b, r.length = 2 := fun r hr => h r (List.mem_cons_of_mem _ hr)
  have e1 : ∀ r : List D, decide ((a.length : Int) < ((a ++ r :: b).length : Int)) = true := fun r => decide_eq_true (by simp; omega)
  have e0 : decide (0 ≤ (a.length : Int)) = true := decide_eq_true (by omega)
  have p1 : ∀ r : List D, decide (1 ≤ 2 ∧ a.length < (a ++ r :: b).length) = true := fun r => decide_eq_true (by simp)
  have p2 : ∀ r : List D, decide (2 ≤ 2 ∧ a.length < (a ++ r :: b).length) = true := fun r => decide_eq_true (by simp)
  have u1 : w64 (k + 1) = k + 1 := kb _ (by omega)
  have u2 : w64 (k + 1 + 1) = k + 1 + 1 := kb _ (by omega)
  have t1 := kp (k + 1) (by omega)
  have hw := ke a.length (by omega)
  simp only [la42o0, e1, e0, if_true, itn, p1, p2, u1, u2, t1, kz, kab, kbj a b _ rfl, kwi a b _ rfl, bat, ka, hw]
  have := fun (z0 : SV) => ih (a ++ [khb k]) m (k + 1 + 1) z0 hb (by omega) (by simp; omega) (by omega) (by omega)
  have e3 : (a ++ [khb k]).length = a.length + 1 := by simp
  simp only [e3, List.append_assoc] at this
  have e4 : k + 2 * ((([c1, c2] :: b).length : Nat) : Int) = k + 1 + 1 + 2 * (b.length : Int) := by simp only [List.length_cons]; omega
  have e5 : a ++ kf k ([c1, c2] :: b) = (a ++ [khb k]) ++ kf (k + 1 + 1) b := by simp [kf]
  rw [e4, e5, List.append_assoc]
  exact this _
theorem kzc (l : Rw) (h : ∀ r ∈ l, r.length = 2) (hl : l.length ≤ 4000000) (k : Int) (h0 : 0 ≤ k) (hk : k + 2 * (l.length : Int) ≤ 4000000000000000000) : t42 l k = some ([.one (.i .i64 (k + 2 * (l.length : Int)))], [[.l (kf k l)]]) := by
 unfold t42 ta42
 exact kvd _ _ (fun _ _ _ _ => rfl) l [] KK k _ h (by rw [kk]; omega) (by simpa using hl) h0 hk
theorem kae (n9 : Int) (q1 : Int → Int → Bool → Bool → SV → Rs) (q2 : Int → Int → Bool → Bool → Bool → Rs) (q3 : Int → Int → Bool → SV → SV → Rs) (hq : ∀ x0 x1 x2 x3 x4, q3 x0 x1 x2 x3 x4 = some ([.one (.i .i64 x0)], [])) : ∀ (b a : Rw) (m : Nat) (k : Int) (v0 v1 v2 : SV) (L : Rw) (i : Int), L = a ++ kf k b → i = (a.length : Int) → b.length < m → a.length + b.length ≤ 4000000 → 0 ≤ k → k + 2 * (b.length : Int) ≤ 4000000000000000000 →
  la46o0 t71 L n9 q1 q2 q3 m k i v0 v1 v2 = some ([.one (.i .i64 (k + 2 * (b.length : Int)))], []) := by
 intro b
 induction b with
 | nil =>
  intro a m k v0 v1 v2 L i hL hi hm hl h0 hk
  subst hL hi
  obtain ⟨m, rfl⟩ : ∃ m', m = m' + 1 := ⟨m - 1, by omega⟩
  have e : decide ((a.length : Int) < ((a ++ ([] : Rw)).length : Int)) = false := by simp
  have e2 : k + 2 * ((([] : Rw).length : Nat) : Int) = k := by simp
  rw [show kf k [] = [] from rfl]
  simp only [la46o0, e, bft, if_false, hq, e2]
 | cons r b ih =>
  intro a m k v0 v1 v2 L i hL hi hm hl h0 hk
  subst hL hi
  obtain ⟨m, rfl⟩ : ∃ m', m = m' + 1 := ⟨m - 1, by omega⟩
  simp only [List.length_cons] at hm hl hk
  have e1 : ∀ (r : List D) (b : Rw), decide ((a.length : Int) < ((a ++ r :: b).length : Int)) = true := fun r b => decide_eq_true (by simp; omega)
  have e0 : decide (0 ≤ (a.length : Int)) = true := decide_eq_true (by omega)
  have eg : ∀ (r : List D) (b : Rw), (a ++ r :: b).getD a.length [] = r := fun r b => kpb a b r _ rfl
  have u1 : w64 (k + 1) = k + 1 := kb _ (by omega)
  have u2 : w64 (k + 1 + 1) = k + 1 + 1 := kb _ (by omega)
  have t1 := kp (k + 1) (by omega)
  have hw := ke a.length (by omega)
  have this := fun (z0 : SV) (z1 : SV) (z2 : SV) => ih (a ++ [khb k]) m (k + 1 + 1) z0 z1 z2 _ _ rfl rfl (by omega) (by simp; omega) (by omega) (by omega)
  have e3 : (a ++ [khb k]).length = a.length + 1 := by simp
  simp only [e3, List.append_assoc] at this
  have e4 : k + 2 * (((r :: b).length : Nat) : Int) = k + 1 + 1 + 2 * (b.length : Int) := by simp only [List.length_cons]; omega
  have e5 : a ++ kf k (r :: b) = a ++ khb k :: kf (k + 1 + 1) b := rfl
  rw [e5]
  have ez : isRow z116 (khb k) = true := rfl
  have d0 : asI (nthD (khb k) 0) = k := rfl
  have d1 : asS (nthD (khb k) 1) = mkT (k + 1) := rfl
  simp only [la46o0, e1, e0, if_true, itn, eg, ez, d0, d1, u1, u2, t1, kz, kab, bne_self_eq_false, beq_self_eq_true, bnt, bft, if_false, bat, ka, hw]
  rw [e4]
  exact this _ _ _
theorem kxc (l : Rw) (hl : l.length ≤ 4000000) (k : Int) (h0 : 0 ≤ k) (hk : k + 2 * (l.length : Int) ≤ 4000000000000000000) : t46 (kf k l) k = some ([.one (.i .i64 (k + 2 * (l.length : Int)))], []) := by
 unfold t46 ta46
 exact kae _ _ _ _ (fun _ _ _ _ _ => rfl) l [] KK k _ _ _ _ _ rfl rfl (by rw [kk]; omega) (by simpa using hl) h0 hk
theorem knj (a b : Rw) (i : Nat) (h : i = a.length) (c1 d : D) : stR (a ++ [c1] :: b) i 0 [d] = a ++ [d] :: b := kdb a b _ _ i 0 h
theorem len1 {r : List D} (h : r.length = 1) : ∃ c1, r = [c1] := by
 match r, h with
 | [c1], _ => exact ⟨c1, rfl⟩
noncomputable def kzb (k : Int) : List D := [.i .i64 (k)]
noncomputable def kh : Int → Rw → Rw
 | _, [] => []
 | k, _ :: b => kzb k :: kh (k + 1) b
theorem kxe (n8 : Int) (q : Int → Int → Bool → Rw → Rs) (hq : ∀ a b c d, q a b c d = some ([.one (.i .i64 a)], [[.l d]])) : ∀ (b a : Rw) (m : Nat) (k : Int) (v0 : SV), (∀ r ∈ b, r.length = 1) → b.length < m → a.length + b.length ≤ 4000000 → 0 ≤ k → k + 1 * (b.length : Int) ≤ 4000000000000000000 →
  l65o0 n8 q m k (a.length : Int) v0 (a ++ b) = some ([.one (.i .i64 (k + 1 * (b.length : Int)))], [[.l (a ++ kh k b)]]) := by
 intro b
 induction b with
 | nil =>
  intro a m k v0 h hm hl h0 hk
  obtain ⟨m, rfl⟩ : ∃ m', m = m' + 1 := ⟨m - 1, by omega⟩
  have e : decide ((a.length : Int) < ((a ++ ([] : Rw)).length : Int)) = false := by simp
  have e2 : k + 1 * ((([] : Rw).length : Nat) : Int) = k := by simp
  simp only [l65o0, e, bft, if_false, hq, e2, kh]
 | cons r b ih =>
  intro a m k v0 h hm hl h0 hk
  obtain ⟨m, rfl⟩ : ∃ m', m = m' + 1 := ⟨m - 1, by omega⟩
  simp only [List.length_cons] at hm hl hk
  obtain ⟨c1, rfl⟩ := len1 (h r (List.mem_cons_self ..))
  have hb : ∀ r ∈ b, r.length = 1 := fun r hr => h r (List.mem_cons_of_mem _ hr)
  have e1 : ∀ r : List D, decide ((a.length : Int) < ((a ++ r :: b).length : Int)) = true := fun r => decide_eq_true (by simp; omega)
  have e0 : decide (0 ≤ (a.length : Int)) = true := decide_eq_true (by omega)
  have p1 : ∀ r : List D, decide (1 ≤ 1 ∧ a.length < (a ++ r :: b).length) = true := fun r => decide_eq_true (by simp)
  have u1 : w64 (k + 1) = k + 1 := kb _ (by omega)
  have hw := ke a.length (by omega)
  simp only [l65o0, e1, e0, if_true, itn, p1, u1, knj a b _ rfl, bat, ka, hw]
  have := fun (z0 : SV) => ih (a ++ [kzb k]) m (k + 1) z0 hb (by omega) (by simp; omega) (by omega) (by omega)
  have e3 : (a ++ [kzb k]).length = a.length + 1 := by simp
  simp only [e3, List.append_assoc] at this
  have e4 : k + 1 * ((([c1] :: b).length : Nat) : Int) = k + 1 + 1 * (b.length : Int) := by simp only [List.length_cons]; omega
  have e5 : a ++ kh k ([c1] :: b) = (a ++ [kzb k]) ++ kh (k + 1) b := by simp [kh]
  rw [e4, e5, List.append_assoc]
  exact this _
theorem ksc (l : Rw) (h : ∀ r ∈ l, r.length = 1) (hl : l.length ≤ 4000000) (k : Int) (h0 : 0 ≤ k) (hk : k + 1 * (l.length : Int) ≤ 4000000000000000000) : t65 l k = some ([.one (.i .i64 (k + 1 * (l.length : Int)))], [[.l (kh k l)]]) := by
 unfold t65
 exact kxe _ _ (fun _ _ _ _ => rfl) l [] KK k _ h (by rw [kk]; omega) (by simpa using hl) h0 hk
theorem kse (n9 : Int) (q1 : Int → Int → Bool → Bool → Rs) (q2 : Int → Int → Bool → SV → Rs) (hq : ∀ x0 x1 x2 x3, q2 x0 x1 x2 x3 = some ([.one (.i .i64 x0)], [])) : ∀ (b a : Rw) (m : Nat) (k : Int) (v0 v1 : SV) (L : Rw) (i : Int), L = a ++ kh k b → i = (a.length : Int) → b.length < m → a.length + b.length ≤ 4000000 → 0 ≤ k → k + 1 * (b.length : Int) ≤ 4000000000000000000 →
  l72o0 L n9 q1 q2 m k i v0 v1 = some ([.one (.i .i64 (k + 1 * (b.length : Int)))], []) := by
 intro b
 induction b with
 | nil =>
  intro a m k v0 v1 L i hL hi hm hl h0 hk
  subst hL hi
  obtain ⟨m, rfl⟩ : ∃ m', m = m' + 1 := ⟨m - 1, by omega⟩
  have e : decide ((a.length : Int) < ((a ++ ([] : Rw)).length : Int)) = false := by simp
  have e2 : k + 1 * ((([] : Rw).length : Nat) : Int) = k := by simp
  rw [show kh k [] = [] from rfl]
  simp only [l72o0, e, bft, if_false, hq, e2]
 | cons r b ih =>
  intro a m k v0 v1 L i hL hi hm hl h0 hk
  subst hL hi
  obtain ⟨m, rfl⟩ : ∃ m', m = m' + 1 := ⟨m - 1, by omega⟩
  simp only [List.length_cons] at hm hl hk
  have e1 : ∀ (r : List D) (b : Rw), decide ((a.length : Int) < ((a ++ r :: b).length : Int)) = true := fun r b => decide_eq_true (by simp; omega)
  have e0 : decide (0 ≤ (a.length : Int)) = true := decide_eq_true (by omega)
  have eg : ∀ (r : List D) (b : Rw), (a ++ r :: b).getD a.length [] = r := fun r b => kpb a b r _ rfl
  have u1 : w64 (k + 1) = k + 1 := kb _ (by omega)
  have hw := ke a.length (by omega)
  have this := fun (z0 : SV) (z1 : SV) => ih (a ++ [kzb k]) m (k + 1) z0 z1 _ _ rfl rfl (by omega) (by simp; omega) (by omega) (by omega)
  have e3 : (a ++ [kzb k]).length = a.length + 1 := by simp
  simp only [e3, List.append_assoc] at this
  have e4 : k + 1 * (((r :: b).length : Nat) : Int) = k + 1 + 1 * (b.length : Int) := by simp only [List.length_cons]; omega
  have e5 : a ++ kh k (r :: b) = a ++ kzb k :: kh (k + 1) b := rfl
  rw [e5]
  have ez : isRow z3 (kzb k) = true := rfl
  have d0 : asI (nthD (kzb k) 0) = k := rfl
  simp only [l72o0, e1, e0, if_true, itn, eg, ez, d0, u1, bne_self_eq_false, beq_self_eq_true, bnt, bft, if_false, bat, ka, hw]
  rw [e4]
  exact this _ _
theorem krc (l : Rw) (hl : l.length ≤ 4000000) (k : Int) (h0 : 0 ≤ k) (hk : k + 1 * (l.length : Int) ≤ 4000000000000000000) : t72 (kh k l) k = some ([.one (.i .i64 (k + 1 * (l.length : Int)))], []) := by
 unfold t72
 exact kse _ _ _ (fun _ _ _ _ => rfl) l [] KK k _ _ _ _ rfl rfl (by rw [kk]; omega) (by simpa using hl) h0 hk
theorem klg (x1 : Int) (x2 : Int) (x3 : Int) (x4 : Int) (x5 : Int) (x6 : Int) (x7 : Int) (x8 : Int) (x9 : Rw) (x10 : Int) (x11 : Rw) (x12 : Rw) (x13 : Rw) (mx9 : ∀ r ∈ x9, r.length = 2) (wx9 : x9.length ≤ 1048576) (mx11 : ∀ r ∈ x11, r.length = 1) (wx11 : x11.length ≤ 1048576) (mx12 : ∀ r ∈ x12, r.length = 1) (wx12 : x12.length ≤ 1048576) (mx13 : ∀ r ∈ x13, r.length = 1) (wx13 : x13.length ≤ 1048576) (k : Int) (h0 : 0 ≤ k) (hk : k ≤ 3000000000000000000) : t26 x1 x2 x3 x4 x5 x6 x7 x8 x9 x10 x11 x12 x13 k = some ([.one (.i .i64 (k + 2 * (x9.length : Int) + 1 * (x11.length : Int) + 1 * (x12.length : Int) + 1 * (x13.length : Int)))], [[.i .i64 x1, .i .i64 x2, .i .i64 x3, .i .i64 x4, .i .i64 x5, .i .i64 x6, .i .i64 x7, .i .i64 x8, .l (kf (k) x9), .i .i64 x10, .l (kh (k + 2 * (x9.length : Int)) x11), .l (kh (k + 2 * (x9.length : Int) + 1 * (x11.length : Int)) x12), .l (kh (k + 2 * (x9.length : Int) + 1 * (x11.length : Int) + 1 * (x12.length : Int)) x13)]]) := by
 simp only [t26, ta26, kzc x9 mx9 (by omega) (k) (by omega) (by omega), ksc x11 mx11 (by omega) (k + 2 * (x9.length : Int)) (by omega) (by omega), ksc x12 mx12 (by omega) (k + 2 * (x9.length : Int) + 1 * (x11.length : Int)) (by omega) (by omega), ksc x13 mx13 (by omega) (k + 2 * (x9.length : Int) + 1 * (x11.length : Int) + 1 * (x12.length : Int)) (by omega) (by omega), zr42, zo42, zr65, zo65, okR, isVs, isV, isD, isDs, isOs, resC, outC, nthR, nthO, cellsDV, nthD, asB, asI, asS, asL, bat, bta, BEq.rfl, ka, decide_true]
theorem kug (x1 : Int) (x2 : Int) (x3 : Int) (x4 : Int) (x5 : Int) (x6 : Int) (x7 : Int) (x8 : Int) (x9 : Rw) (x10 : Int) (x11 : Rw) (x12 : Rw) (x13 : Rw) (mx9 : ∀ r ∈ x9, r.length = 2) (wx9 : x9.length ≤ 1048576) (mx11 : ∀ r ∈ x11, r.length = 1) (wx11 : x11.length ≤ 1048576) (mx12 : ∀ r ∈ x12, r.length = 1) (wx12 : x12.length ≤ 1048576) (mx13 : ∀ r ∈ x13, r.length = 1) (wx13 : x13.length ≤ 1048576) (k : Int) (h0 : 0 ≤ k) (hk : k ≤ 3000000000000000000) : t30 x1 x2 x3 x4 x5 x6 x7 x8 (kf (k) x9) x10 (kh (k + 2 * (x9.length : Int)) x11) (kh (k + 2 * (x9.length : Int) + 1 * (x11.length : Int)) x12) (kh (k + 2 * (x9.length : Int) + 1 * (x11.length : Int) + 1 * (x12.length : Int)) x13) k = some ([.one (.i .i64 (k + 2 * (x9.length : Int) + 1 * (x11.length : Int) + 1 * (x12.length : Int) + 1 * (x13.length : Int)))], []) := by
 have n0 : decide (k + 2 * (x9.length : Int) < 0) = false := decide_eq_false (by omega)
 have n1 : decide (k + 2 * (x9.length : Int) + 1 * (x11.length : Int) < 0) = false := decide_eq_false (by omega)
 have n2 : decide (k + 2 * (x9.length : Int) + 1 * (x11.length : Int) + 1 * (x12.length : Int) < 0) = false := decide_eq_false (by omega)
 have n3 : decide (k + 2 * (x9.length : Int) + 1 * (x11.length : Int) + 1 * (x12.length : Int) + 1 * (x13.length : Int) < 0) = false := decide_eq_false (by omega)
 simp only [t30, ta30, kxc x9 (by omega) (k) (by omega) (by omega), krc x11 (by omega) (k + 2 * (x9.length : Int)) (by omega) (by omega), krc x12 (by omega) (k + 2 * (x9.length : Int) + 1 * (x11.length : Int)) (by omega) (by omega), krc x13 (by omega) (k + 2 * (x9.length : Int) + 1 * (x11.length : Int) + 1 * (x12.length : Int)) (by omega) (by omega), zr46, zo46, zr72, zo72, n0, n1, n2, n3, bft, if_false, okR, isVs, isV, isD, isDs, isOs, resC, outC, nthR, nthO, cellsDV, nthD, asB, asI, asS, asL, bat, bta, BEq.rfl, ka, decide_true]
noncomputable def keb (k : Int) : List D := [.s (mkT (k)), .i .i64 (k + 1)]
noncomputable def kn : Int → Rw → Rw
 | _, [] => []
 | k, _ :: b => keb k :: kn (k + 1 + 1) b
theorem kkd (n8 : Int) (q : Int → Int → Bool → Rw → Rs) (hq : ∀ a b c d, q a b c d = some ([.one (.i .i64 a)], [[.l d]])) : ∀ (b a : Rw) (m : Nat) (k : Int) (v0 : SV), (∀ r ∈ b, r.length = 2) → b.length < m → a.length + b.length ≤ 4000000 → 0 ≤ k → k + 2 * (b.length : Int) ≤ 4000000000000000000 →
  la106o0 t71 n8 q m k (a.length : Int) v0 (a ++ b) = some ([.one (.i .i64 (k + 2 * (b.length : Int)))], [[.l (a ++ kn k b)]]) := by
 intro b
 induction b with
 | nil =>
  intro a m k v0 h hm hl h0 hk
  obtain ⟨m, rfl⟩ : ∃ m', m = m' + 1 := ⟨m - 1, by omega⟩
  have e : decide ((a.length : Int) < ((a ++ ([] : Rw)).length : Int)) = false := by simp
  have e2 : k + 2 * ((([] : Rw).length : Nat) : Int) = k := by simp
  simp only [la106o0, e, bft, if_false, hq, e2, kn]
 | cons r b ih =>
  intro a m k v0 h hm hl h0 hk
  obtain ⟨m, rfl⟩ : ∃ m', m = m' + 1 := ⟨m - 1, by omega⟩
  simp only [List.length_cons] at hm hl hk
  obtain ⟨c1, c2, rfl⟩ := len2 (h r (List.mem_cons_self ..))
  have hb : ∀ r ∈ b, r.length = 2 := fun r hr => h r (List.mem_cons_of_mem _ hr)
  have e1 : ∀ r : List D, decide ((a.length : Int) < ((a ++ r :: b).length : Int)) = true := fun r => decide_eq_true (by simp; omega)
  have e0 : decide (0 ≤ (a.length : Int)) = true := decide_eq_true (by omega)
  have p1 : ∀ r : List D, decide (1 ≤ 2 ∧ a.length < (a ++ r :: b).length) = true := fun r => decide_eq_true (by simp)
  have p2 : ∀ r : List D, decide (2 ≤ 2 ∧ a.length < (a ++ r :: b).length) = true := fun r => decide_eq_true (by simp)
  have u1 : w64 (k + 1) = k + 1 := kb _ (by omega)
  have u2 : w64 (k + 1 + 1) = k + 1 + 1 := kb _ (by omega)
  have t0 := kp (k) (by omega)
  have hw := ke a.length (by omega)
  simp only [la106o0, e1, e0, if_true, itn, p1, p2, u1, u2, t0, kz, kab, kbj a b _ rfl, kwi a b _ rfl, bat, ka, hw]
  have := fun (z0 : SV) => ih (a ++ [keb k]) m (k + 1 + 1) z0 hb (by omega) (by simp; omega) (by omega) (by omega)
  have e3 : (a ++ [keb k]).length = a.length + 1 := by simp
  simp only [e3, List.append_assoc] at this
  have e4 : k + 2 * ((([c1, c2] :: b).length : Nat) : Int) = k + 1 + 1 + 2 * (b.length : Int) := by simp only [List.length_cons]; omega
  have e5 : a ++ kn k ([c1, c2] :: b) = (a ++ [keb k]) ++ kn (k + 1 + 1) b := by simp [kn]
  rw [e4, e5, List.append_assoc]
  exact this _
theorem kie (l : Rw) (h : ∀ r ∈ l, r.length = 2) (hl : l.length ≤ 4000000) (k : Int) (h0 : 0 ≤ k) (hk : k + 2 * (l.length : Int) ≤ 4000000000000000000) : t106 l k = some ([.one (.i .i64 (k + 2 * (l.length : Int)))], [[.l (kn k l)]]) := by
 unfold t106 ta106
 exact kkd _ _ (fun _ _ _ _ => rfl) l [] KK k _ h (by rw [kk]; omega) (by simpa using hl) h0 hk
theorem kmd (n9 : Int) (q1 : Int → Int → Bool → Bool → SV → Rs) (q2 : Int → Int → Bool → Bool → Bool → Rs) (q3 : Int → Int → Bool → SV → SV → Rs) (hq : ∀ x0 x1 x2 x3 x4, q3 x0 x1 x2 x3 x4 = some ([.one (.i .i64 x0)], [])) : ∀ (b a : Rw) (m : Nat) (k : Int) (v0 v1 v2 : SV) (L : Rw) (i : Int), L = a ++ kn k b → i = (a.length : Int) → b.length < m → a.length + b.length ≤ 4000000 → 0 ≤ k → k + 2 * (b.length : Int) ≤ 4000000000000000000 →
  la107o0 t71 L n9 q1 q2 q3 m k i v0 v1 v2 = some ([.one (.i .i64 (k + 2 * (b.length : Int)))], []) := by
 intro b
 induction b with
 | nil =>
  intro a m k v0 v1 v2 L i hL hi hm hl h0 hk
  subst hL hi
  obtain ⟨m, rfl⟩ : ∃ m', m = m' + 1 := ⟨m - 1, by omega⟩
  have e : decide ((a.length : Int) < ((a ++ ([] : Rw)).length : Int)) = false := by simp
  have e2 : k + 2 * ((([] : Rw).length : Nat) : Int) = k := by simp
  rw [show kn k [] = [] from rfl]
  simp only [la107o0, e, bft, if_false, hq, e2]
 | cons r b ih =>
  intro a m k v0 v1 v2 L i hL hi hm hl h0 hk
  subst hL hi
  obtain ⟨m, rfl⟩ : ∃ m', m = m' + 1 := ⟨m - 1, by omega⟩
  simp only [List.length_cons] at hm hl hk
  have e1 : ∀ (r : List D) (b : Rw), decide ((a.length : Int) < ((a ++ r :: b).length : Int)) = true := fun r b => decide_eq_true (by simp; omega)
  have e0 : decide (0 ≤ (a.length : Int)) = true := decide_eq_true (by omega)
  have eg : ∀ (r : List D) (b : Rw), (a ++ r :: b).getD a.length [] = r := fun r b => kpb a b r _ rfl
  have u1 : w64 (k + 1) = k + 1 := kb _ (by omega)
  have u2 : w64 (k + 1 + 1) = k + 1 + 1 := kb _ (by omega)
  have t0 := kp (k) (by omega)
  have hw := ke a.length (by omega)
  have this := fun (z0 : SV) (z1 : SV) (z2 : SV) => ih (a ++ [keb k]) m (k + 1 + 1) z0 z1 z2 _ _ rfl rfl (by omega) (by simp; omega) (by omega) (by omega)
  have e3 : (a ++ [keb k]).length = a.length + 1 := by simp
  simp only [e3, List.append_assoc] at this
  have e4 : k + 2 * (((r :: b).length : Nat) : Int) = k + 1 + 1 + 2 * (b.length : Int) := by simp only [List.length_cons]; omega
  have e5 : a ++ kn k (r :: b) = a ++ keb k :: kn (k + 1 + 1) b := rfl
  rw [e5]
  have ez : isRow z179 (keb k) = true := rfl
  have d0 : asS (nthD (keb k) 0) = mkT (k) := rfl
  have d1 : asI (nthD (keb k) 1) = k + 1 := rfl
  simp only [la107o0, e1, e0, if_true, itn, eg, ez, d0, d1, u1, u2, t0, kz, kab, bne_self_eq_false, beq_self_eq_true, bnt, bft, if_false, bat, ka, hw]
  rw [e4]
  exact this _ _ _
theorem kle (l : Rw) (hl : l.length ≤ 4000000) (k : Int) (h0 : 0 ≤ k) (hk : k + 2 * (l.length : Int) ≤ 4000000000000000000) : t107 (kn k l) k = some ([.one (.i .i64 (k + 2 * (l.length : Int)))], []) := by
 unfold t107 ta107
 exact kmd _ _ _ _ (fun _ _ _ _ _ => rfl) l [] KK k _ _ _ _ _ rfl rfl (by rw [kk]; omega) (by simpa using hl) h0 hk
noncomputable def kr (k : Int) (r : List D) : List D := [.i .i64 (k), .i .i64 (k + 1), .i .i64 (k + 1 + 1), .i .i64 (k + 1 + 1 + 1), .i .i64 (k + 1 + 1 + 1 + 1), .s (mkT (k + 1 + 1 + 1 + 1 + 1)), .l (kn (k + 1 + 1 + 1 + 1 + 1 + 1) (asL (nthD r 6))), .i .i64 (k + 1 + 1 + 1 + 1 + 1 + 1 + 2 * (((asL (nthD r 6))).length : Int)), .i .i64 (k + 1 + 1 + 1 + 1 + 1 + 1 + 2 * (((asL (nthD r 6))).length : Int) + 1)]
def ksb (r : List D) : Int := 8 + 2 * (((asL (nthD r 6))).length : Int)
noncomputable def ko : Int → Rw → Rw
 | _, [] => []
 | k, r :: b => kr k r :: ko (k + ksb r) b
def kc : Rw → Int
 | [] => 0
 | r :: b => ksb r + kc b
theorem kwb : ∀ (b : Rw), 0 ≤ kc b
 | [] => by simp [kc]
 | r :: b => by
  have h := kwb b
  simp only [kc, ksb]
  omega
theorem kbd : ∀ (b : Rw), (∀ r ∈ b, typL km r) → (∀ r ∈ b, szdL km r) → kc b ≤ 2097160 * (b.length : Int)
 | [], _, _ => by simp [kc]
 | r :: b, h, hs => by
  have ih := kbd b (fun r hr => h r (List.mem_cons_of_mem _ hr)) (fun r hr => hs r (List.mem_cons_of_mem _ hr))
  have hz := hs r (List.mem_cons_self ..)
  obtain ⟨x1, x2, x3, x4, x5, x6, x7, x8, x9, rfl, wx6, wx7, tx7⟩ := knc (h r (List.mem_cons_self ..))
  have sx7 : x7.length ≤ 1048576 ∧ ∀ r ∈ x7, szdL kac r := hz.2.2.2.2.2.2.1
  have lx7 := sx7.1
  simp only [kc, ksb, nthD, asL, List.length_cons]
  omega
theorem ksi (a b : Rw) (i : Nat) (h : i = a.length) (c1 c2 c3 c4 c5 c6 c7 c8 c9 d : D) : stR (a ++ [c1, c2, c3, c4, c5, c6, c7, c8, c9] :: b) i 0 [d] = a ++ [d, c2, c3, c4, c5, c6, c7, c8, c9] :: b := kdb a b _ _ i 0 h
theorem kui (a b : Rw) (i : Nat) (h : i = a.length) (c1 c2 c3 c4 c5 c6 c7 c8 c9 d : D) : stR (a ++ [c1, c2, c3, c4, c5, c6, c7, c8, c9] :: b) i 1 [d] = a ++ [c1, d, c3, c4, c5, c6, c7, c8, c9] :: b := kdb a b _ _ i 1 h
theorem kxi (a b : Rw) (i : Nat) (h : i = a.length) (c1 c2 c3 c4 c5 c6 c7 c8 c9 d : D) : stR (a ++ [c1, c2, c3, c4, c5, c6, c7, c8, c9] :: b) i 2 [d] = a ++ [c1, c2, d, c4, c5, c6, c7, c8, c9] :: b := kdb a b _ _ i 2 h
theorem kaj (a b : Rw) (i : Nat) (h : i = a.length) (c1 c2 c3 c4 c5 c6 c7 c8 c9 d : D) : stR (a ++ [c1, c2, c3, c4, c5, c6, c7, c8, c9] :: b) i 3 [d] = a ++ [c1, c2, c3, d, c5, c6, c7, c8, c9] :: b := kdb a b _ _ i 3 h
theorem kti (a b : Rw) (i : Nat) (h : i = a.length) (c1 c2 c3 c4 c5 c6 c7 c8 c9 d : D) : stR (a ++ [c1, c2, c3, c4, c5, c6, c7, c8, c9] :: b) i 4 [d] = a ++ [c1, c2, c3, c4, d, c6, c7, c8, c9] :: b := kdb a b _ _ i 4 h
theorem kqi (a b : Rw) (i : Nat) (h : i = a.length) (c1 c2 c3 c4 c5 c6 c7 c8 c9 d : D) : stR (a ++ [c1, c2, c3, c4, c5, c6, c7, c8, c9] :: b) i 5 [d] = a ++ [c1, c2, c3, c4, c5, d, c7, c8, c9] :: b := kdb a b _ _ i 5 h
theorem kyi (a b : Rw) (i : Nat) (h : i = a.length) (c1 c2 c3 c4 c5 c6 c7 c8 c9 d : D) : stR (a ++ [c1, c2, c3, c4, c5, c6, c7, c8, c9] :: b) i 6 [d] = a ++ [c1, c2, c3, c4, c5, c6, d, c8, c9] :: b := kdb a b _ _ i 6 h
theorem kri (a b : Rw) (i : Nat) (h : i = a.length) (c1 c2 c3 c4 c5 c6 c7 c8 c9 d : D) : stR (a ++ [c1, c2, c3, c4, c5, c6, c7, c8, c9] :: b) i 7 [d] = a ++ [c1, c2, c3, c4, c5, c6, c7, d, c9] :: b := kdb a b _ _ i 7 h
theorem kvi (a b : Rw) (i : Nat) (h : i = a.length) (c1 c2 c3 c4 c5 c6 c7 c8 c9 d : D) : stR (a ++ [c1, c2, c3, c4, c5, c6, c7, c8, c9] :: b) i 8 [d] = a ++ [c1, c2, c3, c4, c5, c6, c7, c8, d] :: b := kdb a b _ _ i 8 h
theorem kwd (n8 : Int) (q : Int → Int → Bool → Rw → Rs) (hq : ∀ a b c d, q a b c d = some ([.one (.i .i64 a)], [[.l d]])) : ∀ (b a : Rw) (m : Nat) (k : Int) (v0 : SV), (∀ r ∈ b, typL km r) → (∀ r ∈ b, szdL km r) → b.length < m → a.length + b.length ≤ 4000000 → 0 ≤ k → k + kc b ≤ 4000000000000000000 →
  la66o0 t71 t106 n8 q m k (a.length : Int) v0 (a ++ b) = some ([.one (.i .i64 (k + kc b))], [[.l (a ++ ko k b)]]) := by
 intro b
 induction b with
 | nil =>
  intro a m k v0 h hs hm hl h0 hk
  obtain ⟨m, rfl⟩ : ∃ m', m = m' + 1 := ⟨m - 1, by omega⟩
  have e : decide ((a.length : Int) < ((a ++ ([] : Rw)).length : Int)) = false := by simp
  have e2 : k + kc [] = k := by simp [kc]
  simp only [la66o0, e, bft, if_false, hq, e2, ko]
 | cons r b ih =>
  intro a m k v0 h hs hm hl h0 hk
  obtain ⟨m, rfl⟩ : ∃ m', m = m' + 1 := ⟨m - 1, by omega⟩
  simp only [List.length_cons] at hm hl
  have hz := hs r (List.mem_cons_self ..)
  obtain ⟨x1, x2, x3, x4, x5, x6, x7, x8, x9, rfl, wx6, wx7, tx7⟩ := knc (h r (List.mem_cons_self ..))
  have hb : ∀ r ∈ b, typL km r := fun r hr => h r (List.mem_cons_of_mem _ hr)
  have hb2 : ∀ r ∈ b, szdL km r := fun r hr => hs r (List.mem_cons_of_mem _ hr)
  have sx7 : x7.length ≤ 1048576 ∧ ∀ r ∈ x7, szdL kac r := hz.2.2.2.2.2.2.1
  have lx7 := sx7.1
  have nb := kwb b
  have e6 : k + ksb [.i .i64 x1, .i .i64 x2, .i .i64 x3, .i .i64 x4, .i .i64 x5, .s x6, .l x7, .i .i64 x8, .i .i64 x9] = k + 1 + 1 + 1 + 1 + 1 + 1 + 2 * (x7.length : Int) + 1 + 1 := by simp only [ksb, nthD, asL]; omega
  have e7 : k + kc ([.i .i64 x1, .i .i64 x2, .i .i64 x3, .i .i64 x4, .i .i64 x5, .s x6, .l x7, .i .i64 x8, .i .i64 x9] :: b) = k + 1 + 1 + 1 + 1 + 1 + 1 + 2 * (x7.length : Int) + 1 + 1 + kc b := by rw [kc, ← Int.add_assoc, e6]
  rw [e7] at hk
  have e1 : ∀ r : List D, decide ((a.length : Int) < ((a ++ r :: b).length : Int)) = true := fun r => decide_eq_true (by simp; omega)
  have e0 : decide (0 ≤ (a.length : Int)) = true := decide_eq_true (by omega)
  have eg : ∀ (r : List D), (a ++ r :: b).getD a.length [] = r := fun r => kpb a b r _ rfl
  have p0 : ∀ r : List D, decide (1 ≤ 9 ∧ a.length < (a ++ r :: b).length) = true := fun r => decide_eq_true (by simp)
  have p1 : ∀ r : List D, decide (2 ≤ 9 ∧ a.length < (a ++ r :: b).length) = true := fun r => decide_eq_true (by simp)
  have p2 : ∀ r : List D, decide (3 ≤ 9 ∧ a.length < (a ++ r :: b).length) = true := fun r => decide_eq_true (by simp)
  have p3 : ∀ r : List D, decide (4 ≤ 9 ∧ a.length < (a ++ r :: b).length) = true := fun r => decide_eq_true (by simp)
  have p4 : ∀ r : List D, decide (5 ≤ 9 ∧ a.length < (a ++ r :: b).length) = true := fun r => decide_eq_true (by simp)
  have p5 : ∀ r : List D, decide (6 ≤ 9 ∧ a.length < (a ++ r :: b).length) = true := fun r => decide_eq_true (by simp)
  have p7 : ∀ r : List D, decide (8 ≤ 9 ∧ a.length < (a ++ r :: b).length) = true := fun r => decide_eq_true (by simp)
  have p8 : ∀ r : List D, decide (9 ≤ 9 ∧ a.length < (a ++ r :: b).length) = true := fun r => decide_eq_true (by simp)
  have u0 : w64 (k + 1) = k + 1 := kb _ (by omega)
  have u1 : w64 (k + 1 + 1) = k + 1 + 1 := kb _ (by omega)
  have u2 : w64 (k + 1 + 1 + 1) = k + 1 + 1 + 1 := kb _ (by omega)
  have u3 : w64 (k + 1 + 1 + 1 + 1) = k + 1 + 1 + 1 + 1 := kb _ (by omega)
  have u4 : w64 (k + 1 + 1 + 1 + 1 + 1) = k + 1 + 1 + 1 + 1 + 1 := kb _ (by omega)
  have u5 : w64 (k + 1 + 1 + 1 + 1 + 1 + 1) = k + 1 + 1 + 1 + 1 + 1 + 1 := kb _ (by omega)
  have u7 : w64 (k + 1 + 1 + 1 + 1 + 1 + 1 + 2 * (x7.length : Int) + 1) = k + 1 + 1 + 1 + 1 + 1 + 1 + 2 * (x7.length : Int) + 1 := kb _ (by omega)
  have u8 : w64 (k + 1 + 1 + 1 + 1 + 1 + 1 + 2 * (x7.length : Int) + 1 + 1) = k + 1 + 1 + 1 + 1 + 1 + 1 + 2 * (x7.length : Int) + 1 + 1 := kb _ (by omega)
  have t5 := kp (k + 1 + 1 + 1 + 1 + 1) (by omega)
  have m6 := kie x7 (fun r hr => kbb _ r (tx7 r hr)) (by omega) (k + 1 + 1 + 1 + 1 + 1 + 1) (by omega) (by omega)
  have f6 : fstSz 2 x7 = true := kpd (fun r hr => kbb _ r (tx7 r hr))
  have o6 : ∀ z (y : Rw), okR zr106 zo106 (some ([.one (.i .i64 z)], [[.l y]])) = true := fun _ _ => rfl
  have v6 : ∀ z (y : Rw), asL (outC (some ([.one (.i .i64 z)], [[.l y]])) 0 0) = y := fun _ _ => rfl
  have i6 : ∀ z (y : Rw), asI (resC (some ([.one (.i .i64 z)], [[.l y]])) 0 0) = z := fun _ _ => rfl
  have d6 : ∀ c1 c2 c3 c4 c5 c6 c8 c9 : D, asL (nthD [c1, c2, c3, c4, c5, c6, .l x7, c8, c9] 6) = x7 := fun _ _ _ _ _ _ _ _ => rfl
  have h6 : ∀ c1 c2 c3 c4 c5 c6 c8 c9 : D, decide (7 ≤ ([c1, c2, c3, c4, c5, c6, .l x7, c8, c9] : List D).length) = true := fun _ _ _ _ _ _ _ _ => rfl
  have k6 : ∀ c1 c2 c3 c4 c5 c6 c8 c9 : D, isF [.l []] 6 [c1, c2, c3, c4, c5, c6, .l x7, c8, c9] = true := fun _ _ _ _ _ _ _ _ => rfl
  have hw := ke a.length (by omega)
  simp only [la66o0, e1, e0, eg, if_true, itn, p0, p1, p2, p3, p4, p5, p7, p8, u0, u1, u2, u3, u4, u5, u7, u8, t5, ta5, kz, kab, ksi a b _ rfl, kui a b _ rfl, kxi a b _ rfl, kaj a b _ rfl, kti a b _ rfl, kqi a b _ rfl, kyi a b _ rfl, kri a b _ rfl, kvi a b _ rfl, m6, f6, o6, v6, i6, d6, h6, k6, bat, ka, hw]
  have := fun (z0 : SV) => ih (a ++ [kr k [.i .i64 x1, .i .i64 x2, .i .i64 x3, .i .i64 x4, .i .i64 x5, .s x6, .l x7, .i .i64 x8, .i .i64 x9]]) m (k + 1 + 1 + 1 + 1 + 1 + 1 + 2 * (x7.length : Int) + 1 + 1) z0 hb hb2 (by omega) (by simp; omega) (by omega) (by omega)
  have e3 : (a ++ [kr k [.i .i64 x1, .i .i64 x2, .i .i64 x3, .i .i64 x4, .i .i64 x5, .s x6, .l x7, .i .i64 x8, .i .i64 x9]]).length = a.length + 1 := by simp
  simp only [e3, List.append_assoc] at this
  have e5 : a ++ ko k ([.i .i64 x1, .i .i64 x2, .i .i64 x3, .i .i64 x4, .i .i64 x5, .s x6, .l x7, .i .i64 x8, .i .i64 x9] :: b) = (a ++ [kr k [.i .i64 x1, .i .i64 x2, .i .i64 x3, .i .i64 x4, .i .i64 x5, .s x6, .l x7, .i .i64 x8, .i .i64 x9]]) ++ ko (k + 1 + 1 + 1 + 1 + 1 + 1 + 2 * (x7.length : Int) + 1 + 1) b := by rw [ko, e6, List.append_assoc]; rfl
  rw [e7, e5, List.append_assoc]
  exact this _
theorem kbf (l : Rw) (h : ∀ r ∈ l, typL km r) (hs : ∀ r ∈ l, szdL km r) (hl : l.length ≤ 4000000) (k : Int) (h0 : 0 ≤ k) (hk : k + kc l ≤ 4000000000000000000) : t66 l k = some ([.one (.i .i64 (k + kc l))], [[.l (ko k l)]]) := by
 unfold t66 ta66
 exact kwd _ _ (fun _ _ _ _ => rfl) l [] KK k _ h hs (by rw [kk]; omega) (by simpa using hl) h0 hk
theorem gz0 : ∀ z, okR zr107 zo107 (some ([.one (.i .i64 z)], [])) = true := fun _ => id rfl
theorem gz1 : ∀ z, asI (resC (some ([.one (.i .i64 z)], [])) 0 0) = z := fun _ => id rfl
theorem kzd (n9 : Int) (q1 : Int → Int → Bool → Bool → SV → SV → SV → SV → SV → SV → SV → SV → Rs) (q2 : Int → Int → Bool → Bool → Bool → SV → SV → SV → SV → SV → SV → SV → Rs) (q3 : Int → Int → Bool → Bool → Bool → Bool → SV → SV → SV → SV → SV → SV → Rs) (q4 : Int → Int → Bool → Bool → Bool → Bool → Bool → SV → SV → SV → SV → SV → Rs) (q5 : Int → Int → Bool → Bool → Bool → Bool → Bool → Bool → SV → SV → SV → SV → Rs) (q6 : Int → Int → Bool → Bool → Bool → Bool → Bool → Bool → Bool → SV → SV → SV → Rs) (q7 : Int → Int → Bool → Bool → Bool → Bool → Bool → Bool → Bool → Bool → SV → SV → Rs) (q8 : Int → Int → Bool → Bool → Bool → Bool → Bool → Bool → Bool → Bool → Bool → SV → Rs) (q9 : Int → Int → Bool → Bool → Bool → Bool → Bool → Bool → Bool → Bool → Bool → Bool → Rs) (q10 : Int → Int → Bool → SV → SV → SV → SV → SV → SV → SV → SV → SV → Rs) (hq : ∀ z0 z1 z2 z3 z4 z5 z6 z7 z8 z9 z10 z11, q10 z0 z1 z2 z3 z4 z5 z6 z7 z8 z9 z10 z11 = some ([.one (.i .i64 z0)], [])) : ∀ (b a : Rw) (m : Nat) (k : Int) (v0 v1 v2 v3 v4 v5 v6 v7 v8 v9 : SV) (L : Rw) (i : Int), (∀ r ∈ b, typL km r) → (∀ r ∈ b, szdL km r) → L = a ++ ko k b → i = (a.length : Int) → b.length < m → a.length + b.length ≤ 4000000 → 0 ≤ k → k + kc b ≤ 4000000000000000000 →
  la73o0 t71 t107 L n9 q1 q2 q3 q4 q5 q6 q7 q8 q9 q10 m k i v0 v1 v2 v3 v4 v5 v6 v7 v8 v9 = some ([.one (.i .i64 (k + kc b))], []) := by
 intro b
 induction b with
 | nil =>
  intro a m k v0 v1 v2 v3 v4 v5 v6 v7 v8 v9 L i h hs hL hi hm hl h0 hk
  subst hL hi
  obtain ⟨m, rfl⟩ : ∃ m', m = m' + 1 := ⟨m - 1, by omega⟩
  have e : decide ((a.length : Int) < ((a ++ ([] : Rw)).length : Int)) = false := by simp
  have e2 : k + kc [] = k := by simp [kc]
  rw [show ko k [] = [] from rfl]
  simp only [la73o0, e, bft, if_false, hq, e2]
 | cons r b ih =>
  intro a m k v0 v1 v2 v3 v4 v5 v6 v7 v8 v9 L i h hs hL hi hm hl h0 hk
  subst hL hi
  obtain ⟨m, rfl⟩ : ∃ m', m = m' + 1 := ⟨m - 1, by omega⟩
  simp only [List.length_cons] at hm hl
  have hz := hs r (List.mem_cons_self ..)
  obtain ⟨x1, x2, x3, x4, x5, x6, x7, x8, x9, rfl, wx6, wx7, tx7⟩ := knc (h r (List.mem_cons_self ..))
  have hb : ∀ r ∈ b, typL km r := fun r hr => h r (List.mem_cons_of_mem _ hr)
  have hb2 : ∀ r ∈ b, szdL km r := fun r hr => hs r (List.mem_cons_of_mem _ hr)
  have sx7 : x7.length ≤ 1048576 ∧ ∀ r ∈ x7, szdL kac r := hz.2.2.2.2.2.2.1
  have lx7 := sx7.1
  have nb := kwb b
  have e6 : k + ksb [.i .i64 x1, .i .i64 x2, .i .i64 x3, .i .i64 x4, .i .i64 x5, .s x6, .l x7, .i .i64 x8, .i .i64 x9] = k + 1 + 1 + 1 + 1 + 1 + 1 + 2 * (x7.length : Int) + 1 + 1 := by simp only [ksb, nthD, asL]; omega
  have e7 : k + kc ([.i .i64 x1, .i .i64 x2, .i .i64 x3, .i .i64 x4, .i .i64 x5, .s x6, .l x7, .i .i64 x8, .i .i64 x9] :: b) = k + 1 + 1 + 1 + 1 + 1 + 1 + 2 * (x7.length : Int) + 1 + 1 + kc b := by rw [kc, ← Int.add_assoc, e6]
  rw [e7] at hk
  have e1 : ∀ (r : List D) (b : Rw), decide ((a.length : Int) < ((a ++ r :: b).length : Int)) = true := fun r b => decide_eq_true (by simp; omega)
  have e0 : decide (0 ≤ (a.length : Int)) = true := decide_eq_true (by omega)
  have eg : ∀ (r : List D) (b : Rw), (a ++ r :: b).getD a.length [] = r := fun r b => kpb a b r _ rfl
  have u0 : w64 (k + 1) = k + 1 := kb _ (by omega)
  have u1 : w64 (k + 1 + 1) = k + 1 + 1 := kb _ (by omega)
  have u2 : w64 (k + 1 + 1 + 1) = k + 1 + 1 + 1 := kb _ (by omega)
  have u3 : w64 (k + 1 + 1 + 1 + 1) = k + 1 + 1 + 1 + 1 := kb _ (by omega)
  have u4 : w64 (k + 1 + 1 + 1 + 1 + 1) = k + 1 + 1 + 1 + 1 + 1 := kb _ (by omega)
  have u5 : w64 (k + 1 + 1 + 1 + 1 + 1 + 1) = k + 1 + 1 + 1 + 1 + 1 + 1 := kb _ (by omega)
  have u7 : w64 (k + 1 + 1 + 1 + 1 + 1 + 1 + 2 * (x7.length : Int) + 1) = k + 1 + 1 + 1 + 1 + 1 + 1 + 2 * (x7.length : Int) + 1 := kb _ (by omega)
  have u8 : w64 (k + 1 + 1 + 1 + 1 + 1 + 1 + 2 * (x7.length : Int) + 1 + 1) = k + 1 + 1 + 1 + 1 + 1 + 1 + 2 * (x7.length : Int) + 1 + 1 := kb _ (by omega)
  have t5 := kp (k + 1 + 1 + 1 + 1 + 1) (by omega)
  have m6 := kle x7 (by omega) (k + 1 + 1 + 1 + 1 + 1 + 1) (by omega) (by omega)
  have n6 : decide (k + 1 + 1 + 1 + 1 + 1 + 1 + 2 * (x7.length : Int) < 0) = false := decide_eq_false (by omega)
  have hw := ke a.length (by omega)
  have this := fun (z0 : SV) (z1 : SV) (z2 : SV) (z3 : SV) (z4 : SV) (z5 : SV) (z6 : SV) (z7 : SV) (z8 : SV) (z9 : SV) => ih (a ++ [kr k [.i .i64 x1, .i .i64 x2, .i .i64 x3, .i .i64 x4, .i .i64 x5, .s x6, .l x7, .i .i64 x8, .i .i64 x9]]) m (k + 1 + 1 + 1 + 1 + 1 + 1 + 2 * (x7.length : Int) + 1 + 1) z0 z1 z2 z3 z4 z5 z6 z7 z8 z9 _ _ hb hb2 rfl rfl (by omega) (by simp; omega) (by omega) (by omega)
  have e3 : (a ++ [kr k [.i .i64 x1, .i .i64 x2, .i .i64 x3, .i .i64 x4, .i .i64 x5, .s x6, .l x7, .i .i64 x8, .i .i64 x9]]).length = a.length + 1 := by simp
  simp only [e3, List.append_assoc] at this
  have e5 : a ++ ko k ([.i .i64 x1, .i .i64 x2, .i .i64 x3, .i .i64 x4, .i .i64 x5, .s x6, .l x7, .i .i64 x8, .i .i64 x9] :: b) = a ++ kr k [.i .i64 x1, .i .i64 x2, .i .i64 x3, .i .i64 x4, .i .i64 x5, .s x6, .l x7, .i .i64 x8, .i .i64 x9] :: ko (k + 1 + 1 + 1 + 1 + 1 + 1 + 2 * (x7.length : Int) + 1 + 1) b := by rw [ko, e6]
  rw [e5]
  have ez : isRow z143 (kr k [.i .i64 x1, .i .i64 x2, .i .i64 x3, .i .i64 x4, .i .i64 x5, .s x6, .l x7, .i .i64 x8, .i .i64 x9]) = true := rfl
  have d0 : asI (nthD (kr k [.i .i64 x1, .i .i64 x2, .i .i64 x3, .i .i64 x4, .i .i64 x5, .s x6, .l x7, .i .i64 x8, .i .i64 x9]) 0) = (k) := rfl
  have d1 : asI (nthD (kr k [.i .i64 x1, .i .i64 x2, .i .i64 x3, .i .i64 x4, .i .i64 x5, .s x6, .l x7, .i .i64 x8, .i .i64 x9]) 1) = (k + 1) := rfl
  have d2 : asI (nthD (kr k [.i .i64 x1, .i .i64 x2, .i .i64 x3, .i .i64 x4, .i .i64 x5, .s x6, .l x7, .i .i64 x8, .i .i64 x9]) 2) = (k + 1 + 1) := rfl
  have d3 : asI (nthD (kr k [.i .i64 x1, .i .i64 x2, .i .i64 x3, .i .i64 x4, .i .i64 x5, .s x6, .l x7, .i .i64 x8, .i .i64 x9]) 3) = (k + 1 + 1 + 1) := rfl
  have d4 : asI (nthD (kr k [.i .i64 x1, .i .i64 x2, .i .i64 x3, .i .i64 x4, .i .i64 x5, .s x6, .l x7, .i .i64 x8, .i .i64 x9]) 4) = (k + 1 + 1 + 1 + 1) := rfl
  have d5 : asS (nthD (kr k [.i .i64 x1, .i .i64 x2, .i .i64 x3, .i .i64 x4, .i .i64 x5, .s x6, .l x7, .i .i64 x8, .i .i64 x9]) 5) = (mkT (k + 1 + 1 + 1 + 1 + 1)) := rfl
  have d6 : asL (nthD (kr k [.i .i64 x1, .i .i64 x2, .i .i64 x3, .i .i64 x4, .i .i64 x5, .s x6, .l x7, .i .i64 x8, .i .i64 x9]) 6) = (kn (k + 1 + 1 + 1 + 1 + 1 + 1) x7) := rfl
  have d7 : asI (nthD (kr k [.i .i64 x1, .i .i64 x2, .i .i64 x3, .i .i64 x4, .i .i64 x5, .s x6, .l x7, .i .i64 x8, .i .i64 x9]) 7) = (k + 1 + 1 + 1 + 1 + 1 + 1 + 2 * (x7.length : Int)) := rfl
  have d8 : asI (nthD (kr k [.i .i64 x1, .i .i64 x2, .i .i64 x3, .i .i64 x4, .i .i64 x5, .s x6, .l x7, .i .i64 x8, .i .i64 x9]) 8) = (k + 1 + 1 + 1 + 1 + 1 + 1 + 2 * (x7.length : Int) + 1) := rfl
  simp only [la73o0, e1, e0, if_true, itn, eg, ez, d0, d1, d2, d3, d4, d5, d6, d7, d8, u0, u1, u2, u3, u4, u5, u7, u8, t5, ta5, kz, kab, m6, gz0, gz1, n6, bne_self_eq_false, beq_self_eq_true, bnt, bft, if_false, bat, ka, hw]
  rw [e7]
  exact this _ _ _ _ _ _ _ _ _ _
theorem kye (l : Rw) (h : ∀ r ∈ l, typL km r) (hs : ∀ r ∈ l, szdL km r) (hl : l.length ≤ 4000000) (k : Int) (h0 : 0 ≤ k) (hk : k + kc l ≤ 4000000000000000000) : t73 (ko k l) k = some ([.one (.i .i64 (k + kc l))], []) := by
 unfold t73 ta73
 exact kzd _ _ _ _ _ _ _ _ _ _ _ (fun _ _ _ _ _ _ _ _ _ _ _ _ => rfl) l [] KK k _ _ _ _ _ _ _ _ _ _ _ _ h hs rfl rfl (by rw [kk]; omega) (by simpa using hl) h0 hk
theorem kjg (x1 : Int) (x2 : Int) (x3 : Int) (x4 : Int) (x5 : BA) (x6 : Rw) (mx6 : ∀ r ∈ x6, r.length = 2) (wx6 : x6.length ≤ 1048576) (k : Int) (h0 : 0 ≤ k) (hk : k ≤ 3000000000000000000) : t69 x1 x2 x3 x4 x5 x6 k = some ([.one (.i .i64 (k + 2 * (x6.length : Int)))], [[.i .i64 x1, .i .i64 x2, .i .i64 x3, .i .i64 x4, .s x5, .l (kf (k) x6)]]) := by
 simp only [t69, ta69, kzc x6 mx6 (by omega) (k) (by omega) (by omega), zr42, zo42, okR, isVs, isV, isD, isDs, isOs, resC, outC, nthR, nthO, cellsDV, nthD, asB, asI, asS, asL, bat, bta, BEq.rfl, ka, decide_true]
theorem kxg (x1 : Int) (x2 : Int) (x3 : Int) (x4 : Int) (x5 : BA) (x6 : Rw) (mx6 : ∀ r ∈ x6, r.length = 2) (wx6 : x6.length ≤ 1048576) (k : Int) (h0 : 0 ≤ k) (hk : k ≤ 3000000000000000000) : t76 x1 x2 x3 x4 x5 (kf (k) x6) k = some ([.one (.i .i64 (k + 2 * (x6.length : Int)))], []) := by
 have n0 : decide (k + 2 * (x6.length : Int) < 0) = false := decide_eq_false (by omega)
 simp only [t76, ta76, kxc x6 (by omega) (k) (by omega) (by omega), zr46, zo46, n0, bft, if_false, okR, isVs, isV, isD, isDs, isOs, resC, outC, nthR, nthO, cellsDV, nthD, asB, asI, asS, asL, bat, bta, BEq.rfl, ka, decide_true]
theorem kkf (a b : Rw) (i : Nat) (h : i = a.length) (c1 c2 c3 c4 c5 d : D) : stR (a ++ [c1, c2, c3, c4, c5] :: b) i 0 [d] = a ++ [d, c2, c3, c4, c5] :: b := kdb a b _ _ i 0 h
theorem klf (a b : Rw) (i : Nat) (h : i = a.length) (c1 c2 c3 c4 c5 d : D) : stR (a ++ [c1, c2, c3, c4, c5] :: b) i 1 [d] = a ++ [c1, d, c3, c4, c5] :: b := kdb a b _ _ i 1 h
theorem kif (a b : Rw) (i : Nat) (h : i = a.length) (c1 c2 c3 c4 c5 d : D) : stR (a ++ [c1, c2, c3, c4, c5] :: b) i 2 [d] = a ++ [c1, c2, d, c4, c5] :: b := kdb a b _ _ i 2 h
theorem kjf (a b : Rw) (i : Nat) (h : i = a.length) (c1 c2 c3 c4 c5 d : D) : stR (a ++ [c1, c2, c3, c4, c5] :: b) i 3 [d] = a ++ [c1, c2, c3, d, c5] :: b := kdb a b _ _ i 3 h
theorem kmf (a b : Rw) (i : Nat) (h : i = a.length) (c1 c2 c3 c4 c5 d : D) : stR (a ++ [c1, c2, c3, c4, c5] :: b) i 4 [d] = a ++ [c1, c2, c3, c4, d] :: b := kdb a b _ _ i 4 h
theorem len5 {r : List D} (h : r.length = 5) : ∃ c1 c2 c3 c4 c5, r = [c1, c2, c3, c4, c5] := by
 match r, h with
 | [c1, c2, c3, c4, c5], _ => exact ⟨c1, c2, c3, c4, c5, rfl⟩
noncomputable def kcb (k : Int) : List D := [.i .i64 (k), .i .i64 (k + 1), .i .i64 (k + 1 + 1), .i .i64 (k + 1 + 1 + 1), .i .i64 (k + 1 + 1 + 1 + 1)]
noncomputable def kv : Int → Rw → Rw
 | _, [] => []
 | k, _ :: b => kcb k :: kv (k + 1 + 1 + 1 + 1 + 1) b
theorem kee (n8 : Int) (q : Int → Int → Bool → Rw → Rs) (hq : ∀ a b c d, q a b c d = some ([.one (.i .i64 a)], [[.l d]])) : ∀ (b a : Rw) (m : Nat) (k : Int) (v0 : SV), (∀ r ∈ b, r.length = 5) → b.length < m → a.length + b.length ≤ 4000000 → 0 ≤ k → k + 5 * (b.length : Int) ≤ 4000000000000000000 →
  l67o0 n8 q m k (a.length : Int) v0 (a ++ b) = some ([.one (.i .i64 (k + 5 * (b.length : Int)))], [[.l (a ++ kv k b)]]) := by
 intro b
 induction b with
 | nil =>
  intro a m k v0 h hm hl h0 hk
  obtain ⟨m, rfl⟩ : ∃ m', m = m' + 1 := ⟨m - 1, by omega⟩
  have e : decide ((a.length : Int) < ((a ++ ([] : Rw)).length : Int)) = false := by simp
  have e2 : k + 5 * ((([] : Rw).length : Nat) : Int) = k := by simp
  simp only [l67o0, e, bft, if_false, hq, e2, kv]
 | cons r b ih =>
  intro a m k v0 h hm hl h0 hk
  obtain ⟨m, rfl⟩ : ∃ m', m = m' + 1 := ⟨m - 1, by omega⟩
  simp only [List.length_cons] at hm hl hk
  obtain ⟨c1, c2, c3, c4, c5, rfl⟩ := len5 (h r (List.mem_cons_self ..))
  have hb : ∀ r ∈ b, r.length = 5 := fun r hr => h r (List.mem_cons_of_mem _ hr)
  have e1 : ∀ r : List D, decide ((a.length : Int) < ((a ++ r :: b).length : Int)) = true := fun r => decide_eq_true (by simp; omega)
  have e0 : decide (0 ≤ (a.length : Int)) = true := decide_eq_true (by omega)
  have p1 : ∀ r : List D, decide (1 ≤ 5 ∧ a.length < (a ++ r :: b).length) = true := fun r => decide_eq_true (by simp)
  have p2 : ∀ r : List D, decide (2 ≤ 5 ∧ a.length < (a ++ r :: b).length) = true := fun r => decide_eq_true (by simp)
  have p3 : ∀ r : List D, decide (3 ≤ 5 ∧ a.length < (a ++ r :: b).length) = true := fun r => decide_eq_true (by simp)
  have p4 : ∀ r : List D, decide (4 ≤ 5 ∧ a.length < (a ++ r :: b).length) = true := fun r => decide_eq_true (by simp)
  have p5 : ∀ r : List D, decide (5 ≤ 5 ∧ a.length < (a ++ r :: b).length) = true := fun r => decide_eq_true (by simp)
  have u1 : w64 (k + 1) = k + 1 := kb _ (by omega)
  have u2 : w64 (k + 1 + 1) = k + 1 + 1 := kb _ (by omega)
  have u3 : w64 (k + 1 + 1 + 1) = k + 1 + 1 + 1 := kb _ (by omega)
  have u4 : w64 (k + 1 + 1 + 1 + 1) = k + 1 + 1 + 1 + 1 := kb _ (by omega)
  have u5 : w64 (k + 1 + 1 + 1 + 1 + 1) = k + 1 + 1 + 1 + 1 + 1 := kb _ (by omega)
  have hw := ke a.length (by omega)
  simp only [l67o0, e1, e0, if_true, itn, p1, p2, p3, p4, p5, u1, u2, u3, u4, u5, kkf a b _ rfl, klf a b _ rfl, kif a b _ rfl, kjf a b _ rfl, kmf a b _ rfl, bat, ka, hw]
  have := fun (z0 : SV) => ih (a ++ [kcb k]) m (k + 1 + 1 + 1 + 1 + 1) z0 hb (by omega) (by simp; omega) (by omega) (by omega)
  have e3 : (a ++ [kcb k]).length = a.length + 1 := by simp
  simp only [e3, List.append_assoc] at this
  have e4 : k + 5 * ((([c1, c2, c3, c4, c5] :: b).length : Nat) : Int) = k + 1 + 1 + 1 + 1 + 1 + 5 * (b.length : Int) := by simp only [List.length_cons]; omega
  have e5 : a ++ kv k ([c1, c2, c3, c4, c5] :: b) = (a ++ [kcb k]) ++ kv (k + 1 + 1 + 1 + 1 + 1) b := by simp [kv]
  rw [e4, e5, List.append_assoc]
  exact this _
theorem kuf (l : Rw) (h : ∀ r ∈ l, r.length = 5) (hl : l.length ≤ 4000000) (k : Int) (h0 : 0 ≤ k) (hk : k + 5 * (l.length : Int) ≤ 4000000000000000000) : t67 l k = some ([.one (.i .i64 (k + 5 * (l.length : Int)))], [[.l (kv k l)]]) := by
 unfold t67
 exact kee _ _ (fun _ _ _ _ => rfl) l [] KK k _ h (by rw [kk]; omega) (by simpa using hl) h0 hk
theorem kje (n9 : Int) (q1 : Int → Int → Bool → Bool → SV → SV → SV → SV → Rs) (q2 : Int → Int → Bool → Bool → Bool → SV → SV → SV → Rs) (q3 : Int → Int → Bool → Bool → Bool → Bool → SV → SV → Rs) (q4 : Int → Int → Bool → Bool → Bool → Bool → Bool → SV → Rs) (q5 : Int → Int → Bool → Bool → Bool → Bool → Bool → Bool → Rs) (q6 : Int → Int → Bool → SV → SV → SV → SV → SV → Rs) (hq : ∀ x0 x1 x2 x3 x4 x5 x6 x7, q6 x0 x1 x2 x3 x4 x5 x6 x7 = some ([.one (.i .i64 x0)], [])) : ∀ (b a : Rw) (m : Nat) (k : Int) (v0 v1 v2 v3 v4 v5 : SV) (L : Rw) (i : Int), L = a ++ kv k b → i = (a.length : Int) → b.length < m → a.length + b.length ≤ 4000000 → 0 ≤ k → k + 5 * (b.length : Int) ≤ 4000000000000000000 →
  l74o0 L n9 q1 q2 q3 q4 q5 q6 m k i v0 v1 v2 v3 v4 v5 = some ([.one (.i .i64 (k + 5 * (b.length : Int)))], []) := by
 intro b
 induction b with
 | nil =>
  intro a m k v0 v1 v2 v3 v4 v5 L i hL hi hm hl h0 hk
  subst hL hi
  obtain ⟨m, rfl⟩ : ∃ m', m = m' + 1 := ⟨m - 1, by omega⟩
  have e : decide ((a.length : Int) < ((a ++ ([] : Rw)).length : Int)) = false := by simp
  have e2 : k + 5 * ((([] : Rw).length : Nat) : Int) = k := by simp
  rw [show kv k [] = [] from rfl]
  simp only [l74o0, e, bft, if_false, hq, e2]
 | cons r b ih =>
  intro a m k v0 v1 v2 v3 v4 v5 L i hL hi hm hl h0 hk
  subst hL hi
  obtain ⟨m, rfl⟩ : ∃ m', m = m' + 1 := ⟨m - 1, by omega⟩
  simp only [List.length_cons] at hm hl hk
  have e1 : ∀ (r : List D) (b : Rw), decide ((a.length : Int) < ((a ++ r :: b).length : Int)) = true := fun r b => decide_eq_true (by simp; omega)
  have e0 : decide (0 ≤ (a.length : Int)) = true := decide_eq_true (by omega)
  have eg : ∀ (r : List D) (b : Rw), (a ++ r :: b).getD a.length [] = r := fun r b => kpb a b r _ rfl
  have u1 : w64 (k + 1) = k + 1 := kb _ (by omega)
  have u2 : w64 (k + 1 + 1) = k + 1 + 1 := kb _ (by omega)
  have u3 : w64 (k + 1 + 1 + 1) = k + 1 + 1 + 1 := kb _ (by omega)
  have u4 : w64 (k + 1 + 1 + 1 + 1) = k + 1 + 1 + 1 + 1 := kb _ (by omega)
  have u5 : w64 (k + 1 + 1 + 1 + 1 + 1) = k + 1 + 1 + 1 + 1 + 1 := kb _ (by omega)
  have hw := ke a.length (by omega)
  have this := fun (z0 : SV) (z1 : SV) (z2 : SV) (z3 : SV) (z4 : SV) (z5 : SV) => ih (a ++ [kcb k]) m (k + 1 + 1 + 1 + 1 + 1) z0 z1 z2 z3 z4 z5 _ _ rfl rfl (by omega) (by simp; omega) (by omega) (by omega)
  have e3 : (a ++ [kcb k]).length = a.length + 1 := by simp
  simp only [e3, List.append_assoc] at this
  have e4 : k + 5 * (((r :: b).length : Nat) : Int) = k + 1 + 1 + 1 + 1 + 1 + 5 * (b.length : Int) := by simp only [List.length_cons]; omega
  have e5 : a ++ kv k (r :: b) = a ++ kcb k :: kv (k + 1 + 1 + 1 + 1 + 1) b := rfl
  rw [e5]
  have ez : isRow z146 (kcb k) = true := rfl
  have d0 : asI (nthD (kcb k) 0) = k := rfl
  have d1 : asI (nthD (kcb k) 1) = k + 1 := rfl
  have d2 : asI (nthD (kcb k) 2) = k + 1 + 1 := rfl
  have d3 : asI (nthD (kcb k) 3) = k + 1 + 1 + 1 := rfl
  have d4 : asI (nthD (kcb k) 4) = k + 1 + 1 + 1 + 1 := rfl
  simp only [l74o0, e1, e0, if_true, itn, eg, ez, d0, d1, d2, d3, d4, u1, u2, u3, u4, u5, bne_self_eq_false, beq_self_eq_true, bnt, bft, if_false, bat, ka, hw]
  rw [e4]
  exact this _ _ _ _ _ _
theorem kpf (l : Rw) (hl : l.length ≤ 4000000) (k : Int) (h0 : 0 ≤ k) (hk : k + 5 * (l.length : Int) ≤ 4000000000000000000) : t74 (kv k l) k = some ([.one (.i .i64 (k + 5 * (l.length : Int)))], []) := by
 unfold t74
 exact kje _ _ _ _ _ _ _ (fun _ _ _ _ _ _ _ _ => rfl) l [] KK k _ _ _ _ _ _ _ _ rfl rfl (by rw [kk]; omega) (by simpa using hl) h0 hk
noncomputable def ku (k : Int) : List D := [.i .i64 (k), .i .i64 (k + 1), .i .i64 (k + 1 + 1), .i .i64 (k + 1 + 1 + 1), .s (mkT (k + 1 + 1 + 1 + 1))]
noncomputable def kj : Int → Rw → Rw
 | _, [] => []
 | k, _ :: b => ku k :: kj (k + 1 + 1 + 1 + 1 + 1) b
theorem kgd (n8 : Int) (q : Int → Int → Bool → Rw → Rs) (hq : ∀ a b c d, q a b c d = some ([.one (.i .i64 a)], [[.l d]])) : ∀ (b a : Rw) (m : Nat) (k : Int) (v0 : SV), (∀ r ∈ b, r.length = 5) → b.length < m → a.length + b.length ≤ 4000000 → 0 ≤ k → k + 5 * (b.length : Int) ≤ 4000000000000000000 →
  la68o0 t71 n8 q m k (a.length : Int) v0 (a ++ b) = some ([.one (.i .i64 (k + 5 * (b.length : Int)))], [[.l (a ++ kj k b)]]) := by
 intro b
 induction b with
 | nil =>
  intro a m k v0 h hm hl h0 hk
  obtain ⟨m, rfl⟩ : ∃ m', m = m' + 1 := ⟨m - 1, by omega⟩
  have e : decide ((a.length : Int) < ((a ++ ([] : Rw)).length : Int)) = false := by simp
  have e2 : k + 5 * ((([] : Rw).length : Nat) : Int) = k := by simp
  simp only [la68o0, e, bft, if_false, hq, e2, kj]
 | cons r b ih =>
  intro a m k v0 h hm hl h0 hk
  obtain ⟨m, rfl⟩ : ∃ m', m = m' + 1 := ⟨m - 1, by omega⟩
  simp only [List.length_cons] at hm hl hk
  obtain ⟨c1, c2, c3, c4, c5, rfl⟩ := len5 (h r (List.mem_cons_self ..))
  have hb : ∀ r ∈ b, r.length = 5 := fun r hr => h r (List.mem_cons_of_mem _ hr)
  have e1 : ∀ r : List D, decide ((a.length : Int) < ((a ++ r :: b).length : Int)) = true := fun r => decide_eq_true (by simp; omega)
  have e0 : decide (0 ≤ (a.length : Int)) = true := decide_eq_true (by omega)
  have p1 : ∀ r : List D, decide (1 ≤ 5 ∧ a.length < (a ++ r :: b).length) = true := fun r => decide_eq_true (by simp)
  have p2 : ∀ r : List D, decide (2 ≤ 5 ∧ a.length < (a ++ r :: b).length) = true := fun r => decide_eq_true (by simp)
  have p3 : ∀ r : List D, decide (3 ≤ 5 ∧ a.length < (a ++ r :: b).length) = true := fun r => decide_eq_true (by simp)
  have p4 : ∀ r : List D, decide (4 ≤ 5 ∧ a.length < (a ++ r :: b).length) = true := fun r => decide_eq_true (by simp)
  have p5 : ∀ r : List D, decide (5 ≤ 5 ∧ a.length < (a ++ r :: b).length) = true := fun r => decide_eq_true (by simp)
  have u1 : w64 (k + 1) = k + 1 := kb _ (by omega)
  have u2 : w64 (k + 1 + 1) = k + 1 + 1 := kb _ (by omega)
  have u3 : w64 (k + 1 + 1 + 1) = k + 1 + 1 + 1 := kb _ (by omega)
  have u4 : w64 (k + 1 + 1 + 1 + 1) = k + 1 + 1 + 1 + 1 := kb _ (by omega)
  have u5 : w64 (k + 1 + 1 + 1 + 1 + 1) = k + 1 + 1 + 1 + 1 + 1 := kb _ (by omega)
  have t4 := kp (k + 1 + 1 + 1 + 1) (by omega)
  have hw := ke a.length (by omega)
  simp only [la68o0, e1, e0, if_true, itn, p1, p2, p3, p4, p5, u1, u2, u3, u4, u5, t4, kz, kab, kkf a b _ rfl, klf a b _ rfl, kif a b _ rfl, kjf a b _ rfl, kmf a b _ rfl, bat, ka, hw]
  have := fun (z0 : SV) => ih (a ++ [ku k]) m (k + 1 + 1 + 1 + 1 + 1) z0 hb (by omega) (by simp; omega) (by omega) (by omega)
  have e3 : (a ++ [ku k]).length = a.length + 1 := by simp
  simp only [e3, List.append_assoc] at this
  have e4 : k + 5 * ((([c1, c2, c3, c4, c5] :: b).length : Nat) : Int) = k + 1 + 1 + 1 + 1 + 1 + 5 * (b.length : Int) := by simp only [List.length_cons]; omega
  have e5 : a ++ kj k ([c1, c2, c3, c4, c5] :: b) = (a ++ [ku k]) ++ kj (k + 1 + 1 + 1 + 1 + 1) b := by simp [kj]
  rw [e4, e5, List.append_assoc]
  exact this _
theorem krd (l : Rw) (h : ∀ r ∈ l, r.length = 5) (hl : l.length ≤ 4000000) (k : Int) (h0 : 0 ≤ k) (hk : k + 5 * (l.length : Int) ≤ 4000000000000000000) : t68 l k = some ([.one (.i .i64 (k + 5 * (l.length : Int)))], [[.l (kj k l)]]) := by
 unfold t68 ta68
 exact kgd _ _ (fun _ _ _ _ => rfl) l [] KK k _ h (by rw [kk]; omega) (by simpa using hl) h0 hk
theorem kfd (n9 : Int) (q1 : Int → Int → Bool → Bool → SV → SV → SV → SV → Rs) (q2 : Int → Int → Bool → Bool → Bool → SV → SV → SV → Rs) (q3 : Int → Int → Bool → Bool → Bool → Bool → SV → SV → Rs) (q4 : Int → Int → Bool → Bool → Bool → Bool → Bool → SV → Rs) (q5 : Int → Int → Bool → Bool → Bool → Bool → Bool → Bool → Rs) (q6 : Int → Int → Bool → SV → SV → SV → SV → SV → Rs) (hq : ∀ x0 x1 x2 x3 x4 x5 x6 x7, q6 x0 x1 x2 x3 x4 x5 x6 x7 = some ([.one (.i .i64 x0)], [])) : ∀ (b a : Rw) (m : Nat) (k : Int) (v0 v1 v2 v3 v4 v5 : SV) (L : Rw) (i : Int), L = a ++ kj k b → i = (a.length : Int) → b.length < m → a.length + b.length ≤ 4000000 → 0 ≤ k → k + 5 * (b.length : Int) ≤ 4000000000000000000 →
  la75o0 t71 L n9 q1 q2 q3 q4 q5 q6 m k i v0 v1 v2 v3 v4 v5 = some ([.one (.i .i64 (k + 5 * (b.length : Int)))], []) := by
 intro b
 induction b with
 | nil =>
  intro a m k v0 v1 v2 v3 v4 v5 L i hL hi hm hl h0 hk
  subst hL hi
  obtain ⟨m, rfl⟩ : ∃ m', m = m' + 1 := ⟨m - 1, by omega⟩
  have e : decide ((a.length : Int) < ((a ++ ([] : Rw)).length : Int)) = false := by simp
  have e2 : k + 5 * ((([] : Rw).length : Nat) : Int) = k := by simp
  rw [show kj k [] = [] from rfl]
  simp only [la75o0, e, bft, if_false, hq, e2]
 | cons r b ih =>
  intro a m k v0 v1 v2 v3 v4 v5 L i hL hi hm hl h0 hk
  subst hL hi
  obtain ⟨m, rfl⟩ : ∃ m', m = m' + 1 := ⟨m - 1, by omega⟩
  simp only [List.length_cons] at hm hl hk
  have e1 : ∀ (r : List D) (b : Rw), decide ((a.length : Int) < ((a ++ r :: b).length : Int)) = true := fun r b => decide_eq_true (by simp; omega)
  have e0 : decide (0 ≤ (a.length : Int)) = true := decide_eq_true (by omega)
  have eg : ∀ (r : List D) (b : Rw), (a ++ r :: b).getD a.length [] = r := fun r b => kpb a b r _ rfl
  have u1 : w64 (k + 1) = k + 1 := kb _ (by omega)
  have u2 : w64 (k + 1 + 1) = k + 1 + 1 := kb _ (by omega)
  have u3 : w64 (k + 1 + 1 + 1) = k + 1 + 1 + 1 := kb _ (by omega)
  have u4 : w64 (k + 1 + 1 + 1 + 1) = k + 1 + 1 + 1 + 1 := kb _ (by omega)
  have u5 : w64 (k + 1 + 1 + 1 + 1 + 1) = k + 1 + 1 + 1 + 1 + 1 := kb _ (by omega)
  have t4 := kp (k + 1 + 1 + 1 + 1) (by omega)
  have hw := ke a.length (by omega)
  have this := fun (z0 : SV) (z1 : SV) (z2 : SV) (z3 : SV) (z4 : SV) (z5 : SV) => ih (a ++ [ku k]) m (k + 1 + 1 + 1 + 1 + 1) z0 z1 z2 z3 z4 z5 _ _ rfl rfl (by omega) (by simp; omega) (by omega) (by omega)
  have e3 : (a ++ [ku k]).length = a.length + 1 := by simp
  simp only [e3, List.append_assoc] at this
  have e4 : k + 5 * (((r :: b).length : Nat) : Int) = k + 1 + 1 + 1 + 1 + 1 + 5 * (b.length : Int) := by simp only [List.length_cons]; omega
  have e5 : a ++ kj k (r :: b) = a ++ ku k :: kj (k + 1 + 1 + 1 + 1 + 1) b := rfl
  rw [e5]
  have ez : isRow z150 (ku k) = true := rfl
  have d0 : asI (nthD (ku k) 0) = k := rfl
  have d1 : asI (nthD (ku k) 1) = k + 1 := rfl
  have d2 : asI (nthD (ku k) 2) = k + 1 + 1 := rfl
  have d3 : asI (nthD (ku k) 3) = k + 1 + 1 + 1 := rfl
  have d4 : asS (nthD (ku k) 4) = mkT (k + 1 + 1 + 1 + 1) := rfl
  simp only [la75o0, e1, e0, if_true, itn, eg, ez, d0, d1, d2, d3, d4, u1, u2, u3, u4, u5, t4, kz, kab, bne_self_eq_false, beq_self_eq_true, bnt, bft, if_false, bat, ka, hw]
  rw [e4]
  exact this _ _ _ _ _ _
theorem kud (l : Rw) (hl : l.length ≤ 4000000) (k : Int) (h0 : 0 ≤ k) (hk : k + 5 * (l.length : Int) ≤ 4000000000000000000) : t75 (kj k l) k = some ([.one (.i .i64 (k + 5 * (l.length : Int)))], []) := by
 unfold t75 ta75
 exact kfd _ _ _ _ _ _ _ (fun _ _ _ _ _ _ _ _ => rfl) l [] KK k _ _ _ _ _ _ _ _ rfl rfl (by rw [kk]; omega) (by simpa using hl) h0 hk
noncomputable def ky (k : Int) (r : List D) : List D := [.i .i64 (k), .l (ko (k + 1) (asL (nthD r 1))), .i .i64 (k + 1 + kc ((asL (nthD r 1)))), .l (kv (k + 1 + kc ((asL (nthD r 1))) + 1) (asL (nthD r 3))), .l (kj (k + 1 + kc ((asL (nthD r 1))) + 1 + 5 * (((asL (nthD r 3))).length : Int)) (asL (nthD r 4)))]
def kkb (r : List D) : Int := 2 + kc ((asL (nthD r 1))) + 5 * (((asL (nthD r 3))).length : Int) + 5 * (((asL (nthD r 4))).length : Int)
noncomputable def kl : Int → Rw → Rw
 | _, [] => []
 | k, r :: b => ky k r :: kl (k + kkb r) b
def kd : Rw → Int
 | [] => 0
 | r :: b => kkb r + kd b
theorem kqb : ∀ (b : Rw), 0 ≤ kd b
 | [] => by simp [kd]
 | r :: b => by
  have h := kqb b
  have q1 := kwb (asL (nthD r 1))
  simp only [kd, kkb]
  omega
theorem kbc : ∀ (b : Rw), (∀ r ∈ b, typL kg r) → (∀ r ∈ b, szdL kg r) → kd b ≤ 2199042129922 * (b.length : Int)
 | [], _, _ => by simp [kd]
 | r :: b, h, hs => by
  have ih := kbc b (fun r hr => h r (List.mem_cons_of_mem _ hr)) (fun r hr => hs r (List.mem_cons_of_mem _ hr))
  have hz := hs r (List.mem_cons_self ..)
  obtain ⟨x1, x2, x3, x4, x5, rfl, wx2, tx2, wx4, tx4, wx5, tx5⟩ := kjc (h r (List.mem_cons_self ..))
  have sx2 : x2.length ≤ 1048576 ∧ ∀ r ∈ x2, szdL km r := hz.2.1
  have sx4 : x4.length ≤ 1048576 ∧ ∀ r ∈ x4, szdL kic r := hz.2.2.2.1
  have sx5 : x5.length ≤ 1048576 ∧ ∀ r ∈ x5, szdL kxb r := hz.2.2.2.2.1
  have lx2 := sx2.1
  have lx4 := sx4.1
  have lx5 := sx5.1
  have gx2 := kbd x2 tx2 sx2.2
  simp only [kd, kkb, nthD, asL, List.length_cons]
  omega
theorem kjd (n8 : Int) (q : Int → Int → Bool → Rw → Rs) (hq : ∀ a b c d, q a b c d = some ([.one (.i .i64 a)], [[.l d]])) : ∀ (b a : Rw) (m : Nat) (k : Int) (v0 : SV), (∀ r ∈ b, typL kg r) → (∀ r ∈ b, szdL kg r) → b.length < m → a.length + b.length ≤ 4000000 → 0 ≤ k → k + kd b ≤ 4000000000000000000 →
  la27o0 t66 t67 t68 n8 q m k (a.length : Int) v0 (a ++ b) = some ([.one (.i .i64 (k + kd b))], [[.l (a ++ kl k b)]]) := by
 intro b
 induction b with
 | nil =>
  intro a m k v0 h hs hm hl h0 hk
  obtain ⟨m, rfl⟩ : ∃ m', m = m' + 1 := ⟨m - 1, by omega⟩
  have e : decide ((a.length : Int) < ((a ++ ([] : Rw)).length : Int)) = false := by simp
  have e2 : k + kd [] = k := by simp [kd]
  simp only [la27o0, e, bft, if_false, hq, e2, kl]
 | cons r b ih =>
  intro a m k v0 h hs hm hl h0 hk
  obtain ⟨m, rfl⟩ : ∃ m', m = m' + 1 := ⟨m - 1, by omega⟩
  simp only [List.length_cons] at hm hl
  have hz := hs r (List.mem_cons_self ..)
  obtain ⟨x1, x2, x3, x4, x5, rfl, wx2, tx2, wx4, tx4, wx5, tx5⟩ := kjc (h r (List.mem_cons_self ..))
  have hb : ∀ r ∈ b, typL kg r := fun r hr => h r (List.mem_cons_of_mem _ hr)
  have hb2 : ∀ r ∈ b, szdL kg r := fun r hr => hs r (List.mem_cons_of_mem _ hr)
  have sx2 : x2.length ≤ 1048576 ∧ ∀ r ∈ x2, szdL km r := hz.2.1
  have sx4 : x4.length ≤ 1048576 ∧ ∀ r ∈ x4, szdL kic r := hz.2.2.2.1
  have sx5 : x5.length ≤ 1048576 ∧ ∀ r ∈ x5, szdL kxb r := hz.2.2.2.2.1
  have lx2 := sx2.1
  have lx4 := sx4.1
  have lx5 := sx5.1
  have qx2 := kwb x2
  have nb := kqb b
  have e6 : k + kkb [.i .i64 x1, .l x2, .i .i64 x3, .l x4, .l x5] = k + 1 + kc x2 + 1 + 5 * (x4.length : Int) + 5 * (x5.length : Int) := by simp only [kkb, nthD, asL]; omega
  have e7 : k + kd ([.i .i64 x1, .l x2, .i .i64 x3, .l x4, .l x5] :: b) = k + 1 + kc x2 + 1 + 5 * (x4.length : Int) + 5 * (x5.length : Int) + kd b := by rw [kd, ← Int.add_assoc, e6]
  rw [e7] at hk
  have e1 : ∀ r : List D, decide ((a.length : Int) < ((a ++ r :: b).length : Int)) = true := fun r => decide_eq_true (by simp; omega)
  have e0 : decide (0 ≤ (a.length : Int)) = true := decide_eq_true (by omega)
  have eg : ∀ (r : List D), (a ++ r :: b).getD a.length [] = r := fun r => kpb a b r _ rfl
  have p0 : ∀ r : List D, decide (1 ≤ 5 ∧ a.length < (a ++ r :: b).length) = true := fun r => decide_eq_true (by simp)
  have p2 : ∀ r : List D, decide (3 ≤ 5 ∧ a.length < (a ++ r :: b).length) = true := fun r => decide_eq_true (by simp)
  have u0 : w64 (k + 1) = k + 1 := kb _ (by omega)
  have u2 : w64 (k + 1 + kc x2 + 1) = k + 1 + kc x2 + 1 := kb _ (by omega)
  have m1 := kbf x2 tx2 sx2.2 (by omega) (k + 1) (by omega) (by omega)
  have m3 := kuf x4 (fun r hr => kbb _ r (tx4 r hr)) (by omega) (k + 1 + kc x2 + 1) (by omega) (by omega)
  have m4 := krd x5 (fun r hr => kbb _ r (tx5 r hr)) (by omega) (k + 1 + kc x2 + 1 + 5 * (x4.length : Int)) (by omega) (by omega)
  have f1 : fstSz 9 x2 = true := kpd (fun r hr => kbb _ r (tx2 r hr))
  have o1 : ∀ z (y : Rw), okR zr66 zo66 (some ([.one (.i .i64 z)], [[.l y]])) = true := fun _ _ => rfl
  have v1 : ∀ z (y : Rw), asL (outC (some ([.one (.i .i64 z)], [[.l y]])) 0 0) = y := fun _ _ => rfl
  have i1 : ∀ z (y : Rw), asI (resC (some ([.one (.i .i64 z)], [[.l y]])) 0 0) = z := fun _ _ => rfl
  have d1 : ∀ c1 c3 c4 c5 : D, asL (nthD [c1, .l x2, c3, c4, c5] 1) = x2 := fun _ _ _ _ => rfl
  have h1 : ∀ c1 c3 c4 c5 : D, decide (2 ≤ ([c1, .l x2, c3, c4, c5] : List D).length) = true := fun _ _ _ _ => rfl
  have k1 : ∀ c1 c3 c4 c5 : D, isF [.l []] 1 [c1, .l x2, c3, c4, c5] = true := fun _ _ _ _ => rfl
  have f3 : fstSz 5 x4 = true := kpd (fun r hr => kbb _ r (tx4 r hr))
  have o3 : ∀ z (y : Rw), okR zr67 zo67 (some ([.one (.i .i64 z)], [[.l y]])) = true := fun _ _ => rfl
  have v3 : ∀ z (y : Rw), asL (outC (some ([.one (.i .i64 z)], [[.l y]])) 0 0) = y := fun _ _ => rfl
  have i3 : ∀ z (y : Rw), asI (resC (some ([.one (.i .i64 z)], [[.l y]])) 0 0) = z := fun _ _ => rfl
  have d3 : ∀ c1 c2 c3 c5 : D, asL (nthD [c1, c2, c3, .l x4, c5] 3) = x4 := fun _ _ _ _ => rfl
  have h3 : ∀ c1 c2 c3 c5 : D, decide (4 ≤ ([c1, c2, c3, .l x4, c5] : List D).length) = true := fun _ _ _ _ => rfl
  have k3 : ∀ c1 c2 c3 c5 : D, isF [.l []] 3 [c1, c2, c3, .l x4, c5] = true := fun _ _ _ _ => rfl
  have f4 : fstSz 5 x5 = true := kpd (fun r hr => kbb _ r (tx5 r hr))
  have o4 : ∀ z (y : Rw), okR zr68 zo68 (some ([.one (.i .i64 z)], [[.l y]])) = true := fun _ _ => rfl
  have v4 : ∀ z (y : Rw), asL (outC (some ([.one (.i .i64 z)], [[.l y]])) 0 0) = y := fun _ _ => rfl
  have i4 : ∀ z (y : Rw), asI (resC (some ([.one (.i .i64 z)], [[.l y]])) 0 0) = z := fun _ _ => rfl
  have d4 : ∀ c1 c2 c3 c4 : D, asL (nthD [c1, c2, c3, c4, .l x5] 4) = x5 := fun _ _ _ _ => rfl
  have h4 : ∀ c1 c2 c3 c4 : D, decide (5 ≤ ([c1, c2, c3, c4, .l x5] : List D).length) = true := fun _ _ _ _ => rfl
  have k4 : ∀ c1 c2 c3 c4 : D, isF [.l []] 4 [c1, c2, c3, c4, .l x5] = true := fun _ _ _ _ => rfl
  have hw := ke a.length (by omega)
  simp only [la27o0, e1, e0, eg, if_true, itn, p0, p2, u0, u2, kkf a b _ rfl, klf a b _ rfl, kif a b _ rfl, kjf a b _ rfl, kmf a b _ rfl, m1, f1, o1, v1, i1, d1, h1, k1, m3, f3, o3, v3, i3, d3, h3, k3, m4, f4, o4, v4, i4, d4, h4, k4, bat, ka, hw]
  have := fun (z0 : SV) => ih (a ++ [ky k [.i .i64 x1, .l x2, .i .i64 x3, .l x4, .l x5]]) m (k + 1 + kc x2 + 1 + 5 * (x4.length : Int) + 5 * (x5.length : Int)) z0 hb hb2 (by omega) (by simp; omega) (by omega) (by omega)
  have e3 : (a ++ [ky k [.i .i64 x1, .l x2, .i .i64 x3, .l x4, .l x5]]).length = a.length + 1 := by simp
  simp only [e3, List.append_assoc] at this
  have e5 : a ++ kl k ([.i .i64 x1, .l x2, .i .i64 x3, .l x4, .l x5] :: b) = (a ++ [ky k [.i .i64 x1, .l x2, .i .i64 x3, .l x4, .l x5]]) ++ kl (k + 1 + kc x2 + 1 + 5 * (x4.length : Int) + 5 * (x5.length : Int)) b := by rw [kl, e6, List.append_assoc]; rfl
  rw [e7, e5, List.append_assoc]
  exact this _
theorem kce (l : Rw) (h : ∀ r ∈ l, typL kg r) (hs : ∀ r ∈ l, szdL kg r) (hl : l.length ≤ 4000000) (k : Int) (h0 : 0 ≤ k) (hk : k + kd l ≤ 4000000000000000000) : t27 l k = some ([.one (.i .i64 (k + kd l))], [[.l (kl k l)]]) := by
 unfold t27 ta27
 exact kjd _ _ (fun _ _ _ _ => rfl) l [] KK k _ h hs (by rw [kk]; omega) (by simpa using hl) h0 hk
theorem gz2 : ∀ z, okR zr73 zo73 (some ([.one (.i .i64 z)], [])) = true := fun _ => id rfl
theorem gz3 : ∀ z, okR zr74 zo74 (some ([.one (.i .i64 z)], [])) = true := fun _ => id rfl
theorem gz4 : ∀ z, okR zr75 zo75 (some ([.one (.i .i64 z)], [])) = true := fun _ => id rfl
theorem kld (n9 : Int) (q1 : Int → Int → Bool → Bool → SV → SV → SV → SV → Rs) (q2 : Int → Int → Bool → Bool → Bool → SV → SV → SV → Rs) (q3 : Int → Int → Bool → Bool → Bool → Bool → SV → SV → Rs) (q4 : Int → Int → Bool → Bool → Bool → Bool → Bool → SV → Rs) (q5 : Int → Int → Bool → Bool → Bool → Bool → Bool → Bool → Rs) (q6 : Int → Int → Bool → SV → SV → SV → SV → SV → Rs) (hq : ∀ z0 z1 z2 z3 z4 z5 z6 z7, q6 z0 z1 z2 z3 z4 z5 z6 z7 = some ([.one (.i .i64 z0)], [])) : ∀ (b a : Rw) (m : Nat) (k : Int) (v0 v1 v2 v3 v4 v5 : SV) (L : Rw) (i : Int), (∀ r ∈ b, typL kg r) → (∀ r ∈ b, szdL kg r) → L = a ++ kl k b → i = (a.length : Int) → b.length < m → a.length + b.length ≤ 4000000 → 0 ≤ k → k + kd b ≤ 4000000000000000000 →
  la31o0 t73 t74 t75 L n9 q1 q2 q3 q4 q5 q6 m k i v0 v1 v2 v3 v4 v5 = some ([.one (.i .i64 (k + kd b))], []) := by
 intro b
 induction b with
 | nil =>
  intro a m k v0 v1 v2 v3 v4 v5 L i h hs hL hi hm hl h0 hk
  subst hL hi
  obtain ⟨m, rfl⟩ : ∃ m', m = m' + 1 := ⟨m - 1, by omega⟩
  have e : decide ((a.length : Int) < ((a ++ ([] : Rw)).length : Int)) = false := by simp
  have e2 : k + kd [] = k := by simp [kd]
  rw [show kl k [] = [] from rfl]
  simp only [la31o0, e, bft, if_false, hq, e2]
 | cons r b ih =>
  intro a m k v0 v1 v2 v3 v4 v5 L i h hs hL hi hm hl h0 hk
  subst hL hi
  obtain ⟨m, rfl⟩ : ∃ m', m = m' + 1 := ⟨m - 1, by omega⟩
  simp only [List.length_cons] at hm hl
  have hz := hs r (List.mem_cons_self ..)
  obtain ⟨x1, x2, x3, x4, x5, rfl, wx2, tx2, wx4, tx4, wx5, tx5⟩ := kjc (h r (List.mem_cons_self ..))
  have hb : ∀ r ∈ b, typL kg r := fun r hr => h r (List.mem_cons_of_mem _ hr)
  have hb2 : ∀ r ∈ b, szdL kg r := fun r hr => hs r (List.mem_cons_of_mem _ hr)
  have sx2 : x2.length ≤ 1048576 ∧ ∀ r ∈ x2, szdL km r := hz.2.1
  have sx4 : x4.length ≤ 1048576 ∧ ∀ r ∈ x4, szdL kic r := hz.2.2.2.1
  have sx5 : x5.length ≤ 1048576 ∧ ∀ r ∈ x5, szdL kxb r := hz.2.2.2.2.1
  have lx2 := sx2.1
  have lx4 := sx4.1
  have lx5 := sx5.1
  have qx2 := kwb x2
  have nb := kqb b
  have e6 : k + kkb [.i .i64 x1, .l x2, .i .i64 x3, .l x4, .l x5] = k + 1 + kc x2 + 1 + 5 * (x4.length : Int) + 5 * (x5.length : Int) := by simp only [kkb, nthD, asL]; omega
  have e7 : k + kd ([.i .i64 x1, .l x2, .i .i64 x3, .l x4, .l x5] :: b) = k + 1 + kc x2 + 1 + 5 * (x4.length : Int) + 5 * (x5.length : Int) + kd b := by rw [kd, ← Int.add_assoc, e6]
  rw [e7] at hk
  have e1 : ∀ (r : List D) (b : Rw), decide ((a.length : Int) < ((a ++ r :: b).length : Int)) = true := fun r b => decide_eq_true (by simp; omega)
  have e0 : decide (0 ≤ (a.length : Int)) = true := decide_eq_true (by omega)
  have eg : ∀ (r : List D) (b : Rw), (a ++ r :: b).getD a.length [] = r := fun r b => kpb a b r _ rfl
  have u0 : w64 (k + 1) = k + 1 := kb _ (by omega)
  have u2 : w64 (k + 1 + kc x2 + 1) = k + 1 + kc x2 + 1 := kb _ (by omega)
  have m1 := kye x2 tx2 sx2.2 (by omega) (k + 1) (by omega) (by omega)
  have n1 : decide (k + 1 + kc x2 < 0) = false := decide_eq_false (by omega)
  have m3 := kpf x4 (by omega) (k + 1 + kc x2 + 1) (by omega) (by omega)
  have n3 : decide (k + 1 + kc x2 + 1 + 5 * (x4.length : Int) < 0) = false := decide_eq_false (by omega)
  have m4 := kud x5 (by omega) (k + 1 + kc x2 + 1 + 5 * (x4.length : Int)) (by omega) (by omega)
  have n4 : decide (k + 1 + kc x2 + 1 + 5 * (x4.length : Int) + 5 * (x5.length : Int) < 0) = false := decide_eq_false (by omega)
  have hw := ke a.length (by omega)
  have this := fun (z0 : SV) (z1 : SV) (z2 : SV) (z3 : SV) (z4 : SV) (z5 : SV) => ih (a ++ [ky k [.i .i64 x1, .l x2, .i .i64 x3, .l x4, .l x5]]) m (k + 1 + kc x2 + 1 + 5 * (x4.length : Int) + 5 * (x5.length : Int)) z0 z1 z2 z3 z4 z5 _ _ hb hb2 rfl rfl (by omega) (by simp; omega) (by omega) (by omega)
  have e3 : (a ++ [ky k [.i .i64 x1, .l x2, .i .i64 x3, .l x4, .l x5]]).length = a.length + 1 := by simp
  simp only [e3, List.append_assoc] at this
  have e5 : a ++ kl k ([.i .i64 x1, .l x2, .i .i64 x3, .l x4, .l x5] :: b) = a ++ ky k [.i .i64 x1, .l x2, .i .i64 x3, .l x4, .l x5] :: kl (k + 1 + kc x2 + 1 + 5 * (x4.length : Int) + 5 * (x5.length : Int)) b := by rw [kl, e6]
  rw [e5]
  have ez : isRow z94 (ky k [.i .i64 x1, .l x2, .i .i64 x3, .l x4, .l x5]) = true := rfl
  have d0 : asI (nthD (ky k [.i .i64 x1, .l x2, .i .i64 x3, .l x4, .l x5]) 0) = (k) := rfl
  have d1 : asL (nthD (ky k [.i .i64 x1, .l x2, .i .i64 x3, .l x4, .l x5]) 1) = (ko (k + 1) x2) := rfl
  have d2 : asI (nthD (ky k [.i .i64 x1, .l x2, .i .i64 x3, .l x4, .l x5]) 2) = (k + 1 + kc x2) := rfl
  have d3 : asL (nthD (ky k [.i .i64 x1, .l x2, .i .i64 x3, .l x4, .l x5]) 3) = (kv (k + 1 + kc x2 + 1) x4) := rfl
  have d4 : asL (nthD (ky k [.i .i64 x1, .l x2, .i .i64 x3, .l x4, .l x5]) 4) = (kj (k + 1 + kc x2 + 1 + 5 * (x4.length : Int)) x5) := rfl
  simp only [la31o0, e1, e0, if_true, itn, eg, ez, d0, d1, d2, d3, d4, u0, u2, m1, gz2, gz1, n1, m3, gz3, gz1, n3, m4, gz4, gz1, n4, bne_self_eq_false, beq_self_eq_true, bnt, bft, if_false, bat, ka, hw]
  rw [e7]
  exact this _ _ _ _ _ _
theorem kfe (l : Rw) (h : ∀ r ∈ l, typL kg r) (hs : ∀ r ∈ l, szdL kg r) (hl : l.length ≤ 4000000) (k : Int) (h0 : 0 ≤ k) (hk : k + kd l ≤ 4000000000000000000) : t31 (kl k l) k = some ([.one (.i .i64 (k + kd l))], []) := by
 unfold t31 ta31
 exact kld _ _ _ _ _ _ _ (fun _ _ _ _ _ _ _ _ => rfl) l [] KK k _ _ _ _ _ _ _ _ h hs rfl rfl (by rw [kk]; omega) (by simpa using hl) h0 hk
noncomputable def kgb (k : Int) : List D := [.i .i64 (k), .i .i64 (k + 1), .i .i64 (k + 1 + 1), .i .i64 (k + 1 + 1 + 1), .s (mkT (k + 1 + 1 + 1 + 1))]
noncomputable def ks : Int → Rw → Rw
 | _, [] => []
 | k, _ :: b => kgb k :: ks (k + 1 + 1 + 1 + 1 + 1) b
theorem kue (n8 : Int) (q : Int → Int → Bool → Rw → Rs) (hq : ∀ a b c d, q a b c d = some ([.one (.i .i64 a)], [[.l d]])) : ∀ (b a : Rw) (m : Nat) (k : Int) (v0 : SV), (∀ r ∈ b, r.length = 5) → b.length < m → a.length + b.length ≤ 4000000 → 0 ≤ k → k + 5 * (b.length : Int) ≤ 4000000000000000000 →
  la70o0 t71 n8 q m k (a.length : Int) v0 (a ++ b) = some ([.one (.i .i64 (k + 5 * (b.length : Int)))], [[.l (a ++ ks k b)]]) := by
 intro b
 induction b with
 | nil =>
  intro a m k v0 h hm hl h0 hk
  obtain ⟨m, rfl⟩ : ∃ m', m = m' + 1 := ⟨m - 1, by omega⟩
  have e : decide ((a.length : Int) < ((a ++ ([] : Rw)).length : Int)) = false := by simp
  have e2 : k + 5 * ((([] : Rw).length : Nat) : Int) = k := by simp
  simp only [la70o0, e, bft, if_false, hq, e2, ks]
 | cons r b ih =>
  intro a m k v0 h hm hl h0 hk
  obtain ⟨m, rfl⟩ : ∃ m', m = m' + 1 := ⟨m - 1, by omega⟩
  simp only [List.length_cons] at hm hl hk
  obtain ⟨c1, c2, c3, c4, c5, rfl⟩ := len5 (h r (List.mem_cons_self ..))
  have hb : ∀ r ∈ b, r.length = 5 := fun r hr => h r (List.mem_cons_of_mem _ hr)
  have e1 : ∀ r : List D, decide ((a.length : Int) < ((a ++ r :: b).length : Int)) = true := fun r => decide_eq_true (by simp; omega)
  have e0 : decide (0 ≤ (a.length : Int)) = true := decide_eq_true (by omega)
  have p1 : ∀ r : List D, decide (1 ≤ 5 ∧ a.length < (a ++ r :: b).length) = true := fun r => decide_eq_true (by simp)
  have p2 : ∀ r : List D, decide (2 ≤ 5 ∧ a.length < (a ++ r :: b).length) = true := fun r => decide_eq_true (by simp)
  have p3 : ∀ r : List D, decide (3 ≤ 5 ∧ a.length < (a ++ r :: b).length) = true := fun r => decide_eq_true (by simp)
  have p4 : ∀ r : List D, decide (4 ≤ 5 ∧ a.length < (a ++ r :: b).length) = true := fun r => decide_eq_true (by simp)
  have p5 : ∀ r : List D, decide (5 ≤ 5 ∧ a.length < (a ++ r :: b).length) = true := fun r => decide_eq_true (by simp)
  have u1 : w64 (k + 1) = k + 1 := kb _ (by omega)
  have u2 : w64 (k + 1 + 1) = k + 1 + 1 := kb _ (by omega)
  have u3 : w64 (k + 1 + 1 + 1) = k + 1 + 1 + 1 := kb _ (by omega)
  have u4 : w64 (k + 1 + 1 + 1 + 1) = k + 1 + 1 + 1 + 1 := kb _ (by omega)
  have u5 : w64 (k + 1 + 1 + 1 + 1 + 1) = k + 1 + 1 + 1 + 1 + 1 := kb _ (by omega)
  have t4 := kp (k + 1 + 1 + 1 + 1) (by omega)
  have hw := ke a.length (by omega)
  simp only [la70o0, e1, e0, if_true, itn, p1, p2, p3, p4, p5, u1, u2, u3, u4, u5, t4, kz, kab, kkf a b _ rfl, klf a b _ rfl, kif a b _ rfl, kjf a b _ rfl, kmf a b _ rfl, bat, ka, hw]
  have := fun (z0 : SV) => ih (a ++ [kgb k]) m (k + 1 + 1 + 1 + 1 + 1) z0 hb (by omega) (by simp; omega) (by omega) (by omega)
  have e3 : (a ++ [kgb k]).length = a.length + 1 := by simp
  simp only [e3, List.append_assoc] at this
  have e4 : k + 5 * ((([c1, c2, c3, c4, c5] :: b).length : Nat) : Int) = k + 1 + 1 + 1 + 1 + 1 + 5 * (b.length : Int) := by simp only [List.length_cons]; omega
  have e5 : a ++ ks k ([c1, c2, c3, c4, c5] :: b) = (a ++ [kgb k]) ++ ks (k + 1 + 1 + 1 + 1 + 1) b := by simp [ks]
  rw [e4, e5, List.append_assoc]
  exact this _
theorem ktg (l : Rw) (h : ∀ r ∈ l, r.length = 5) (hl : l.length ≤ 4000000) (k : Int) (h0 : 0 ≤ k) (hk : k + 5 * (l.length : Int) ≤ 4000000000000000000) : t70 l k = some ([.one (.i .i64 (k + 5 * (l.length : Int)))], [[.l (ks k l)]]) := by
 unfold t70 ta70
 exact kue _ _ (fun _ _ _ _ => rfl) l [] KK k _ h (by rw [kk]; omega) (by simpa using hl) h0 hk
theorem kef (n9 : Int) (q1 : Int → Int → Bool → Bool → SV → SV → SV → SV → Rs) (q2 : Int → Int → Bool → Bool → Bool → SV → SV → SV → Rs) (q3 : Int → Int → Bool → Bool → Bool → Bool → SV → SV → Rs) (q4 : Int → Int → Bool → Bool → Bool → Bool → Bool → SV → Rs) (q5 : Int → Int → Bool → Bool → Bool → Bool → Bool → Bool → Rs) (q6 : Int → Int → Bool → SV → SV → SV → SV → SV → Rs) (hq : ∀ x0 x1 x2 x3 x4 x5 x6 x7, q6 x0 x1 x2 x3 x4 x5 x6 x7 = some ([.one (.i .i64 x0)], [])) : ∀ (b a : Rw) (m : Nat) (k : Int) (v0 v1 v2 v3 v4 v5 : SV) (L : Rw) (i : Int), L = a ++ ks k b → i = (a.length : Int) → b.length < m → a.length + b.length ≤ 4000000 → 0 ≤ k → k + 5 * (b.length : Int) ≤ 4000000000000000000 →
  la77o0 t71 L n9 q1 q2 q3 q4 q5 q6 m k i v0 v1 v2 v3 v4 v5 = some ([.one (.i .i64 (k + 5 * (b.length : Int)))], []) := by
 intro b
 induction b with
 | nil =>
  intro a m k v0 v1 v2 v3 v4 v5 L i hL hi hm hl h0 hk
  subst hL hi
  obtain ⟨m, rfl⟩ : ∃ m', m = m' + 1 := ⟨m - 1, by omega⟩
  have e : decide ((a.length : Int) < ((a ++ ([] : Rw)).length : Int)) = false := by simp
  have e2 : k + 5 * ((([] : Rw).length : Nat) : Int) = k := by simp
  rw [show ks k [] = [] from rfl]
  simp only [la77o0, e, bft, if_false, hq, e2]
 | cons r b ih =>
  intro a m k v0 v1 v2 v3 v4 v5 L i hL hi hm hl h0 hk
  subst hL hi
  obtain ⟨m, rfl⟩ : ∃ m', m = m' + 1 := ⟨m - 1, by omega⟩
  simp only [List.length_cons] at hm hl hk
  have e1 : ∀ (r : List D) (b : Rw), decide ((a.length : Int) < ((a ++ r :: b).length : Int)) = true := fun r b => decide_eq_true (by simp; omega)
  have e0 : decide (0 ≤ (a.length : Int)) = true := decide_eq_true (by omega)
  have eg : ∀ (r : List D) (b : Rw), (a ++ r :: b).getD a.length [] = r := fun r b => kpb a b r _ rfl
  have u1 : w64 (k + 1) = k + 1 := kb _ (by omega)
  have u2 : w64 (k + 1 + 1) = k + 1 + 1 := kb _ (by omega)
  have u3 : w64 (k + 1 + 1 + 1) = k + 1 + 1 + 1 := kb _ (by omega)
  have u4 : w64 (k + 1 + 1 + 1 + 1) = k + 1 + 1 + 1 + 1 := kb _ (by omega)
  have u5 : w64 (k + 1 + 1 + 1 + 1 + 1) = k + 1 + 1 + 1 + 1 + 1 := kb _ (by omega)
  have t4 := kp (k + 1 + 1 + 1 + 1) (by omega)
  have hw := ke a.length (by omega)
  have this := fun (z0 : SV) (z1 : SV) (z2 : SV) (z3 : SV) (z4 : SV) (z5 : SV) => ih (a ++ [kgb k]) m (k + 1 + 1 + 1 + 1 + 1) z0 z1 z2 z3 z4 z5 _ _ rfl rfl (by omega) (by simp; omega) (by omega) (by omega)
  have e3 : (a ++ [kgb k]).length = a.length + 1 := by simp
  simp only [e3, List.append_assoc] at this
  have e4 : k + 5 * (((r :: b).length : Nat) : Int) = k + 1 + 1 + 1 + 1 + 1 + 5 * (b.length : Int) := by simp only [List.length_cons]; omega
  have e5 : a ++ ks k (r :: b) = a ++ kgb k :: ks (k + 1 + 1 + 1 + 1 + 1) b := rfl
  rw [e5]
  have ez : isRow z139 (kgb k) = true := rfl
  have d0 : asI (nthD (kgb k) 0) = k := rfl
  have d1 : asI (nthD (kgb k) 1) = k + 1 := rfl
  have d2 : asI (nthD (kgb k) 2) = k + 1 + 1 := rfl
  have d3 : asI (nthD (kgb k) 3) = k + 1 + 1 + 1 := rfl
  have d4 : asS (nthD (kgb k) 4) = mkT (k + 1 + 1 + 1 + 1) := rfl
  simp only [la77o0, e1, e0, if_true, itn, eg, ez, d0, d1, d2, d3, d4, u1, u2, u3, u4, u5, t4, kz, kab, bne_self_eq_false, beq_self_eq_true, bnt, bft, if_false, bat, ka, hw]
  rw [e4]
  exact this _ _ _ _ _ _
theorem kzg (l : Rw) (hl : l.length ≤ 4000000) (k : Int) (h0 : 0 ≤ k) (hk : k + 5 * (l.length : Int) ≤ 4000000000000000000) : t77 (ks k l) k = some ([.one (.i .i64 (k + 5 * (l.length : Int)))], []) := by
 unfold t77 ta77
 exact kef _ _ _ _ _ _ _ (fun _ _ _ _ _ _ _ _ => rfl) l [] KK k _ _ _ _ _ _ _ _ rfl rfl (by rw [kk]; omega) (by simpa using hl) h0 hk
theorem kxf (x1 : Int) (x2 : Int) (x3 : Int) (x4 : Int) (x5 : BA) (x6 : Rw) (x7 : Rw) (mx6 : ∀ r ∈ x6, r.length = 2) (wx6 : x6.length ≤ 1048576) (mx7 : ∀ r ∈ x7, r.length = 5) (wx7 : x7.length ≤ 1048576) (k : Int) (h0 : 0 ≤ k) (hk : k ≤ 3000000000000000000) : t28 x1 x2 x3 x4 x5 x6 x7 k = some ([.one (.i .i64 (k + 2 * (x6.length : Int) + 5 * (x7.length : Int)))], [[.i .i64 x1, .i .i64 x2, .i .i64 x3, .i .i64 x4, .s x5, .l (kf (k) x6), .l (ks (k + 2 * (x6.length : Int)) x7)]]) := by
 simp only [t28, ta28, kjg x1 x2 x3 x4 x5 x6 mx6 wx6 (k) (by omega) (by omega), ktg x7 mx7 (by omega) (k + 2 * (x6.length : Int)) (by omega) (by omega), zr69, zo69, zr70, zo70, okR, isVs, isV, isD, isDs, isOs, resC, outC, nthR, nthO, cellsDV, nthD, asB, asI, asS, asL, bat, bta, BEq.rfl, ka, decide_true]
theorem krf (x1 : Int) (x2 : Int) (x3 : Int) (x4 : Int) (x5 : BA) (x6 : Rw) (x7 : Rw) (mx6 : ∀ r ∈ x6, r.length = 2) (wx6 : x6.length ≤ 1048576) (mx7 : ∀ r ∈ x7, r.length = 5) (wx7 : x7.length ≤ 1048576) (k : Int) (h0 : 0 ≤ k) (hk : k ≤ 3000000000000000000) : t32 x1 x2 x3 x4 x5 (kf (k) x6) (ks (k + 2 * (x6.length : Int)) x7) k = some ([.one (.i .i64 (k + 2 * (x6.length : Int) + 5 * (x7.length : Int)))], []) := by
 have n0 : decide (k + 2 * (x6.length : Int) < 0) = false := decide_eq_false (by omega)
 have n1 : decide (k + 2 * (x6.length : Int) + 5 * (x7.length : Int) < 0) = false := decide_eq_false (by omega)
 simp only [t32, ta32, kxg x1 x2 x3 x4 x5 x6 mx6 wx6 (k) (by omega) (by omega), kzg x7 (by omega) (k + 2 * (x6.length : Int)) (by omega) (by omega), zr76, zo76, zr77, zo77, n0, n1, bft, if_false, okR, isVs, isV, isD, isDs, isOs, resC, outC, nthR, nthO, cellsDV, nthD, asB, asI, asS, asL, bat, bta, BEq.rfl, ka, decide_true]
theorem len9 {r : List D} (h : r.length = 9) : ∃ c1 c2 c3 c4 c5 c6 c7 c8 c9, r = [c1, c2, c3, c4, c5, c6, c7, c8, c9] := by
 match r, h with
 | [c1, c2, c3, c4, c5, c6, c7, c8, c9], _ => exact ⟨c1, c2, c3, c4, c5, c6, c7, c8, c9, rfl⟩
noncomputable def kx (k : Int) : List D := [.i .i64 (k), .i .i64 (k + 1), .i .i64 (k + 1 + 1), .i .i64 (k + 1 + 1 + 1), .s (mkT (k + 1 + 1 + 1 + 1)), .s (mkT (k + 1 + 1 + 1 + 1 + 1)), .i .i64 (k + 1 + 1 + 1 + 1 + 1 + 1), .i .i64 (k + 1 + 1 + 1 + 1 + 1 + 1 + 1), .s (mkT (k + 1 + 1 + 1 + 1 + 1 + 1 + 1 + 1))]
noncomputable def kw : Int → Rw → Rw
 | _, [] => []
 | k, _ :: b => kx k :: kw (k + 1 + 1 + 1 + 1 + 1 + 1 + 1 + 1 + 1) b
theorem kge (n8 : Int) (q : Int → Int → Bool → Rw → Rs) (hq : ∀ a b c d, q a b c d = some ([.one (.i .i64 a)], [[.l d]])) : ∀ (b a : Rw) (m : Nat) (k : Int) (v0 : SV), (∀ r ∈ b, r.length = 9) → b.length < m → a.length + b.length ≤ 4000000 → 0 ≤ k → k + 9 * (b.length : Int) ≤ 4000000000000000000 →
  la29o0 t71 n8 q m k (a.length : Int) v0 (a ++ b) = some ([.one (.i .i64 (k + 9 * (b.length : Int)))], [[.l (a ++ kw k b)]]) := by
 intro b
 induction b with
 | nil =>
  intro a m k v0 h hm hl h0 hk
  obtain ⟨m, rfl⟩ : ∃ m', m = m' + 1 := ⟨m - 1, by omega⟩
  have e : decide ((a.length : Int) < ((a ++ ([] : Rw)).length : Int)) = false := by simp
  have e2 : k + 9 * ((([] : Rw).length : Nat) : Int) = k := by simp
  simp only [la29o0, e, bft, if_false, hq, e2, kw]
 | cons r b ih =>
  intro a m k v0 h hm hl h0 hk
  obtain ⟨m, rfl⟩ : ∃ m', m = m' + 1 := ⟨m - 1, by omega⟩
  simp only [List.length_cons] at hm hl hk
  obtain ⟨c1, c2, c3, c4, c5, c6, c7, c8, c9, rfl⟩ := len9 (h r (List.mem_cons_self ..))
  have hb : ∀ r ∈ b, r.length = 9 := fun r hr => h r (List.mem_cons_of_mem _ hr)
  have e1 : ∀ r : List D, decide ((a.length : Int) < ((a ++ r :: b).length : Int)) = true := fun r => decide_eq_true (by simp; omega)
  have e0 : decide (0 ≤ (a.length : Int)) = true := decide_eq_true (by omega)
  have p1 : ∀ r : List D, decide (1 ≤ 9 ∧ a.length < (a ++ r :: b).length) = true := fun r => decide_eq_true (by simp)
  have p2 : ∀ r : List D, decide (2 ≤ 9 ∧ a.length < (a ++ r :: b).length) = true := fun r => decide_eq_true (by simp)
  have p3 : ∀ r : List D, decide (3 ≤ 9 ∧ a.length < (a ++ r :: b).length) = true := fun r => decide_eq_true (by simp)
  have p4 : ∀ r : List D, decide (4 ≤ 9 ∧ a.length < (a ++ r :: b).length) = true := fun r => decide_eq_true (by simp)
  have p5 : ∀ r : List D, decide (5 ≤ 9 ∧ a.length < (a ++ r :: b).length) = true := fun r => decide_eq_true (by simp)
  have p6 : ∀ r : List D, decide (6 ≤ 9 ∧ a.length < (a ++ r :: b).length) = true := fun r => decide_eq_true (by simp)
  have p7 : ∀ r : List D, decide (7 ≤ 9 ∧ a.length < (a ++ r :: b).length) = true := fun r => decide_eq_true (by simp)
  have p8 : ∀ r : List D, decide (8 ≤ 9 ∧ a.length < (a ++ r :: b).length) = true := fun r => decide_eq_true (by simp)
  have p9 : ∀ r : List D, decide (9 ≤ 9 ∧ a.length < (a ++ r :: b).length) = true := fun r => decide_eq_true (by simp)
  have u1 : w64 (k + 1) = k + 1 := kb _ (by omega)
  have u2 : w64 (k + 1 + 1) = k + 1 + 1 := kb _ (by omega)
  have u3 : w64 (k + 1 + 1 + 1) = k + 1 + 1 + 1 := kb _ (by omega)
  have u4 : w64 (k + 1 + 1 + 1 + 1) = k + 1 + 1 + 1 + 1 := kb _ (by omega)
  have u5 : w64 (k + 1 + 1 + 1 + 1 + 1) = k + 1 + 1 + 1 + 1 + 1 := kb _ (by omega)
  have u6 : w64 (k + 1 + 1 + 1 + 1 + 1 + 1) = k + 1 + 1 + 1 + 1 + 1 + 1 := kb _ (by omega)
  have u7 : w64 (k + 1 + 1 + 1 + 1 + 1 + 1 + 1) = k + 1 + 1 + 1 + 1 + 1 + 1 + 1 := kb _ (by omega)
  have u8 : w64 (k + 1 + 1 + 1 + 1 + 1 + 1 + 1 + 1) = k + 1 + 1 + 1 + 1 + 1 + 1 + 1 + 1 := kb _ (by omega)
  have u9 : w64 (k + 1 + 1 + 1 + 1 + 1 + 1 + 1 + 1 + 1) = k + 1 + 1 + 1 + 1 + 1 + 1 + 1 + 1 + 1 := kb _ (by omega)
  have t4 := kp (k + 1 + 1 + 1 + 1) (by omega)
  have t5 := kp (k + 1 + 1 + 1 + 1 + 1) (by omega)
  have t8 := kp (k + 1 + 1 + 1 + 1 + 1 + 1 + 1 + 1) (by omega)
  have hw := ke a.length (by omega)
  simp only [la29o0, e1, e0, if_true, itn, p1, p2, p3, p4, p5, p6, p7, p8, p9, u1, u2, u3, u4, u5, u6, u7, u8, u9, t4, t5, ta5, t8, ta8, kz, kab, ksi a b _ rfl, kui a b _ rfl, kxi a b _ rfl, kaj a b _ rfl, kti a b _ rfl, kqi a b _ rfl, kyi a b _ rfl, kri a b _ rfl, kvi a b _ rfl, bat, ka, hw]
  have := fun (z0 : SV) => ih (a ++ [kx k]) m (k + 1 + 1 + 1 + 1 + 1 + 1 + 1 + 1 + 1) z0 hb (by omega) (by simp; omega) (by omega) (by omega)
  have e3 : (a ++ [kx k]).length = a.length + 1 := by simp
  simp only [e3, List.append_assoc] at this
  have e4 : k + 9 * ((([c1, c2, c3, c4, c5, c6, c7, c8, c9] :: b).length : Nat) : Int) = k + 1 + 1 + 1 + 1 + 1 + 1 + 1 + 1 + 1 + 9 * (b.length : Int) := by simp only [List.length_cons]; omega
  have e5 : a ++ kw k ([c1, c2, c3, c4, c5, c6, c7, c8, c9] :: b) = (a ++ [kx k]) ++ kw (k + 1 + 1 + 1 + 1 + 1 + 1 + 1 + 1 + 1) b := by simp [kw]
  rw [e4, e5, List.append_assoc]
  exact this _
theorem kgg (l : Rw) (h : ∀ r ∈ l, r.length = 9) (hl : l.length ≤ 4000000) (k : Int) (h0 : 0 ≤ k) (hk : k + 9 * (l.length : Int) ≤ 4000000000000000000) : t29 l k = some ([.one (.i .i64 (k + 9 * (l.length : Int)))], [[.l (kw k l)]]) := by
 unfold t29 ta29
 exact kge _ _ (fun _ _ _ _ => rfl) l [] KK k _ h (by rw [kk]; omega) (by simpa using hl) h0 hk
theorem kke (n9 : Int) (q1 : Int → Int → Bool → Bool → SV → SV → SV → SV → SV → SV → SV → SV → Rs) (q2 : Int → Int → Bool → Bool → Bool → SV → SV → SV → SV → SV → SV → SV → Rs) (q3 : Int → Int → Bool → Bool → Bool → Bool → SV → SV → SV → SV → SV → SV → Rs) (q4 : Int → Int → Bool → Bool → Bool → Bool → Bool → SV → SV → SV → SV → SV → Rs) (q5 : Int → Int → Bool → Bool → Bool → Bool → Bool → Bool → SV → SV → SV → SV → Rs) (q6 : Int → Int → Bool → Bool → Bool → Bool → Bool → Bool → Bool → SV → SV → SV → Rs) (q7 : Int → Int → Bool → Bool → Bool → Bool → Bool → Bool → Bool → Bool → SV → SV → Rs) (q8 : Int → Int → Bool → Bool → Bool → Bool → Bool → Bool → Bool → Bool → Bool → SV → Rs) (q9 : Int → Int → Bool → Bool → Bool → Bool → Bool → Bool → Bool → Bool → Bool → Bool → Rs) (q10 : Int → Int → Bool → SV → SV → SV → SV → SV → SV → SV → SV → SV → Rs) (hq : ∀ x0 x1 x2 x3 x4 x5 x6 x7 x8 x9 x10 x11, q10 x0 x1 x2 x3 x4 x5 x6 x7 x8 x9 x10 x11 = some ([.one (.i .i64 x0)], [])) : ∀ (b a : Rw) (m : Nat) (k : Int) (v0 v1 v2 v3 v4 v5 v6 v7 v8 v9 : SV) (L : Rw) (i : Int), L = a ++ kw k b → i = (a.length : Int) → b.length < m → a.length + b.length ≤ 4000000 → 0 ≤ k → k + 9 * (b.length : Int) ≤ 4000000000000000000 →
  la33o0 t71 L n9 q1 q2 q3 q4 q5 q6 q7 q8 q9 q10 m k i v0 v1 v2 v3 v4 v5 v6 v7 v8 v9 = some ([.one (.i .i64 (k + 9 * (b.length : Int)))], []) := by
 intro b
 induction b with
 | nil =>
  intro a m k v0 v1 v2 v3 v4 v5 v6 v7 v8 v9 L i hL hi hm hl h0 hk
  subst hL hi
  obtain ⟨m, rfl⟩ : ∃ m', m = m' + 1 := ⟨m - 1, by omega⟩
  have e : decide ((a.length : Int) < ((a ++ ([] : Rw)).length : Int)) = false := by simp
  have e2 : k + 9 * ((([] : Rw).length : Nat) : Int) = k := by simp
  rw [show kw k [] = [] from rfl]
  simp only [la33o0, e, bft, if_false, hq, e2]
 | cons r b ih =>
  intro a m k v0 v1 v2 v3 v4 v5 v6 v7 v8 v9 L i hL hi hm hl h0 hk
  subst hL hi
  obtain ⟨m, rfl⟩ : ∃ m', m = m' + 1 := ⟨m - 1, by omega⟩
  simp only [List.length_cons] at hm hl hk
  have e1 : ∀ (r : List D) (b : Rw), decide ((a.length : Int) < ((a ++ r :: b).length : Int)) = true := fun r b => decide_eq_true (by simp; omega)
  have e0 : decide (0 ≤ (a.length : Int)) = true := decide_eq_true (by omega)
  have eg : ∀ (r : List D) (b : Rw), (a ++ r :: b).getD a.length [] = r := fun r b => kpb a b r _ rfl
  have u1 : w64 (k + 1) = k + 1 := kb _ (by omega)
  have u2 : w64 (k + 1 + 1) = k + 1 + 1 := kb _ (by omega)
  have u3 : w64 (k + 1 + 1 + 1) = k + 1 + 1 + 1 := kb _ (by omega)
  have u4 : w64 (k + 1 + 1 + 1 + 1) = k + 1 + 1 + 1 + 1 := kb _ (by omega)
  have u5 : w64 (k + 1 + 1 + 1 + 1 + 1) = k + 1 + 1 + 1 + 1 + 1 := kb _ (by omega)
  have u6 : w64 (k + 1 + 1 + 1 + 1 + 1 + 1) = k + 1 + 1 + 1 + 1 + 1 + 1 := kb _ (by omega)
  have u7 : w64 (k + 1 + 1 + 1 + 1 + 1 + 1 + 1) = k + 1 + 1 + 1 + 1 + 1 + 1 + 1 := kb _ (by omega)
  have u8 : w64 (k + 1 + 1 + 1 + 1 + 1 + 1 + 1 + 1) = k + 1 + 1 + 1 + 1 + 1 + 1 + 1 + 1 := kb _ (by omega)
  have u9 : w64 (k + 1 + 1 + 1 + 1 + 1 + 1 + 1 + 1 + 1) = k + 1 + 1 + 1 + 1 + 1 + 1 + 1 + 1 + 1 := kb _ (by omega)
  have t4 := kp (k + 1 + 1 + 1 + 1) (by omega)
  have t5 := kp (k + 1 + 1 + 1 + 1 + 1) (by omega)
  have t8 := kp (k + 1 + 1 + 1 + 1 + 1 + 1 + 1 + 1) (by omega)
  have hw := ke a.length (by omega)
  have this := fun (z0 : SV) (z1 : SV) (z2 : SV) (z3 : SV) (z4 : SV) (z5 : SV) (z6 : SV) (z7 : SV) (z8 : SV) (z9 : SV) => ih (a ++ [kx k]) m (k + 1 + 1 + 1 + 1 + 1 + 1 + 1 + 1 + 1) z0 z1 z2 z3 z4 z5 z6 z7 z8 z9 _ _ rfl rfl (by omega) (by simp; omega) (by omega) (by omega)
  have e3 : (a ++ [kx k]).length = a.length + 1 := by simp
  simp only [e3, List.append_assoc] at this
  have e4 : k + 9 * (((r :: b).length : Nat) : Int) = k + 1 + 1 + 1 + 1 + 1 + 1 + 1 + 1 + 1 + 9 * (b.length : Int) := by simp only [List.length_cons]; omega
  have e5 : a ++ kw k (r :: b) = a ++ kx k :: kw (k + 1 + 1 + 1 + 1 + 1 + 1 + 1 + 1 + 1) b := rfl
  rw [e5]
  have ez : isRow z100 (kx k) = true := rfl
  have d0 : asI (nthD (kx k) 0) = k := rfl
  have d1 : asI (nthD (kx k) 1) = k + 1 := rfl
  have d2 : asI (nthD (kx k) 2) = k + 1 + 1 := rfl
  have d3 : asI (nthD (kx k) 3) = k + 1 + 1 + 1 := rfl
  have d4 : asS (nthD (kx k) 4) = mkT (k + 1 + 1 + 1 + 1) := rfl
  have d5 : asS (nthD (kx k) 5) = mkT (k + 1 + 1 + 1 + 1 + 1) := rfl
  have d6 : asI (nthD (kx k) 6) = k + 1 + 1 + 1 + 1 + 1 + 1 := rfl
  have d7 : asI (nthD (kx k) 7) = k + 1 + 1 + 1 + 1 + 1 + 1 + 1 := rfl
  have d8 : asS (nthD (kx k) 8) = mkT (k + 1 + 1 + 1 + 1 + 1 + 1 + 1 + 1) := rfl
  simp only [la33o0, e1, e0, if_true, itn, eg, ez, d0, d1, d2, d3, d4, d5, d6, d7, d8, u1, u2, u3, u4, u5, u6, u7, u8, u9, t4, t5, ta5, t8, ta8, kz, kab, bne_self_eq_false, beq_self_eq_true, bnt, bft, if_false, bat, ka, hw]
  rw [e4]
  exact this _ _ _ _ _ _ _ _ _ _
theorem kof (l : Rw) (hl : l.length ≤ 4000000) (k : Int) (h0 : 0 ≤ k) (hk : k + 9 * (l.length : Int) ≤ 4000000000000000000) : t33 (kw k l) k = some ([.one (.i .i64 (k + 9 * (l.length : Int)))], []) := by
 unfold t33 ta33
 exact kke _ _ _ _ _ _ _ _ _ _ _ (fun _ _ _ _ _ _ _ _ _ _ _ _ => rfl) l [] KK k _ _ _ _ _ _ _ _ _ _ _ _ rfl rfl (by rw [kk]; omega) (by simpa using hl) h0 hk
theorem kng (x1 : Int) (x2 : Int) (x3 : Bool) (x4 : Int) (x5 : Int) (x6 : Int) (x7 : Int) (x8 : Int) (x9 : Int) (x10 : Int) (x11 : Int) (x12 : Rw) (x13 : Int) (x14 : Rw) (x15 : Rw) (x16 : Rw) (x17 : Rw) (x18 : Int) (x19 : Int) (x20 : BA) (x21 : Int) (x22 : Int) (x23 : Int) (x24 : Int) (x25 : BA) (x26 : Rw) (x27 : Rw) (x28 : Rw) (x29 : Int) (x30 : Int) (mx12 : ∀ r ∈ x12, r.length = 2) (wx12 : x12.length ≤ 1048576) (mx14 : ∀ r ∈ x14, r.length = 1) (wx14 : x14.length ≤ 1048576) (mx15 : ∀ r ∈ x15, r.length = 1) (wx15 : x15.length ≤ 1048576) (mx16 : ∀ r ∈ x16, r.length = 1) (wx16 : x16.length ≤ 1048576) (tx17 : ∀ r ∈ x17, typL kg r) (sx17 : ∀ r ∈ x17, szdL kg r) (wx17 : x17.length ≤ 1048576) (mx26 : ∀ r ∈ x26, r.length = 2) (wx26 : x26.length ≤ 1048576) (mx27 : ∀ r ∈ x27, r.length = 5) (wx27 : x27.length ≤ 1048576) (mx28 : ∀ r ∈ x28, r.length = 9) (wx28 : x28.length ≤ 1048576) (k : Int) (h0 : 0 ≤ k) (hk : k ≤ 1000000000000) : t8 x1 x2 x3 x4 x5 x6 x7 x8 x9 x10 x11 x12 x13 x14 x15 x16 x17 x18 x19 x20 x21 x22 x23 x24 x25 x26 x27 x28 x29 x30 k = some ([.one (.i .i64 (k + 2 * (x12.length : Int) + 1 * (x14.length : Int) + 1 * (x15.length : Int) + 1 * (x16.length : Int) + kd x17 + 2 * (x26.length : Int) + 5 * (x27.length : Int) + 9 * (x28.length : Int)))], [[.i .i64 x1, .i .i64 x2, .b x3, .i .i64 x4, .i .i64 x5, .i .i64 x6, .i .i64 x7, .i .i64 x8, .i .i64 x9, .i .i64 x10, .i .i64 x11, .l (kf (k) x12), .i .i64 x13, .l (kh (k + 2 * (x12.length : Int)) x14), .l (kh (k + 2 * (x12.length : Int) + 1 * (x14.length : Int)) x15), .l (kh (k + 2 * (x12.length : Int) + 1 * (x14.length : Int) + 1 * (x15.length : Int)) x16), .l (kl (k + 2 * (x12.length : Int) + 1 * (x14.length : Int) + 1 * (x15.length : Int) + 1 * (x16.length : Int)) x17), .i .i64 x18, .i .i64 x19, .s x20, .i .i64 x21, .i .i64 x22, .i .i64 x23, .i .i64 x24, .s x25, .l (kf ((k + 2 * (x12.length : Int) + 1 * (x14.length : Int) + 1 * (x15.length : Int) + 1 * (x16.length : Int) + kd x17)) x26), .l (ks ((k + 2 * (x12.length : Int) + 1 * (x14.length : Int) + 1 * (x15.length : Int) + 1 * (x16.length : Int) + kd x17) + 2 * (x26.length : Int)) x27), .l (kw (k + 2 * (x12.length : Int) + 1 * (x14.length : Int) + 1 * (x15.length : Int) + 1 * (x16.length : Int) + kd x17 + 2 * (x26.length : Int) + 5 * (x27.length : Int)) x28), .i .i64 x29, .i .i64 x30]]) := by
 have bx17 := kbc x17 tx17 sx17; have nx17 := kqb x17
 simp only [t8, ta8, klg x4 x5 x6 x7 x8 x9 x10 x11 x12 x13 x14 x15 x16 mx12 wx12 mx14 wx14 mx15 wx15 mx16 wx16 (k) (by omega) (by omega), kce x17 tx17 sx17 (by omega) (k + 2 * (x12.length : Int) + 1 * (x14.length : Int) + 1 * (x15.length : Int) + 1 * (x16.length : Int)) (by omega) (by omega), kxf x21 x22 x23 x24 x25 x26 x27 mx26 wx26 mx27 wx27 (k + 2 * (x12.length : Int) + 1 * (x14.length : Int) + 1 * (x15.length : Int) + 1 * (x16.length : Int) + kd x17) (by omega) (by omega), kgg x28 mx28 (by omega) (k + 2 * (x12.length : Int) + 1 * (x14.length : Int) + 1 * (x15.length : Int) + 1 * (x16.length : Int) + kd x17 + 2 * (x26.length : Int) + 5 * (x27.length : Int)) (by omega) (by omega), zr26, zo26, zr27, zo27, zr28, zo28, zr29, zo29, okR, isVs, isV, isD, isDs, isOs, resC, outC, nthR, nthO, cellsDV, nthD, asB, asI, asS, asL, bat, bta, BEq.rfl, ka, decide_true]
theorem kmg (x1 : Int) (x2 : Int) (x3 : Bool) (x4 : Int) (x5 : Int) (x6 : Int) (x7 : Int) (x8 : Int) (x9 : Int) (x10 : Int) (x11 : Int) (x12 : Rw) (x13 : Int) (x14 : Rw) (x15 : Rw) (x16 : Rw) (x17 : Rw) (x18 : Int) (x19 : Int) (x20 : BA) (x21 : Int) (x22 : Int) (x23 : Int) (x24 : Int) (x25 : BA) (x26 : Rw) (x27 : Rw) (x28 : Rw) (x29 : Int) (x30 : Int) (mx12 : ∀ r ∈ x12, r.length = 2) (wx12 : x12.length ≤ 1048576) (mx14 : ∀ r ∈ x14, r.length = 1) (wx14 : x14.length ≤ 1048576) (mx15 : ∀ r ∈ x15, r.length = 1) (wx15 : x15.length ≤ 1048576) (mx16 : ∀ r ∈ x16, r.length = 1) (wx16 : x16.length ≤ 1048576) (tx17 : ∀ r ∈ x17, typL kg r) (sx17 : ∀ r ∈ x17, szdL kg r) (wx17 : x17.length ≤ 1048576) (mx26 : ∀ r ∈ x26, r.length = 2) (wx26 : x26.length ≤ 1048576) (mx27 : ∀ r ∈ x27, r.length = 5) (wx27 : x27.length ≤ 1048576) (mx28 : ∀ r ∈ x28, r.length = 9) (wx28 : x28.length ≤ 1048576) (k : Int) (h0 : 0 ≤ k) (hk : k ≤ 1000000000000) : t9 x1 x2 x3 x4 x5 x6 x7 x8 x9 x10 x11 (kf (k) x12) x13 (kh (k + 2 * (x12.length : Int)) x14) (kh (k + 2 * (x12.length : Int) + 1 * (x14.length : Int)) x15) (kh (k + 2 * (x12.length : Int) + 1 * (x14.length : Int) + 1 * (x15.length : Int)) x16) (kl (k + 2 * (x12.length : Int) + 1 * (x14.length : Int) + 1 * (x15.length : Int) + 1 * (x16.length : Int)) x17) x18 x19 x20 x21 x22 x23 x24 x25 (kf ((k + 2 * (x12.length : Int) + 1 * (x14.length : Int) + 1 * (x15.length : Int) + 1 * (x16.length : Int) + kd x17)) x26) (ks ((k + 2 * (x12.length : Int) + 1 * (x14.length : Int) + 1 * (x15.length : Int) + 1 * (x16.length : Int) + kd x17) + 2 * (x26.length : Int)) x27) (kw (k + 2 * (x12.length : Int) + 1 * (x14.length : Int) + 1 * (x15.length : Int) + 1 * (x16.length : Int) + kd x17 + 2 * (x26.length : Int) + 5 * (x27.length : Int)) x28) x29 x30 k = some ([.one (.i .i64 (k + 2 * (x12.length : Int) + 1 * (x14.length : Int) + 1 * (x15.length : Int) + 1 * (x16.length : Int) + kd x17 + 2 * (x26.length : Int) + 5 * (x27.length : Int) + 9 * (x28.length : Int)))], []) := by
 have bx17 := kbc x17 tx17 sx17; have nx17 := kqb x17
 have n0 : decide (k + 2 * (x12.length : Int) + 1 * (x14.length : Int) + 1 * (x15.length : Int) + 1 * (x16.length : Int) < 0) = false := decide_eq_false (by omega)
 have n1 : decide (k + 2 * (x12.length : Int) + 1 * (x14.length : Int) + 1 * (x15.length : Int) + 1 * (x16.length : Int) + kd x17 < 0) = false := decide_eq_false (by omega)
 have n2 : decide (k + 2 * (x12.length : Int) + 1 * (x14.length : Int) + 1 * (x15.length : Int) + 1 * (x16.length : Int) + kd x17 + 2 * (x26.length : Int) + 5 * (x27.length : Int) < 0) = false := decide_eq_false (by omega)
 have n3 : decide (k + 2 * (x12.length : Int) + 1 * (x14.length : Int) + 1 * (x15.length : Int) + 1 * (x16.length : Int) + kd x17 + 2 * (x26.length : Int) + 5 * (x27.length : Int) + 9 * (x28.length : Int) < 0) = false := decide_eq_false (by omega)
 simp only [t9, ta9, kug x4 x5 x6 x7 x8 x9 x10 x11 x12 x13 x14 x15 x16 mx12 wx12 mx14 wx14 mx15 wx15 mx16 wx16 (k) (by omega) (by omega), kfe x17 tx17 sx17 (by omega) (k + 2 * (x12.length : Int) + 1 * (x14.length : Int) + 1 * (x15.length : Int) + 1 * (x16.length : Int)) (by omega) (by omega), krf x21 x22 x23 x24 x25 x26 x27 mx26 wx26 mx27 wx27 (k + 2 * (x12.length : Int) + 1 * (x14.length : Int) + 1 * (x15.length : Int) + 1 * (x16.length : Int) + kd x17) (by omega) (by omega), kof x28 (by omega) (k + 2 * (x12.length : Int) + 1 * (x14.length : Int) + 1 * (x15.length : Int) + 1 * (x16.length : Int) + kd x17 + 2 * (x26.length : Int) + 5 * (x27.length : Int)) (by omega) (by omega), zr30, zo30, zr31, zo31, zr32, zo32, zr33, zo33, n0, n1, n2, n3, bft, if_false, okR, isVs, isV, isD, isDs, isOs, resC, outC, nthR, nthO, cellsDV, nthD, asB, asI, asS, asL, bat, bta, BEq.rfl, ka, decide_true]
def mx (p : Int) : Int := if p < 1 then 1 else p
def allB (f : Nat → Bool) : Nat → Nat → Bool
 | 0, _ => true
 | k + 1, i => f i && allB f k (i + 1)
theorem krb : ∀ r, typL kq r → isRow z3 r = true := fun r h => by
 obtain ⟨a, rfl⟩ := kch h; rfl
theorem kfj {n : Nat} {l : Rw} (h : ∀ r ∈ l, (decide (r.length = n) && allSc r) = true) : flatR n l = true := by
 induction l with
 | nil => rfl
 | cons r l ih => simp only [flatR, h r (by simp), ih (fun r hr => h r (by simp [hr])), bat]
theorem kec {l : Rw} (h : ∀ r ∈ l, typL ki r) : flatR 2 l = true := kfj fun r hr => by
 obtain ⟨a, b, rfl, _⟩ := khc (h r hr); rfl
theorem kuh (n0 n1 n2 n3 : Int) (s0 : BA) (l0 : Rw) (b0 b1 : Bool) (t n4 n5 n6 : Int) (s1 : BA) (q1 : Int → Int → Bool → Bool → Int → BA → Rs) (q2 : Int → Int → Bool → SV → Rs) (h1 : ∀ a b c d e f, q1 a b c d e f = some ([.one (.b false)], [])) (h2 : ∀ a b c d, q2 a b c d = some ([.one (.b true)], [])) (l : Rw) (h : ∀ r ∈ l, typL ki r) (hl : l.length < 4611686018427387904) : ∀ (k i m : Nat) (p : Int) (v w : SV), i + k = l.length → k < m →
  la81o1 t34 t108 n0 n1 n2 n3 s0 l0 b0 b1 t n4 n5 n6 s1 l q1 q2 m p i v w = some ([.one (.b (runB l t k i (mx p)))], []) := by
 intro k
 induction k with
 | zero =>
  intro i m p v w e hm
  obtain ⟨m, rfl⟩ : ∃ m', m = m' + 1 := ⟨m - 1, by omega⟩
  have ei : decide ((i : Int) < (l.length : Int)) = false := by simp; omega
  simp only [la81o1, ei, h2, runB]
  simp
 | succ k ih =>
  intro i m p v w e hm
  obtain ⟨m, rfl⟩ : ∃ m', m = m' + 1 := ⟨m - 1, by omega⟩
  have e1 := kob (i := i) (n := l.length) (by omega)
  have ez := kfb h _ kmc i (by omega)
  simp only [la81o1, e1, kmb, itn, ez, bat, ka, if_true, runB]
  rw [ke i (by omega)]
  have hm1 : mx p = if p < 1 then 1 else p := rfl
  by_cases g : mx p ≤ asI (nthD (l.getD i []) 0) ∧ asI (nthD (l.getD i []) 0) ≤ t ∧ ((asS (nthD (l.getD i []) 1)).size : Int) ≤ 1600
  ·have g1 : (((decide (asI (nthD (l.getD i []) 0) < 1) || decide (asI (nthD (l.getD i []) 0) < p)) || decide (asI (nthD (l.getD i []) 0) > t)) || decide (((asS (nthD (l.getD i []) 1)).size : Int) > 1600)) = false := by
    simp only [Bool.or_eq_false_iff, decide_eq_false_iff_not]; rw [hm1] at g; split at g <;> omega
   simp only [g1, decide_eq_true g, bta, bft, if_false]
   have hmx : mx (asI (nthD (l.getD i []) 0)) = asI (nthD (l.getD i []) 0) := by unfold mx; rw [hm1] at g; split at g <;> (rw [if_neg (by omega)])
   have := ih (i + 1) m (asI (nthD (l.getD i []) 0)) (.d (.b true)) (.d (.b false)) (by omega) (by omega)
   rw [hmx] at this
   exact this
  ·have g1 : (((decide (asI (nthD (l.getD i []) 0) < 1) || decide (asI (nthD (l.getD i []) 0) < p)) || decide (asI (nthD (l.getD i []) 0) > t)) || decide (((asS (nthD (l.getD i []) 1)).size : Int) > 1600)) = true := by
    simp only [Bool.or_eq_true, decide_eq_true_eq]; rw [hm1] at g; split at g <;> omega
   simp only [g1, if_true, h1, decide_eq_false g, Bool.false_and]
theorem gz5 : ∀ x, okR zr18 zo18 (some ([.one (.b x)], [])) = true := fun _ => id rfl
theorem gz6 : ∀ x, asB (resC (some ([.one (.b x)], [])) 0 0) = x := fun _ => id rfl
theorem kqh (n0 n1 n2 n3 : Int) (s0 : BA) (l0 : Rw) (b0 b1 b2 : Bool) (t n4 n5 n6 : Int) (s1 : BA) (l1 : Rw) (q1 : Int → Int → Bool → Bool → Int → BA → Rs) (q2 : Int → Int → Bool → SV → Rs) (g : Bool) (h1 : ∀ a b c d e f, q1 a b c d e f = some ([.one (.b false)], [])) (h2 : ∀ a b c d, q2 a b c d = some ([.one (.b g)], [])) (l : Rw) (h : ∀ r ∈ l, typL ki r) (hl : l.length < 4611686018427387904) : ∀ (k i m : Nat) (p : Int) (v w : SV), i + k = l.length → k < m →
  la130o2 t18 n0 n1 n2 n3 s0 l0 b0 b1 b2 l (l.length : Int) t n4 n5 n6 s1 l1 q1 q2 m p i v w = some ([.one (.b (runB l t k i p && g))], []) := by
 intro k
 induction k with
 | zero =>
  intro i m p v w e hm
  obtain ⟨m, rfl⟩ : ∃ m', m = m' + 1 := ⟨m - 1, by omega⟩
  have ei : decide ((i : Int) < (l.length : Int)) = false := by simp; omega
  simp only [la130o2, ei, h2, runB]
  simp
 | succ k ih =>
  intro i m p v w e hm
  obtain ⟨m, rfl⟩ : ∃ m', m = m' + 1 := ⟨m - 1, by omega⟩
  have e1 := kob (i := i) (n := l.length) (by omega)
  have ez := kfb h _ kmc i (by omega)
  simp only [la130o2, e1, kmb, itn, ez, klb, gz5, gz6, bat, bto, ka, if_true, runB]
  rw [ke i (by omega)]
  by_cases g' : p ≤ asI (nthD (l.getD i []) 0) ∧ asI (nthD (l.getD i []) 0) ≤ t ∧ ((asS (nthD (l.getD i []) 1)).size : Int) ≤ 1600
  ·have g1 : (decide (((asS (nthD (l.getD i []) 1)).size : Int) > 1600) || !(decide (p ≤ asI (nthD (l.getD i []) 0)) && decide (asI (nthD (l.getD i []) 0) ≤ t))) = false := by
    simp only [Bool.or_eq_false_iff, Bool.not_eq_false', Bool.and_eq_true, decide_eq_false_iff_not, decide_eq_true_eq]; omega
   simp only [g1, decide_eq_true g', bta, bft, if_false]
   exact ih (i + 1) m _ _ _ (by omega) (by omega)
  ·have g1 : (decide (((asS (nthD (l.getD i []) 1)).size : Int) > 1600) || !(decide (p ≤ asI (nthD (l.getD i []) 0)) && decide (asI (nthD (l.getD i []) 0) ≤ t))) = true := by
    simp only [Bool.or_eq_true, Bool.not_eq_true', Bool.and_eq_false_iff, decide_eq_false_iff_not, decide_eq_true_eq]; omega
   simp only [g1, if_true, h1, decide_eq_false g', Bool.false_and]
def kvc (t v si st : Int) (ss : BA) (l : Rw) : Bool :=
 decide (0 ≤ t ∧ t ≤ 100000 ∧ -1 ≤ v ∧ v ≤ 4 ∧ (si = 0 → (ss.size : Int) = 0) ∧ (ss.size : Int) ≤ 20000 ∧ st ≤ t ∧ (l.length : Int) ≤ 60 ∧ w64 (si + (l.length : Int)) ≤ 100000) && klc si st
def ktb (t v si st : Int) (ss : BA) (l : Rw) : Bool := kvc t v si st ss l && runB l t l.length 0 (mx st)
theorem gz7 : ∀ x, okR zr34 zo34 (some ([.one (.b x)], [])) = true := fun _ => id rfl
theorem gz8 : ∀ x, okR zr108 zo108 (some ([.one (.b x)], [])) = true := fun _ => id rfl
theorem kqc (t v si st : Int) (ss : BA) (l : Rw) (hl : l.length ≤ 1048576) (h : ∀ r ∈ l, typL ki r) : t81 t v si st ss l = some ([.one (.b (ktb t v si st ss l))], []) := by
 have key := fun b0 b1 => kuh t v si st ss l b0 b1 t v si st ss (fun _ _ _ _ _ _ => some ([.one (.b false)], [])) (fun _ _ _ _ => some ([.one (.b true)], [])) (fun _ _ _ _ _ _ => rfl) (fun _ _ _ _ => rfl) l h (by omega) l.length 0 KK st .undef .undef (by omega) (by rw [kk]; omega)
 simp only [t81, ta81, koc, kvh, gz7, gz8, gz6, bto, ka]
 rw [kfc _ (kvc t v si st ss l)]
 ·unfold ktb
  cases kvc t v si st ss l
  ·rfl
  ·refine Eq.trans (key _ _) ?_; simp
 ·unfold kvc
  generalize klc si st = pl
  rw [Bool.eq_iff_iff]
  cases pl <;> simp [-ByteArray.size_eq_zero_iff] <;> try omega
theorem kuc (t v si st : Int) (ss : BA) (l : Rw) (hl : l.length ≤ 1048576) (h : ∀ r ∈ l, typL ki r) : t130 t v si st ss l = some ([.one (.b (ktb t v si st ss l))], []) := by
 have key := fun b0 b1 b2 => kqh t v si st ss l b0 b1 b2 t v si st ss l (fun _ _ _ _ _ _ => some ([.one (.b false)], [])) (fun _ _ _ _ => some ([.one (.b (decide (w64 (si + (l.length : Int)) ≤ 100000)))], [])) _ (fun _ _ _ _ _ _ => rfl) (fun _ _ _ _ => rfl) l h (by omega) l.length 0 KK (mx st) .undef .undef (by omega) (by rw [kk]; omega)
 have e : (if st > 1 then st else 1) = mx st := by unfold mx; split <;> split <;> omega
 simp only [t130, ta130, klb, gz5, gz6, bto, ka, e]
 unfold ktb kvc klc
 split
 ·rename_i g
  apply kib
  symm
  rw [Bool.eq_false_iff]
  simp at g ⊢
  omega
 ·rename_i g
  split
  ·rename_i g2
   apply kib
   symm
   rw [Bool.eq_false_iff]
   simp [-ByteArray.size_eq_zero_iff] at g g2 ⊢
   omega
  ·rename_i g2
   refine Eq.trans (key _ _ _) ?_
   apply kib
   rw [Bool.eq_iff_iff]
   generalize runB l t l.length 0 (mx st) = r
   cases r
   ·simp
   ·simp [-ByteArray.size_eq_zero_iff] at g g2 ⊢
    omega
structure KS where
 (t v si st : Int) (sd : BA) (es : Rw)
structure RC where
 (k t i v : Int) (d : BA)
def kD (k : KS) : List D := [.i .i64 k.t, .i .i64 k.v, .i .i64 k.si, .i .i64 k.st, .s k.sd, .l k.es]
def kub (r : RC) : Bool :=
 (decide (r.k = 1) && decide (0 ≤ r.t ∧ r.t ≤ 100000 ∧ -1 ≤ r.v ∧ r.v ≤ 4 ∧ r.i = 0 ∧ (r.d.size : Int) = 0)) ||
 (decide (r.k = 2) && decide (1 ≤ r.t ∧ r.t ≤ 100000 ∧ 1 ≤ r.i ∧ r.i ≤ 100000 ∧ r.v = 0 ∧ (r.d.size : Int) ≤ 1600)) ||
 (decide (r.k = 3) && decide (r.t = 0 ∧ 1 ≤ r.i ∧ r.i ≤ 100000 ∧ r.v = 0 ∧ (r.d.size : Int) = 0)) ||
 (decide (r.k = 4) && decide (1 ≤ r.t ∧ r.t ≤ 100000 ∧ 1 ≤ r.i ∧ r.i ≤ 100000 ∧ r.v = 0 ∧ (r.d.size : Int) ≤ 20000))
def knd (k : KS) : Int := if k.es.length = 0 then k.st else asI (nthD (k.es.getD (k.es.length - 1) []) 0)
def kcc (k : KS) (r : RC) : Bool :=
 if r.k = 1 then decide (r.t > k.t ∨ (r.t = k.t ∧ (k.v = -1 ∨ r.v = k.v)))
 else if r.k = 2 then decide (r.i = k.si + (k.es.length : Int) + 1 ∧ k.es.length < 60 ∧ knd k ≤ r.t ∧ r.t ≤ k.t)
 else if r.k = 3 then decide (k.si < r.i ∧ r.i ≤ k.si + (k.es.length : Int))
 else decide (k.si < r.i ∧ r.t ≤ k.t)
def kkc (k : KS) (i t : Int) : Rw :=
 if i - k.si ≤ (k.es.length : Int) ∧ asI (nthD (k.es.getD (i - k.si - 1).toNat []) 0) = t then k.es.drop (i - k.si).toNat else []
def kvb (k : KS) (r : RC) : KS × Bool :=
 if kub r && kcc k r then
  if r.k = 1 then (⟨r.t, r.v, k.si, k.st, k.sd, k.es⟩, true)
  else if r.k = 2 then (⟨k.t, k.v, k.si, k.st, k.sd, k.es ++ [[.i .i64 r.t, .s r.d]]⟩, true)
  else if r.k = 3 then (⟨k.t, k.v, k.si, k.st, k.sd, k.es.take (r.i - k.si - 1).toNat⟩, true)
  else (⟨k.t, k.v, r.i, r.t, r.d, kkc k r.i r.t⟩, true)
 else (k, false)
structure KI (k : KS) : Prop where
 h0 : 0 ≤ k.si
 h1 : k.si ≤ 100000
 h2 : k.es.length ≤ 60
 h3 : ∀ r ∈ k.es, typL ki r
theorem kmj (n : Int) (h : -9223372036854775808 ≤ n ∧ n ≤ 9223372036854775807) : (Lit.int .i64 n).wf = true := by
 have : IntKind.wrap .i64 n = n := kb n h
 simp [Lit.wf, this]
 exact h
theorem KI.step {k : KS} (h : KI k) (r : RC) (g : kub r = true) : KI (kvb k r).1 := by
 unfold kvb
 split
 ·rename_i hc
  simp only [Bool.and_eq_true] at hc
  have hf := hc.2
  have hr := hc.1
  simp only [kub, Bool.or_eq_true, Bool.and_eq_true, decide_eq_true_eq] at hr
  split
  ·exact ⟨h.h0, h.h1, h.h2, h.h3⟩
  split
  ·rename_i h2
   simp only [kcc, h2] at hf
   simp at hf
   refine ⟨h.h0, h.h1, by simp; omega, fun x hx => ?_⟩
   rcases List.mem_append.1 hx with hx | hx
   ·exact h.h3 x hx
   ·simp at hx; subst hx
    have hm : 1600 ≤ maxLen := by decide
    exact ⟨_, _, rfl, ⟨r.t, rfl, kmj _ (by omega)⟩, _, _, rfl, ⟨r.d, rfl, by omega⟩, rfl⟩
  split
  ·exact ⟨h.h0, h.h1, by have := h.h2; simp; omega, fun x hx => h.h3 x (List.mem_of_mem_take hx)⟩
  ·refine ⟨by simp only; omega, by simp only; omega, ?_, fun x hx => ?_⟩
   ·have := h.h2
    unfold kkc; split
    ·simp; omega
    ·simp
   ·unfold kkc at hx; split at hx
    ·exact h.h3 x (List.mem_of_mem_drop hx)
    ·simp at hx
 ·exact h
theorem kyf {t v si st : Int} {ss : BA} {l : Rw} (h : ∀ r ∈ l, typL ki r) (hb : ktb t v si st ss l = true) : KI ⟨t, v, si, st, ss, l⟩ := by
 simp only [ktb, kvc, klc, Bool.and_eq_true, decide_eq_true_eq] at hb
 exact ⟨by simp only; omega, by simp only; omega, by simp only; omega, h⟩
theorem ksh (a b c d : Int) (e : BA) : t137 a b c d e = some ([.one (.b (kub ⟨a, b, c, d, e⟩))], []) := by
 simp [-ByteArray.size_eq_zero_iff, t137, ta137, koc, zr34, zo34, kub]
 (repeat' split) <;> (apply kib; rw [Bool.eq_iff_iff]; simp [-ByteArray.size_eq_zero_iff]; omega)
theorem kth (a b c d : Int) (e : BA) : t169 a b c d e = some ([.one (.b (kub ⟨a, b, c, d, e⟩))], []) := by
 simp [-ByteArray.size_eq_zero_iff, t169, ta169, klb, zr18, zo18, kub]
 (repeat' split) <;> (apply kib; rw [Bool.eq_iff_iff]; simp [-ByteArray.size_eq_zero_iff]; omega)
theorem keg {k : KS} (h : KI k) (hn : ¬ k.es.length = 0) : w64 ((k.es.length : Int) - 1) = ((k.es.length - 1 : Nat) : Int) ∧ (decide ((0 : Int) ≤ ((k.es.length - 1 : Nat) : Int)) && decide (((k.es.length - 1 : Nat) : Int) < (k.es.length : Int)) && isRow z116 (k.es.getD (k.es.length - 1) [])) = true := by
 have := h.h2
 refine ⟨by rw [kb _ (by omega)]; omega, ?_⟩
 rw [kmb, kob (show k.es.length - 1 < k.es.length by omega), kfb h.h3 _ kmc _ (by omega)]
 rfl
theorem kwh (k : KS) (h : KI k) : t164 k.t k.v k.si k.st k.sd k.es = some ([.one (.i .i64 (knd k))], []) := by
 unfold t164 knd
 by_cases hn : k.es.length = 0
 ·have e : ((k.es.length : Int) == 0) = true := by simp [hn]
  simp only [e, if_true, if_pos hn]
 ·have e : ((k.es.length : Int) == 0) = false := by rw [beq_eq_false_iff_ne]; omega
  obtain ⟨e1, e2⟩ := keg h hn
  simp only [e, bft, if_false, if_neg hn, e1, itn, e2, ka]
theorem gz9 : ∀ x, okR zr164 zo164 (some ([.one (.i .i64 x)], [])) = true := fun _ => id rfl
theorem gz10 : ∀ x, asI (resC (some ([.one (.i .i64 x)], [])) 0 0) = x := fun _ => id rfl
theorem kei (k : KS) (h : KI k) (r : RC) (hr : kub r = true) : t138 k.t k.v k.si k.st k.sd k.es r.k r.t r.i r.v r.d = some ([.one (.b (kcc k r))], []) := by
 have h0 := h.h0; have h1 := h.h1; have h2 := h.h2
 have e1 : w64 (k.si + (k.es.length : Int)) = k.si + (k.es.length : Int) := kb _ (by omega)
 have e2 : w64 (k.si + (k.es.length : Int) + 1) = k.si + (k.es.length : Int) + 1 := kb _ (by omega)
 simp only [t138, ta138, kwh k h, gz9, gz10, e1, e2, bto, ka, kcc]
 have hk : r.k = 1 ∨ r.k = 2 ∨ r.k = 3 ∨ r.k = 4 := by
  simp only [kub, Bool.or_eq_true, Bool.and_eq_true, decide_eq_true_eq] at hr; omega
 rcases hk with hk | hk | hk | hk <;> (simp [hk]; try (rw [Bool.eq_iff_iff]; simp; try omega))
theorem kih (k : KS) (h : KI k) : t183 k.t k.v k.si k.st k.sd k.es = some ([.one (.i .i64 (k.si + (k.es.length : Int))), .one (.i .i64 (knd k))], []) := by
 have h0 := h.h0; have h1 := h.h1; have h2 := h.h2
 have e1 : w64 (k.si + (k.es.length : Int)) = k.si + (k.es.length : Int) := kb _ (by omega)
 unfold t183 knd
 by_cases hn : k.es.length = 0
 ·have e : ((k.es.length : Int) == 0) = true := by simp [hn]
  have e0 : k.si + (k.es.length : Int) = k.si := by omega
  simp only [e, if_true, if_pos hn, e0]
 ·have e : ((k.es.length : Int) == 0) = false := by rw [beq_eq_false_iff_ne]; omega
  obtain ⟨e3, e2⟩ := keg h hn
  simp only [e, bft, if_false, if_neg hn, e1, e3, itn, e2, ka]
theorem gz11 : ∀ x y, okR zr183 zo183 (some ([.one (.i .i64 x), .one (.i .i64 y)], [])) = true := fun _ _ => id rfl
theorem gz12 : ∀ x y, asI (resC (some ([.one (.i .i64 x), .one (.i .i64 y)], [])) 0 0) = x := fun _ _ => id rfl
theorem gz13 : ∀ x y, asI (resC (some ([.one (.i .i64 x), .one (.i .i64 y)], [])) 1 0) = y := fun _ _ => id rfl
theorem kii (k : KS) (h : KI k) (r : RC) (hr : kub r = true) : t170 k.t k.v k.si k.st k.sd k.es r.k r.t r.i r.v r.d = some ([.one (.b (kcc k r))], []) := by
 have h0 := h.h0; have h1 := h.h1; have h2 := h.h2
 have e2 : w64 (k.si + (k.es.length : Int) + 1) = k.si + (k.es.length : Int) + 1 := kb _ (by omega)
 have e3 : w64 (k.si + 1) = k.si + 1 := kb _ (by omega)
 simp only [t170, ta170, kih k h, klb, gz11, gz12, gz13, gz5, gz6, e2, e3, bto, ka, kcc]
 have hk : r.k = 1 ∨ r.k = 2 ∨ r.k = 3 ∨ r.k = 4 := by
  simp only [kub, Bool.or_eq_true, Bool.and_eq_true, decide_eq_true_eq] at hr; omega
 rcases hk with hk | hk | hk | hk <;> (simp [hk]; try (rw [Bool.eq_iff_iff]; simp; try omega))
theorem kfi (t : Int) (d : BA) (l : Rw) (h : l.length ≤ 60) : ((flatR 2 [[.i .i64 t, .s d]]) && decide (l.length + [[D.i .i64 t, D.s d]].length ≤ lim)) = true := by
 have : l.length + 1 ≤ lim := by unfold lim; omega
 simpa [flatR, allSc, isSc] using this
theorem kzi {k : KS} (h : KI k) (n : Nat) : flatR 2 (k.es.drop n) = true := kec fun r hr => h.h3 r (List.mem_of_mem_drop hr)
theorem gz14 : ∀ x, okR zr137 zo137 (some ([.one (.b x)], [])) = true := fun _ => id rfl
theorem gz15 : ∀ x, okR zr138 zo138 (some ([.one (.b x)], [])) = true := fun _ => id rfl
theorem gz16 : ∀ x, okR zr139 zo139 (some ([.one (.l x)], [])) = true := fun _ => id rfl
theorem gz17 : ∀ x, asL (resC (some ([.one (.l x)], [])) 0 0) = x := fun _ => id rfl
theorem kyh (k : KS) (h : KI k) (r : RC) : t110 k.t k.v k.si k.st k.sd k.es r.k r.t r.i r.v r.d = some ([.agg (kD (kvb k r).1), .one (.b (kvb k r).2)], []) := by
 have h0 := h.h0; have h1 := h.h1; have h2 := h.h2
 simp only [t110, ta110, ksh, gz14, gz6, ka]
 unfold kvb
 cases hr : kub r
 ·simp only [bnf, bnt, Bool.or_true, bto, ka, if_true, Bool.false_and, bft, if_false]
  rfl
 ·simp only [kei k h r hr, gz15, gz6, bnt, bnf, Bool.or_true, bto, Bool.false_or, bta, ka]
  cases hf : kcc k r
  ·simp only [bnf, if_true, bft, if_false]
   rfl
  ·simp only [bnt, bft, if_false, if_true]
   have hr' := hr
   simp only [kub, Bool.or_eq_true, Bool.and_eq_true, decide_eq_true_eq] at hr'
   have hk : r.k = 1 ∨ r.k = 2 ∨ r.k = 3 ∨ r.k = 4 := by omega
   rcases hk with hk | hk | hk | hk
   ·simp only [hk]; rfl
   ·have g1 : (r.k == 1) = false := by rw [hk]; rfl
    have g2 : (r.k == 2) = true := by rw [hk]; rfl
    simp only [g1, g2, bft, if_false, if_true, kfi _ _ _ h2, ka, if_neg (show ¬ r.k = 1 by omega), if_pos hk]
    rfl
   ·have g1 : (r.k == 1) = false := by rw [hk]; rfl
    have g2 : (r.k == 2) = false := by rw [hk]; rfl
    have g3 : (r.k == 3) = true := by rw [hk]; rfl
    have hf' : k.si < r.i ∧ r.i ≤ k.si + (k.es.length : Int) := by simpa [kcc, hk] using hf
    have e1 : w64 (w64 (r.i - k.si) - 1) = r.i - k.si - 1 := by rw [kb (r.i - k.si) (by omega), kb _ (by omega)]
    have e2 : decide (0 ≤ r.i - k.si - 1 ∧ r.i - k.si - 1 ≤ (k.es.length : Int)) = true := decide_eq_true (by omega)
    simp only [g1, g2, g3, bft, if_false, if_true, e1, e2, ka, if_neg (show ¬ r.k = 1 by omega), if_neg (show ¬ r.k = 2 by omega), if_pos hk]
    rfl
   ·have g1 : (r.k == 1) = false := by rw [hk]; rfl
    have g2 : (r.k == 2) = false := by rw [hk]; rfl
    have g3 : (r.k == 3) = false := by rw [hk]; rfl
    have hf' : k.si < r.i ∧ r.t ≤ k.t := by simpa [kcc, hk] using hf
    have eB : t139 k.t k.v k.si k.st k.sd k.es r.i r.t = some ([.one (.l (kkc k r.i r.t))], []) := by
     have e1 : w64 (r.i - k.si) = r.i - k.si := kb _ (by omega)
     have e2 : w64 (r.i - k.si - 1) = r.i - k.si - 1 := kb _ (by omega)
     have e3 : decide (r.i - k.si ≥ 1) = true := decide_eq_true (by omega)
     simp only [t139, e1, e2, e3, bta, kkc]
     by_cases hl : r.i - k.si ≤ (k.es.length : Int)
     ·have e4 : decide (r.i - k.si ≤ (k.es.length : Int)) = true := decide_eq_true hl
      have e5 : (decide (0 ≤ r.i - k.si - 1) && decide (r.i - k.si - 1 < (k.es.length : Int)) && isRow z116 (k.es.getD (r.i - k.si - 1).toNat [])) = true := by
       rw [decide_eq_true (by omega), decide_eq_true (by omega), kfb h.h3 _ kmc _ (by omega)]; rfl
      have e6 : decide (0 ≤ r.i - k.si ∧ r.i - k.si ≤ (k.es.length : Int) ∧ (k.es.getD 0 z116).length = z116.length) = true := by
       refine decide_eq_true ⟨by omega, hl, ?_⟩
       cases hes : k.es with
       | nil => rfl
       | cons x xs =>
        have := h.h3 x (by rw [hes]; simp)
        obtain ⟨a, b, rfl, _⟩ := khc this
        rfl
      have e7 : ((flatR 2 (k.es.drop (r.i - k.si).toNat)) && decide (([] : Rw).length + (k.es.drop (r.i - k.si).toNat).length ≤ lim)) = true := by
       rw [kzi h, decide_eq_true (by unfold lim; simp; omega)]; rfl
      simp only [e4, e5, e6, e7, bta, bto, ka, List.nil_append]
      by_cases ht : asI (nthD (k.es.getD (r.i - k.si - 1).toNat []) 0) = r.t
      ·rw [if_pos (by simpa using ht), if_pos ⟨hl, ht⟩]
      ·rw [if_neg (by simpa using ht), if_neg (fun x => ht x.2)]
     ·have e4 : decide (r.i - k.si ≤ (k.es.length : Int)) = false := decide_eq_false hl
      simp only [e4, bnf, Bool.or_true, ka, Bool.false_and, bft, if_false]
      rw [if_neg (fun x => hl x.1)]
    simp only [g1, g2, g3, bft, if_false, eB, gz16, gz17, ka, if_neg (show ¬ r.k = 1 by omega), if_neg (show ¬ r.k = 2 by omega), if_neg (show ¬ r.k = 3 by omega)]
    rfl
theorem gz18 : ∀ x, okR zr169 zo169 (some ([.one (.b x)], [])) = true := fun _ => id rfl
theorem gz19 : ∀ x, okR zr170 zo170 (some ([.one (.b x)], [])) = true := fun _ => id rfl
theorem kbi (k : KS) (h : KI k) (r : RC) : t150 k.t k.v k.si k.st k.sd k.es r.k r.t r.i r.v r.d = some ([.one (.b (kvb k r).2)], [kD (kvb k r).1]) := by
 have h0 := h.h0; have h1 := h.h1; have h2 := h.h2
 simp only [t150, ta150, kth, gz18, gz6, ka]
 unfold kvb
 cases hr : kub r
 ·simp only [bnf, bnt, Bool.or_true, bto, ka, if_true, Bool.false_and, bft, if_false]
  rfl
 ·simp only [kii k h r hr, gz19, gz6, bnt, bnf, Bool.or_true, bto, Bool.false_or, bta, ka]
  cases hf : kcc k r
  ·simp only [bnf, if_true, bft, if_false]
   rfl
  ·simp only [bnt, bft, if_false, if_true]
   have hr' := hr
   simp only [kub, Bool.or_eq_true, Bool.and_eq_true, decide_eq_true_eq] at hr'
   have hk : r.k = 1 ∨ r.k = 2 ∨ r.k = 3 ∨ r.k = 4 := by omega
   rcases hk with hk | hk | hk | hk
   ·simp only [hk]; rfl
   ·have g1 : (r.k == 1) = false := by rw [hk]; rfl
    have g2 : (r.k == 2) = true := by rw [hk]; rfl
    simp only [g1, g2, bft, if_false, if_true, kfi _ _ _ h2, ka, if_neg (show ¬ r.k = 1 by omega), if_pos hk]
    rfl
   ·have g1 : (r.k == 1) = false := by rw [hk]; rfl
    have g2 : (r.k == 2) = false := by rw [hk]; rfl
    have g3 : (r.k == 3) = true := by rw [hk]; rfl
    have hf' : k.si < r.i ∧ r.i ≤ k.si + (k.es.length : Int) := by simpa [kcc, hk] using hf
    have e1 : w64 (w64 (r.i - k.si) - 1) = r.i - k.si - 1 := by rw [kb (r.i - k.si) (by omega), kb _ (by omega)]
    have e2 : decide (0 ≤ r.i - k.si - 1 ∧ r.i - k.si - 1 ≤ (k.es.length : Int) ∧ True) = true := decide_eq_true ⟨by omega, by omega, trivial⟩
    simp only [g1, g2, g3, bft, if_false, if_true, e1, e2, ka, if_neg (show ¬ r.k = 1 by omega), if_neg (show ¬ r.k = 2 by omega), if_pos hk]
    rfl
   ·have g1 : (r.k == 1) = false := by rw [hk]; rfl
    have g2 : (r.k == 2) = false := by rw [hk]; rfl
    have g3 : (r.k == 3) = false := by rw [hk]; rfl
    have hf' : k.si < r.i ∧ r.t ≤ k.t := by simpa [kcc, hk] using hf
    have e1 : w64 (r.i - k.si) = r.i - k.si := kb _ (by omega)
    have e2 : w64 (r.i - k.si - 1) = r.i - k.si - 1 := kb _ (by omega)
    simp only [g1, g2, g3, bft, if_false, e1, e2, if_neg (show ¬ r.k = 1 by omega), if_neg (show ¬ r.k = 2 by omega), if_neg (show ¬ r.k = 3 by omega), kkc]
    by_cases hl : r.i - k.si ≤ (k.es.length : Int)
    ·have e4 : decide (r.i - k.si ≤ (k.es.length : Int)) = true := decide_eq_true hl
     have e5 : (decide (0 ≤ r.i - k.si - 1) && decide (r.i - k.si - 1 < (k.es.length : Int))) = true := by
      rw [decide_eq_true (by omega), decide_eq_true (by omega)]; rfl
     have e6 : (decide (1 ≤ (k.es.getD (r.i - k.si - 1).toNat []).length) && isF z3 0 (k.es.getD (r.i - k.si - 1).toNat [])) = true := by
      obtain ⟨a, b, he, _⟩ := khc (knb h.h3 (i := (r.i - k.si - 1).toNat) (by omega))
      rw [he]; rfl
     have e8 : decide (0 ≤ r.i - k.si ∧ r.i - k.si ≤ (k.es.length : Int)) = true := decide_eq_true (by omega)
     have e7 : ((flatR 2 (k.es.drop (r.i - k.si).toNat)) && decide ((k.es.drop (r.i - k.si).toNat).length ≤ lim)) = true := by
      rw [kzi h, decide_eq_true (by unfold lim; simp; omega)]; rfl
     simp only [e4, e5, e6, e7, e8, bta, bto, ka]
     by_cases ht : asI (nthD (k.es.getD (r.i - k.si - 1).toNat []) 0) = r.t
     ·rw [if_pos (by simpa using ht), if_pos ⟨hl, ht⟩]; rfl
     ·rw [if_neg (by simpa using ht), if_neg (fun x => ht x.2)]; rfl
    ·have e4 : decide (r.i - k.si ≤ (k.es.length : Int)) = false := decide_eq_false hl
     simp only [e4, bnf, Bool.or_true, ka, Bool.false_and, bft, if_false]
     rw [if_neg (fun x => hl x.1)]; rfl
theorem kqe {l : Rw} (h : ∀ r ∈ l, typL ki r) (hl : l.length ≤ 1048576) : ((flatR 2 l) && decide (([] : Rw).length + l.length ≤ lim)) = true ∧ ((flatR 2 l) && decide (l.length ≤ lim)) = true := by
 have e : decide (l.length ≤ lim) = true := decide_eq_true (by unfold lim; omega)
 have e2 : decide (([] : Rw).length + l.length ≤ lim) = true := decide_eq_true (by unfold lim; simp; omega)
 rw [kec h, e, e2]; exact ⟨rfl, rfl⟩
theorem kdi (t v si st : Int) (sd : BA) (l : Rw) (h : ∀ r ∈ l, typL ki r) (hl : l.length ≤ 1048576) : t109 t v si st sd l = some ([.agg [.i .i64 t, .i .i64 v, .i .i64 si, .i .i64 st, .s sd, .l l]], []) := by
 simp only [t109, (kqe h hl).1, ka, List.nil_append]
theorem khd (t v si st : Int) (sd : BA) (l : Rw) (h : ∀ r ∈ l, typL ki r) (hl : l.length ≤ 1048576) : t129 t v si st sd l = some ([.agg [.i .i64 t, .i .i64 v, .i .i64 si, .i .i64 st, .s sd, .l l]], []) := by
 simp only [t129, (kqe h hl).2, ka]
theorem klh (k : KS) (r : RC) (g : kub r = false) : kvb k r = (k, false) := by
 unfold kvb; rw [g]; rfl
theorem KI.step' {k : KS} (h : KI k) (r : RC) : KI (kvb k r).1 := by
 cases g : kub r
 ·rw [klh k r g]; exact h
 ·exact h.step r g
theorem kfh : ∀ r, typL kyb r → isRow z139 r = true := fun r h => by
 obtain ⟨a, b, c, d, e, rfl, _⟩ := kbh h; rfl
def rcOf (r : List D) : RC := ⟨asI (nthD r 0), asI (nthD r 1), asI (nthD r 2), asI (nthD r 3), asS (nthD r 4)⟩
def kdc (l : Rw) : Nat → Nat → KS → Option KS
 | 0, _, k => some k
 | c + 1, i, k => if (kvb k (rcOf (l.getD i []))).2 then kdc l c (i + 1) (kvb k (rcOf (l.getD i []))).1 else none
def kcd (k : KS) (l : Rw) : Option KS := if ktb k.t k.v k.si k.st k.sd k.es && decide (l.length ≤ 80) then kdc l l.length 0 k else none
theorem gz20 : ∀ t v si st sd l b, okR zr110 zo110 (some ([.agg [.i .i64 t, .i .i64 v, .i .i64 si, .i .i64 st, .s sd, .l l], .one (.b b)], [])) = true := fun _ _ _ _ _ _ _ => id rfl
theorem kgh (n1 n2 n3 n4 : Int) (s0 : BA) (l1 l2 : Rw) (n0 : Int) (b0 : Bool) (n5 n6 n7 n8 : Int) (s2 : BA) (l3 l0 : Rw) (n9 n58 n59 n60 : Int) (s3 : BA)
  (q1 : Int → Bool → Bool → Bool → Int → Int → Int → Int → BA → Int → Int → Int → Int → BA → Rw → Rs) (q2 : Int → SV → Bool → SV → Int → Int → Int → Int → BA → Rw → Rs) (X : Rs) (F : KS → Rs)
  (h1 : ∀ a b c d e f g h i j k l m n o, q1 a b c d e f g h i j k l m n o = X) (h2 : ∀ a b c d (k : KS), q2 a b c d k.t k.v k.si k.st k.sd k.es = F k)
  (h : ∀ r ∈ l0, typL kyb r) (hl : l0.length ≤ 1048576) (stop : Nat) (hs : stop ≤ l0.length) (hc : ∀ i : Nat, (decide ((i : Int) < n0) && decide ((i : Int) < (l0.length : Int))) = decide (i < stop)) : ∀ (c i m : Nat) (k : KS) (u v w : SV), KI k → i + c = stop → c < m →
  la82o0 t109 t110 n1 n2 n3 n4 s0 l1 l2 n0 b0 n5 n6 n7 n8 s2 l3 l0 n9 n58 n59 n60 s3 q1 q2 m i u v w k.t k.v k.si k.st k.sd k.es = (match kdc l0 c i k with | some K => F K | none => X) := by
 intro c
 induction c with
 | zero =>
  intro i m k u v w _ e hm
  obtain ⟨m, rfl⟩ : ∃ m', m = m' + 1 := ⟨m - 1, by omega⟩
  have ei : decide (i < stop) = false := by simp; omega
  simp only [la82o0, hc, ei, bft, if_false, h2, kdc]
 | succ c ih =>
  intro i m k u v w hk e hm
  obtain ⟨m, rfl⟩ : ∃ m', m = m' + 1 := ⟨m - 1, by omega⟩
  have ei : decide (i < stop) = true := by simp; omega
  have e1 := kob (i := i) (n := l0.length) (by omega)
  have ez := kfb h _ kfh i (by omega)
  have s1 := kyh k hk (rcOf (l0.getD i []))
  have hk2 := hk.step' (rcOf (l0.getD i []))
  have ih' := ih (i + 1) m (kvb k (rcOf (l0.getD i []))).1
  rcases hr : kvb k (rcOf (l0.getD i [])) with ⟨⟨t, vv, si, st, sd, es⟩, b⟩
  rw [hr] at s1 hk2 ih'
  simp only [rcOf] at s1
  simp only [la82o0, hc, ei, if_true]
  simp only [e1, kmb, itn, ez, bat, ka, kdc, hr]
  simp only [kD] at s1 hk2 ih'
  simp only [s1, gz20, ka]
  simp only [resC, nthR, cellsDV, nthD, asI, asS, asL, asB]
  cases b
  ·simp only [bnf, if_true, h1, bft, if_false]
  ·simp only [bnt, bft, if_false, if_true]
   rw [ke i (by omega)]
   exact ih' _ _ _ hk2 (by omega) (by omega)
def kyd (r : Option KS) : Rs := match r with
 | some K => some ([.agg (kD K), .one (.b true)], [])
 | none => some ([.agg [.i .i64 0, .i .i64 0, .i .i64 0, .i .i64 0, .s ⟨#[]⟩, .l []], .one (.b false)], [])
theorem gz21 : ∀ t v si st sd l, okR zr109 zo109 (some ([.agg [.i .i64 t, .i .i64 v, .i .i64 si, .i .i64 st, .s sd, .l l]], [])) = true := fun _ _ _ _ _ _ => id rfl
theorem khi (k : KS) (l : Rw) (n : Int) (hk : KI k) (h : ∀ r ∈ l, typL kyb r) (hl : l.length ≤ 1048576) (stop : Nat) (hs : stop ≤ l.length) (hn : (stop : Int) = if n ≤ 0 then 0 else if n ≤ (l.length : Int) then n else (l.length : Int)) :
  t82 k.t k.v k.si k.st k.sd k.es l n = kyd (kdc l stop 0 k) := by
 have hk2 := hk.h2
 simp only [t82, ta82, kdi k.t k.v k.si k.st k.sd k.es hk.h3 (by omega), gz21, ka, resC, nthR, cellsDV, nthD, asI, asS, asL]
 refine (kgh k.t k.v k.si k.st k.sd k.es l n false k.t k.v k.si k.st k.sd k.es l 0 0 0 0 ⟨#[]⟩ _ _ (kyd none) (fun K => kyd (some K)) (fun _ _ _ _ _ _ _ _ _ _ _ _ _ _ _ => rfl) (fun _ _ _ _ _ => rfl) h hl stop hs (fun i => ?_) stop 0 KK k .undef .undef .undef hk (by omega) (by rw [kk]; omega)).trans ?_
 ·rw [Bool.eq_iff_iff]; simp only [Bool.and_eq_true, decide_eq_true_eq]; split at hn
  ·omega
  ·split at hn <;> omega
 ·cases kdc l stop 0 k <;> rfl
theorem kij (r : Option KS) : okR zr82 zo82 (kyd r) = true := by cases r <;> rfl
theorem klj (r : Option KS) : asB (resC (kyd r) 1 0) = r.isSome := by cases r <;> rfl
theorem gz22 : ∀ x, okR zr81 zo81 (some ([.one (.b x)], [])) = true := fun _ => id rfl
theorem knf (k : KS) (l : Rw) (hek : ∀ r ∈ k.es, typL ki r) (hle : k.es.length ≤ 1048576) (h : ∀ r ∈ l, typL kyb r) (hl : l.length ≤ 1048576) :
  t47 k.t k.v k.si k.st k.sd k.es l = some ([.one (.b (kcd k l).isSome)], []) := by
 simp only [t47, ta47, kqc k.t k.v k.si k.st k.sd k.es hle hek, gz22, gz6, ka]
 unfold kcd
 cases hb : ktb k.t k.v k.si k.st k.sd k.es
 ·simp
 ·have hk : KI k := kyf hek hb
  by_cases h80 : l.length ≤ 80
  ·have e1 : decide ((l.length : Int) > 80) = false := by simp; omega
   simp only [e1, bnt, Bool.or_self, bft, if_false, khi k l (l.length : Int) hk h hl l.length (by omega) (by (repeat' split) <;> omega), kij, klj, ka, h80, decide_true, Bool.and_self, if_true]
  ·have e1 : decide ((l.length : Int) > 80) = true := by simp; omega
   simp only [e1, Bool.or_true, if_true, h80, decide_false, Bool.and_false, bft, if_false, Option.isSome_none]
theorem gz23 : ∀ t v si st sd l b, okR zr150 zo150 (some ([.one (.b b)], [[.i .i64 t, .i .i64 v, .i .i64 si, .i .i64 st, .s sd, .l l]])) = true := fun _ _ _ _ _ _ _ => id rfl
theorem koh (n0 n1 n2 n3 : Int) (s0 : BA) (l0 l1 : Rw) (b0 b1 : Bool) (n4 n5 n6 n7 : Int) (s2 : BA)
  (q1 : Int → Bool → Bool → BA → Int → Int → Int → Int → BA → Int → Int → Int → Int → BA → Rw → Rs) (q2 : Int → Bool → SV → Int → Int → Int → Int → BA → Rw → Rs) (X : Rs) (F : KS → Rs)
  (h1 : ∀ a b c e f g h i j k l m n o, q1 a b c ⟨#[]⟩ e f g h i j k l m n o = X) (h2 : ∀ a b c (k : KS), q2 a b c k.t k.v k.si k.st k.sd k.es = F k)
  (l : Rw) (h : ∀ r ∈ l, typL kyb r) (hl : l.length ≤ 1048576) : ∀ (c i m : Nat) (k : KS) (u v : SV), KI k → i + c = l.length → c < m →
  la121o1 t129 t130 t150 n0 n1 n2 n3 s0 l0 l1 b0 b1 l (l.length : Int) n4 n5 n6 n7 s2 q1 q2 m i u v k.t k.v k.si k.st k.sd k.es = (match kdc l c i k with | some K => F K | none => X) := by
 intro c
 induction c with
 | zero =>
  intro i m k u v _ e hm
  obtain ⟨m, rfl⟩ : ∃ m', m = m' + 1 := ⟨m - 1, by omega⟩
  have ei : decide ((i : Int) < (l.length : Int)) = false := by simp; omega
  simp only [la121o1, ei, bft, if_false, h2, kdc]
 | succ c ih =>
  intro i m k u v hk e hm
  obtain ⟨m, rfl⟩ : ∃ m', m = m' + 1 := ⟨m - 1, by omega⟩
  have e1 := kob (i := i) (n := l.length) (by omega)
  have ez := kfb h _ kfh i (by omega)
  have s1 := kbi k hk (rcOf (l.getD i []))
  have hk2 := hk.step' (rcOf (l.getD i []))
  have ih' := ih (i + 1) m (kvb k (rcOf (l.getD i []))).1
  rcases hr : kvb k (rcOf (l.getD i [])) with ⟨⟨t, vv, si, st, sd, es⟩, b⟩
  rw [hr] at s1 hk2 ih'
  simp only [rcOf] at s1
  simp only [la121o1, e1, kmb, itn, ez, bat, ka, if_true, kdc, hr]
  simp only [kD] at s1 hk2 ih'
  simp only [s1, gz23, ka]
  simp only [resC, outC, nthR, nthO, cellsDV, nthD, asI, asS, asL, asB]
  cases b
  ·simp only [bnf, if_true, h1, bft, if_false]
  ·simp only [bnt, bft, if_false, if_true]
   rw [ke i (by omega)]
   exact ih' _ _ hk2 (by omega) (by omega)
def kwc (r : Option KS) : Rs := match r with
 | some K => some ([.agg (kD K), .one (.b true)], [])
 | none => some ([.agg [.i .i64 0, .i .i64 0, .i .i64 0, .i .i64 0, .s ⟨#[]⟩, .l []], .one (.b false)], [])
theorem gz24 : ∀ x, okR zr130 zo130 (some ([.one (.b x)], [])) = true := fun _ => id rfl
theorem gz25 : ∀ t v si st sd l, okR zr129 zo129 (some ([.agg [.i .i64 t, .i .i64 v, .i .i64 si, .i .i64 st, .s sd, .l l]], [])) = true := fun _ _ _ _ _ _ => id rfl
theorem kgi (k : KS) (l : Rw) (hek : ∀ r ∈ k.es, typL ki r) (hle : k.es.length ≤ 1048576) (h : ∀ r ∈ l, typL kyb r) (hl : l.length ≤ 1048576) :
  t121 k.t k.v k.si k.st k.sd k.es l = kwc (kcd k l) := by
 simp only [t121, ta121, kuc k.t k.v k.si k.st k.sd k.es hle hek, gz24, gz6, ka]
 unfold kcd
 cases hb : ktb k.t k.v k.si k.st k.sd k.es
 ·simp only [bnf, bto, if_true, Bool.false_and, bft, if_false, kwc]
 ·have hk : KI k := kyf hek hb
  by_cases h80 : l.length ≤ 80
  ·have e1 : decide ((l.length : Int) > 80) = false := by simp; omega
   simp only [e1, bnt, Bool.or_self, bft, if_false, h80, decide_true, Bool.and_self, if_true, khd k.t k.v k.si k.st k.sd k.es hek hle, gz25, ka, resC, nthR, cellsDV, nthD, asI, asS, asL]
   refine (koh k.t k.v k.si k.st k.sd k.es l false false 0 0 0 0 ⟨#[]⟩ _ _ (kwc none) (fun K => kwc (some K)) (fun _ _ _ _ _ _ _ _ _ _ _ _ _ _ => rfl) (fun _ _ _ _ => rfl) l h hl l.length 0 KK k .undef .undef hk (by omega) (by rw [kk]; omega)).trans ?_
   cases kdc l l.length 0 k <;> rfl
  ·have e1 : decide ((l.length : Int) > 80) = true := by simp; omega
   simp only [e1, Bool.or_true, if_true, h80, decide_false, Bool.and_false, bft, if_false, kwc]
theorem kkj (r : Option KS) : okR zr121 zo121 (kwc r) = true := by cases r <;> rfl
theorem kjj (r : Option KS) : asB (resC (kwc r) 1 0) = r.isSome := by cases r <;> rfl
theorem kag (k : KS) (l : Rw) (hek : ∀ r ∈ k.es, typL ki r) (hle : k.es.length ≤ 1048576) (h : ∀ r ∈ l, typL kyb r) (hl : l.length ≤ 1048576) :
  t92 k.t k.v k.si k.st k.sd k.es l = some ([.one (.b (kcd k l).isSome)], []) := by
 simp only [t92, ta92, kgi k l hek hle h hl, kkj, kjj, ka]
theorem kfg (x1 x2 x3 x4 : Int) (x5 : BA) (x6 x7 : Rw) (w5 : x5.size ≤ 1048576) (w6 : x6.length ≤ 1048576) (t6 : ∀ r ∈ x6, typL ki r) (s6 : ∀ r ∈ x6, szdL ki r) (w7 : x7.length ≤ 1048576) (t7 : ∀ r ∈ x7, typL kyb r) (s7 : ∀ r ∈ x7, szdL kyb r) :
  ∃ b, t47 x1 x2 x3 x4 x5 x6 x7 = some ([.one (.b b)], []) ∧ t92 x1 x2 x3 x4 x5 x6 x7 = some ([.one (.b b)], []) ∧ True :=
 ⟨_, knf ⟨x1, x2, x3, x4, x5, x6⟩ x7 t6 w6 t7 w7, kag ⟨x1, x2, x3, x4, x5, x6⟩ x7 t6 w6 t7 w7, trivial⟩
abbrev xI (l : Rw) (i : Nat) : Int := asI (nthD (l.getD i []) 0)
def kjb (l : Rw) (N : Int) (i : Nat) : Bool := decide (0 ≤ xI l i ∧ xI l i ≤ w64 (N - 1)) && (decide (i = 0) || decide (xI l (i - 1) < xI l i))
def kgc (nx mt : Rw) (La : Int) (i : Nat) : Bool := decide (0 ≤ xI mt i ∧ xI mt i < xI nx i ∧ xI nx i ≤ w64 (La + 1))
def noF (l : Rw) (x : Int) (i : Nat) : Bool := !(xI l i == x)
theorem kdd (n1 n2 n3 n4 n5 n6 n7 n8 : Int) (l9 : Rw) (n0 : Int) (l0 l1 l2 : Rw) : t83 n1 n2 n3 n4 n5 n6 n7 n8 l9 n0 l0 l1 l2 = some ([.one (.i .i64 (w64 (n7 + (l9.length : Int))))], []) := rfl
theorem kpc (n1 n2 n3 n4 n5 n6 n7 n8 : Int) (l9 : Rw) (n0 : Int) (l0 l1 l2 : Rw) : t151 n1 n2 n3 n4 n5 n6 n7 n8 l9 n0 l0 l1 l2 = some ([.one (.i .i64 (w64 (n7 + (l9.length : Int))))], []) := rfl
theorem keh (i : Nat) (h : 0 < i) (hi : i < 4611686018427387904) : w64 ((i : Int) - 1) = ((i - 1 : Nat) : Int) := by
 rw [kb _ (by omega)]; omega
theorem kjh (n0 n1 n2 n3 n4 n5 n6 n7 : Int) (l0 : Rw) (n8 : Int) (l1 l2 l3 : Rw) (b0 b1 : Bool) (n9 : Int) (b2 b3 : Bool) (n68 N n70 n71 n72 n73 n74 n75 : Int) (l4 : Rw) (n77 : Int) (l5 l6 l7 : Rw) (q1 : Int → Bool → Bool → Rs) (q2 : Int → Bool → SV → Rs) (g : Bool) (h1 : ∀ a b c, q1 a b c = some ([.one (.b false)], [])) (h2 : ∀ a b c, q2 a b c = some ([.one (.b g)], [])) (l : Rw) (h : ∀ r ∈ l, typL kq r) (hl : l.length < 4611686018427387904) : ∀ (k i m : Nat) (v w : SV), i + k = l.length → k < m →
  la49o3 t34 t54 t81 t83 t84 n0 n1 n2 n3 n4 n5 n6 n7 l0 n8 l1 l2 l3 b0 b1 n9 b2 b3 n68 N n70 n71 n72 n73 n74 n75 l4 n77 l l5 l6 l7 q1 q2 m i v w = some ([.one (.b (allB (kjb l N) k i && g))], []) := by
 intro k
 induction k with
 | zero =>
  intro i m v w e hm
  obtain ⟨m, rfl⟩ : ∃ m', m = m' + 1 := ⟨m - 1, by omega⟩
  have ei : decide ((i : Int) < (l.length : Int)) = false := by simp; omega
  simp only [la49o3, ei, h2, allB, bta]
  simp
 | succ k ih =>
  intro i m v w e hm
  obtain ⟨m, rfl⟩ : ∃ m', m = m' + 1 := ⟨m - 1, by omega⟩
  have e1 := kob (i := i) (n := l.length) (by omega)
  have ez := kfb h _ krb i (by omega)
  have hw := ke i (by omega)
  by_cases hi : i = 0
  ·subst hi
   have a1 : decide (((0 : Nat) : Int) > 0) = false := rfl
   simp only [la49o3, e1, kmb, itn, ez, koc, gz7, gz6, a1, Bool.and_false, Bool.false_and, bnf, Bool.or_true, Bool.or_false, bat, ka, if_true, hw]
   have hs : kjb l N 0 = (decide (0 ≤ xI l 0) && decide (xI l 0 ≤ w64 (N - 1))) := by unfold kjb; simp
   rw [kfc _ (kjb l N 0) (by rw [hs])]
   simp only [allB]
   cases hb : kjb l N 0
   ·simp [h1]
   ·simp only [if_true, bta]
    exact ih 1 m _ _ (by omega) (by omega)
  ·have a1 : decide ((i : Int) > 0) = true := by simp; omega
   have a2 := keh i (by omega) (by omega)
   have e1' := kob (i := i - 1) (n := l.length) (by omega)
   have ez' := kfb h _ krb (i - 1) (by omega)
   simp only [la49o3, e1, kmb, itn, ez, koc, gz7, gz6, a1, a2, e1', ez', bto, bat, bta, ka, if_true, hw]
   rw [kfc _ (kjb l N i) (by
    unfold kjb xI
    rw [Bool.eq_iff_iff]; simp [hi] <;> try omega)]
   simp only [allB]
   cases hb : kjb l N i
   ·simp [h1]
   ·simp only [if_true, bta]
    exact ih (i + 1) m _ _ (by omega) (by omega)
theorem knh (n0 N n1 n2 n3 n4 n5 n6 : Int) (l0 : Rw) (n7 : Int) (l1 l2 : Rw) (b0 : Bool) (q1 : Int → Int → Bool → Bool → Rs) (q2 : SV → SV → Int → Bool → SV → Rs) (g : Bool) (h1 : ∀ a b c d, q1 a b c d = some ([.one (.b false)], [])) (h2 : ∀ a b c d e, q2 a b c d e = some ([.one (.b g)], [])) (l : Rw) (h : ∀ r ∈ l, typL kq r) (hl : l.length < 4611686018427387904) : ∀ (k i m : Nat) (u1 u2 v w : SV), i + k = l.length → k < m →
  la152o0 t18 t171 t172 n0 N n1 n2 n3 n4 n5 n6 l0 n7 l l1 l2 b0 l (l.length : Int) q1 q2 m u1 u2 i v w = some ([.one (.b (allB (kjb l N) k i && g))], []) := by
 intro k
 induction k with
 | zero =>
  intro i m u1 u2 v w e hm
  obtain ⟨m, rfl⟩ : ∃ m', m = m' + 1 := ⟨m - 1, by omega⟩
  have ei : decide ((i : Int) < (l.length : Int)) = false := by simp; omega
  simp only [la152o0, ei, h2, allB, bta]
  simp
 | succ k ih =>
  intro i m u1 u2 v w e hm
  obtain ⟨m, rfl⟩ : ∃ m', m = m' + 1 := ⟨m - 1, by omega⟩
  have e1 := kob (i := i) (n := l.length) (by omega)
  have ez := kfb h _ krb i (by omega)
  have hw := ke i (by omega)
  by_cases hi : i = 0
  ·subst hi
   have a1 : decide (((0 : Nat) : Int) > 0) = false := rfl
   simp only [la152o0, e1, kmb, itn, ez, klb, gz5, gz6, a1, Bool.and_false, Bool.false_and, bnf, Bool.or_true, Bool.or_false, bat, ka, if_true, hw]
   have hs : kjb l N 0 = (decide (0 ≤ xI l 0) && decide (xI l 0 ≤ w64 (N - 1))) := by unfold kjb; simp
   rw [kfc _ (kjb l N 0) (by rw [hs])]
   simp only [allB]
   cases hb : kjb l N 0
   ·simp [h1]
   ·simp only [if_true, bta]
    exact ih 1 m _ _ _ _ (by omega) (by omega)
  ·have a1 : decide ((i : Int) > 0) = true := by simp; omega
   have a2 := keh i (by omega) (by omega)
   have e1' := kob (i := i - 1) (n := l.length) (by omega)
   have ez' := kfb h _ krb (i - 1) (by omega)
   simp only [la152o0, e1, kmb, itn, ez, klb, gz5, gz6, a1, a2, e1', ez', bto, bat, bta, ka, if_true, hw]
   rw [kfc _ (kjb l N i) (by
    unfold kjb xI
    rw [Bool.eq_iff_iff]; simp [hi] <;> try omega)]
   simp only [allB]
   cases hb : kjb l N i
   ·simp [h1]
   ·simp only [if_true, bta]
    exact ih (i + 1) m _ _ _ _ (by omega) (by omega)
theorem gz26 : ∀ x, okR zr83 zo83 (some ([.one (.i .i64 x)], [])) = true := fun _ => id rfl
theorem kmh (n1 n2 n3 n4 n5 n6 n7 n8 : Int) (l1 : Rw) (n9 : Int) (l2 l3 l4 : Rw) (b0 b1 : Bool) (n10 : Int) (b2 b3 b4 b5 : Bool) (n11 n12 n13 n14 n15 n0 n16 : Int) (l0 : Rw) (n17 : Int) (l5 l6 : Rw) (q1 : Int → Bool → Bool → Rs) (q2 : Int → Bool → SV → Rs) (g : Bool) (h1 : ∀ a b c, q1 a b c = some ([.one (.b false)], [])) (h2 : ∀ a b c, q2 a b c = some ([.one (.b g)], [])) (nx l : Rw) (hx : ∀ r ∈ nx, typL kq r) (h : ∀ r ∈ l, typL kq r) (hn : nx.length = l.length) (hl : l.length < 4611686018427387904) : ∀ (k i m : Nat) (v w : SV), i + k = l.length → k < m →
  la49o8 t34 t54 t81 t83 t84 n1 n2 n3 n4 n5 n6 n7 n8 l1 n9 l2 l3 l4 b0 b1 n10 b2 b3 b4 b5 n11 (l.length : Int) n12 n13 n14 n15 n0 n16 l0 n17 l5 nx l l6 q1 q2 m i v w = some ([.one (.b (allB (kgc nx l (w64 (n0 + (l0.length : Int)))) k i && g))], []) := by
 intro k
 induction k with
 | zero =>
  intro i m v w e hm
  obtain ⟨m, rfl⟩ : ∃ m', m = m' + 1 := ⟨m - 1, by omega⟩
  have ei : decide ((i : Int) < (l.length : Int)) = false := by simp; omega
  simp only [la49o8, ei, h2, allB, bta]
  simp
 | succ k ih =>
  intro i m v w e hm
  obtain ⟨m, rfl⟩ : ∃ m', m = m' + 1 := ⟨m - 1, by omega⟩
  have e1 := kob (i := i) (n := l.length) (by omega)
  have ez := kfb h _ krb i (by omega)
  have e1' := kob (i := i) (n := nx.length) (by omega)
  have ez' := kfb hx _ krb i (by omega)
  have hw := ke i (by omega)
  simp only [la49o8, e1, e1', kmb, itn, ez, ez', kdd, gz26, gz10, bto, bat, ka, if_true, hw]
  rw [kfc _ (kgc nx l (w64 (n0 + (l0.length : Int))) i) (by
   unfold kgc xI
   rw [Bool.eq_iff_iff]; simp; omega)]
  simp only [allB]
  cases hb : kgc nx l (w64 (n0 + (l0.length : Int))) i
  ·simp [h1]
  ·simp only [if_true, bta]
   exact ih (i + 1) m _ _ (by omega) (by omega)
theorem gz27 : ∀ x, okR zr151 zo151 (some ([.one (.i .i64 x)], [])) = true := fun _ => id rfl
theorem khh (n1 n2 n3 n4 n5 n6 n0 n7 : Int) (l0 : Rw) (n8 : Int) (l1 l2 : Rw) (b0 b1 : Bool) (q1 : Int → Int → Bool → Bool → Rs) (q2 : SV → SV → Int → Bool → SV → Rs) (g : Bool) (h1 : ∀ a b c d, q1 a b c d = some ([.one (.b false)], [])) (h2 : ∀ a b c d e, q2 a b c d e = some ([.one (.b g)], [])) (nx l : Rw) (hx : ∀ r ∈ nx, typL kq r) (h : ∀ r ∈ l, typL kq r) (hn : nx.length = l.length) (hl : l.length < 4611686018427387904) : ∀ (k i m : Nat) (u1 u2 v w : SV), i + k = l.length → k < m →
  la153o1 t151 n1 n2 n3 n4 n5 n6 n0 n7 l0 n8 l1 nx l2 b0 b1 l (l.length : Int) q1 q2 m u1 u2 i v w = some ([.one (.b (allB (kgc nx l (w64 (n0 + (l0.length : Int)))) k i && g))], []) := by
 intro k
 induction k with
 | zero =>
  intro i m u1 u2 v w e hm
  obtain ⟨m, rfl⟩ : ∃ m', m = m' + 1 := ⟨m - 1, by omega⟩
  have ei : decide ((i : Int) < (l.length : Int)) = false := by simp; omega
  simp only [la153o1, ei, h2, allB, bta]
  simp
 | succ k ih =>
  intro i m u1 u2 v w e hm
  obtain ⟨m, rfl⟩ : ∃ m', m = m' + 1 := ⟨m - 1, by omega⟩
  have e1 := kob (i := i) (n := l.length) (by omega)
  have ez := kfb h _ krb i (by omega)
  have e1' := kob (i := i) (n := nx.length) (by omega)
  have ez' := kfb hx _ krb i (by omega)
  have hw := ke i (by omega)
  simp only [la153o1, e1, e1', kmb, itn, ez, ez', kpc, gz27, gz10, bto, bat, ka, if_true, hw]
  rw [kfc _ (kgc nx l (w64 (n0 + (l0.length : Int))) i) (by
   unfold kgc xI
   rw [Bool.eq_iff_iff]; simp; omega)]
  simp only [allB]
  cases hb : kgc nx l (w64 (n0 + (l0.length : Int))) i
  ·simp [h1]
  ·simp only [if_true, bta]
   exact ih (i + 1) m _ _ _ _ (by omega) (by omega)
theorem kgj (x : Int) (b : Bool) (q1 : Int → Bool → Bool → Rs) (q2 : Int → Bool → SV → Rs) (h1 : ∀ a b c, q1 a b c = some ([.one (.b true)], [])) (h2 : ∀ a b c, q2 a b c = some ([.one (.b false)], [])) (l : Rw) (h : ∀ r ∈ l, typL kq r) (hl : l.length < 4611686018427387904) : ∀ (k i m : Nat) (v w : SV), i + k = l.length → k < m →
  l84o0 l x b q1 q2 m i v w = some ([.one (.b (!(allB (noF l x) k i)))], []) := by
 intro k
 induction k with
 | zero =>
  intro i m v w e hm
  obtain ⟨m, rfl⟩ : ∃ m', m = m' + 1 := ⟨m - 1, by omega⟩
  have ei : decide ((i : Int) < (l.length : Int)) = false := by simp; omega
  simp only [l84o0, ei, h2, allB]
  simp
 | succ k ih =>
  intro i m v w e hm
  obtain ⟨m, rfl⟩ : ∃ m', m = m' + 1 := ⟨m - 1, by omega⟩
  have e1 := kob (i := i) (n := l.length) (by omega)
  have ez := kfb h _ krb i (by omega)
  have hw := ke i (by omega)
  simp only [l84o0, e1, kmb, itn, ez, bat, ka, if_true, hw, allB]
  cases hb : noF l x i
  ·have : (asI (nthD (l.getD i []) 0) == x) = true := by unfold noF at hb; simpa only [Bool.not_eq_false'] using hb
   simp only [this, if_true, h1, Bool.false_and, bnf]
  ·have : (asI (nthD (l.getD i []) 0) == x) = false := by unfold noF at hb; simpa only [Bool.not_eq_true'] using hb
   simp only [this, bft, if_false, bta]
   exact ih (i + 1) m _ _ (by omega) (by omega)
theorem khj (l : Rw) (hl : l.length ≤ 1048576) (h : ∀ r ∈ l, typL kq r) (x : Int) : t84 l x = some ([.one (.b (!(allB (noF l x) l.length 0)))], []) :=
 kgj x false (fun _ _ _ => some ([.one (.b true)], [])) (fun _ _ _ => some ([.one (.b false)], [])) (fun _ _ _ => rfl) (fun _ _ _ => rfl) l h (by omega) l.length 0 KK .undef .undef (by omega) (by rw [kk]; omega)
theorem kcj (x n0 : Int) (q1 : Int → Bool → Bool → Rs) (q2 : SV → Int → Bool → SV → Rs) (h1 : ∀ a b c, q1 a b c = some ([.one (.i .i64 a)], [])) (h2 : ∀ a b c d, q2 a b c d = some ([.one (.i .i64 (-1))], [])) (l : Rw) (h : ∀ r ∈ l, typL kq r) (hl : l.length < 4611686018427387904) : ∀ (k i m : Nat) (u v w : SV), i + k = l.length → k < m →
  ∃ y : Int, l184o0 l x n0 (l.length : Int) q1 q2 m u i v w = some ([.one (.i .i64 y)], []) ∧ decide (y ≥ 0) = !(allB (noF l x) k i) := by
 intro k
 induction k with
 | zero =>
  intro i m u v w e hm
  obtain ⟨m, rfl⟩ : ∃ m', m = m' + 1 := ⟨m - 1, by omega⟩
  have ei : decide ((i : Int) < (l.length : Int)) = false := by simp; omega
  exact ⟨-1, by simp only [l184o0, ei, h2, bft, if_false], rfl⟩
 | succ k ih =>
  intro i m u v w e hm
  obtain ⟨m, rfl⟩ : ∃ m', m = m' + 1 := ⟨m - 1, by omega⟩
  have e1 := kob (i := i) (n := l.length) (by omega)
  have ez := kfb h _ krb i (by omega)
  have hw := ke i (by omega)
  simp only [l184o0, e1, kmb, itn, ez, bat, ka, if_true, hw, allB]
  cases hb : noF l x i
  ·have : (x == asI (nthD (l.getD i []) 0)) = true := by
    unfold noF at hb
    have h' : asI (nthD (l.getD i []) 0) = x := by simpa only [Bool.not_eq_false', beq_iff_eq] using hb
    rw [h']; exact beq_self_eq_true x
   exact ⟨i, by simp only [this, if_true, h1], by simp only [Bool.false_and, bnf]; exact decide_eq_true (by omega)⟩
  ·have : (x == asI (nthD (l.getD i []) 0)) = false := by
    unfold noF at hb
    have h' : ¬ asI (nthD (l.getD i []) 0) = x := by simpa only [Bool.not_eq_true', beq_eq_false_iff_ne, ne_eq] using hb
    rw [beq_eq_false_iff_ne]; exact fun e => h' e.symm
   simp only [this, bft, if_false, bta]
   exact ih (i + 1) m _ _ _ (by omega) (by omega)
theorem kdj (l : Rw) (hl : l.length ≤ 1048576) (h : ∀ r ∈ l, typL kq r) (x : Int) : t171 l x = some ([.one (.b (!(allB (noF l x) l.length 0)))], []) := by
 obtain ⟨y, hy, hd⟩ := kcj x 0 (fun a _ _ => some ([.one (.i .i64 a)], [])) (fun _ _ _ _ => some ([.one (.i .i64 (-1))], [])) (fun _ _ _ => rfl) (fun _ _ _ _ => rfl) l h (by omega) l.length 0 KK .undef .undef .undef (by omega) (by rw [kk]; omega)
 have hy' : t184 l x = some ([.one (.i .i64 y)], []) := hy
 have ew : okR zr184 zo184 (some ([.one (.i .i64 y)], [])) = true := rfl
 have eb : asI (resC (some ([.one (.i .i64 y)], [])) 0 0) = y := rfl
 simp only [t171, ta171, hy', ew, eb, ka, hd]
def ktd (n1 n2 n3 n4 n5 n6 n7 : Int) (l9 l11 l12 l13 : Rw) : Bool :=
 if n5 = 1 then decide (-1 ≤ n6 ∧ n6 ≤ n2 - 1 ∧ n6 ≠ n1 ∧ l11.length = 0 ∧ l12.length = 0 ∧ l13.length = 0)
 else if n5 = 2 then allB (kjb l11 n2) l11.length 0 && (decide (n3 ≥ 1 ∧ n4 = n1 ∧ n6 = -1 ∧ 2 * (l11.length : Int) ≤ n2 ∧ l12.length = 0 ∧ l13.length = 0) && !(allB (noF l11 n1) l11.length 0))
 else if n5 = 3 then decide (n3 ≥ 1 ∧ n4 = n1 ∧ n6 = n1 ∧ l11.length = 0 ∧ (l12.length : Int) = n2 ∧ (l13.length : Int) = n2) && (decide (xI l13 n1.toNat = w64 (n7 + (l9.length : Int))) && allB (kgc l12 l13 (w64 (n7 + (l9.length : Int)))) l13.length 0)
 else false
def ked (n1 n2 n3 n4 n5 n6 n7 n8 : Int) (l9 : Rw) (n10 : Int) (l11 l12 l13 : Rw) : Bool :=
 decide (1 ≤ n2 ∧ n2 ≤ 5 ∧ 0 ≤ n1 ∧ n1 ≤ n2 - 1 ∧ ¬ (n7 = 0 ∧ n8 ≠ 0)) && (ktb n3 n4 n7 n8 ⟨#[]⟩ l9 && (decide (n4 < n2 ∧ n7 ≤ n10 ∧ n10 ≤ w64 (n7 + (l9.length : Int))) && ktd n1 n2 n3 n4 n5 n6 n7 l9 l11 l12 l13))
theorem kwe (n1 n2 n3 n4 n5 n6 n7 n8 : Int) (l9 : Rw) (n0 : Int) (l0 l1 l2 : Rw) (h7 : ¬ (n7 = 0 ∧ n8 ≠ 0)) (hl : l9.length ≤ 1048576) (h : ∀ r ∈ l9, typL ki r) : t54 n1 n2 n3 n4 n5 n6 n7 n8 l9 n0 l0 l1 l2 ⟨#[]⟩ = some ([.agg [.i .i64 n3, .i .i64 n4, .i .i64 n7, .i .i64 n8, .s ⟨#[]⟩, .l l9]], []) := by
 unfold t54
 rw [kxd (by rw [kec h]; simp only [bta]; exact decide_eq_true (by simp only [List.length_nil]; unfold lim; omega))]
 by_cases g : n7 = 0
 ·have : n8 = 0 := by omega
  subst g; subst this; rfl
 ·have : (n7 != 0) = true := by simpa using g
  simp only [this, if_true, List.nil_append]
theorem kte (n1 n2 n3 n4 n5 n6 n7 n8 : Int) (l9 : Rw) (n0 : Int) (l0 l1 l2 : Rw) (h7 : ¬ (n7 = 0 ∧ n8 ≠ 0)) (hl : l9.length ≤ 1048576) (h : ∀ r ∈ l9, typL ki r) : t125 n1 n2 n3 n4 n5 n6 n7 n8 l9 n0 l0 l1 l2 ⟨#[]⟩ = some ([.agg [.i .i64 n3, .i .i64 n4, .i .i64 n7, .i .i64 n8, .s ⟨#[]⟩, .l l9]], []) := by
 unfold t125
 rw [kxd (by rw [kec h]; simp only [bta]; exact decide_eq_true (by unfold lim; omega))]
 by_cases g : n7 = 0
 ·have : n8 = 0 := by omega
  subst g; subst this; rfl
 ·have : (n7 != 0) = true := by simpa using g
  simp only [this, if_true]
theorem gz28 : ∀ x, okR zr84 zo84 (some ([.one (.b x)], [])) = true := fun _ => id rfl
theorem kai (n1 n2 n3 n4 n5 n6 n7 n8 : Int) (l9 : Rw) (n0 : Int) (l0 l2 l1 : Rw) (hl : l9.length ≤ 1048576) (h : ∀ r ∈ l9, typL ki r) (hl1 : l0.length ≤ 1048576) (h1 : ∀ r ∈ l0, typL kq r) (hl2 : l2.length ≤ 1048576) (h2 : ∀ r ∈ l2, typL kq r) (hl3 : l1.length ≤ 1048576) (h3 : ∀ r ∈ l1, typL kq r) :
  t49 n1 n2 n3 n4 n5 n6 n7 n8 l9 n0 l0 l2 l1 = some ([.one (.b (ked n1 n2 n3 n4 n5 n6 n7 n8 l9 n0 l0 l2 l1))], []) := by
 have ew4 : okR zr54 zo54 (some ([.agg [.i .i64 n3, .i .i64 n4, .i .i64 n7, .i .i64 n8, .s ⟨#[]⟩, .l l9]], [])) = true := rfl
 have r0 : asI (resC (some ([.agg [.i .i64 n3, .i .i64 n4, .i .i64 n7, .i .i64 n8, .s ⟨#[]⟩, .l l9]], [])) 0 0) = n3 := rfl
 have r1 : asI (resC (some ([.agg [.i .i64 n3, .i .i64 n4, .i .i64 n7, .i .i64 n8, .s ⟨#[]⟩, .l l9]], [])) 0 1) = n4 := rfl
 have r2 : asI (resC (some ([.agg [.i .i64 n3, .i .i64 n4, .i .i64 n7, .i .i64 n8, .s ⟨#[]⟩, .l l9]], [])) 0 2) = n7 := rfl
 have r3 : asI (resC (some ([.agg [.i .i64 n3, .i .i64 n4, .i .i64 n7, .i .i64 n8, .s ⟨#[]⟩, .l l9]], [])) 0 3) = n8 := rfl
 have r4 : asS (resC (some ([.agg [.i .i64 n3, .i .i64 n4, .i .i64 n7, .i .i64 n8, .s ⟨#[]⟩, .l l9]], [])) 0 4) = ⟨#[]⟩ := rfl
 have r5 : asL (resC (some ([.agg [.i .i64 n3, .i .i64 n4, .i .i64 n7, .i .i64 n8, .s ⟨#[]⟩, .l l9]], [])) 0 5) = l9 := rfl
 have ey : ((!(decide (1 ≤ n2) && decide (n2 ≤ 5)) || !(decide (0 ≤ n1) && decide (n1 ≤ w64 (n2 - 1)))) || ((n7 == 0) && (n8 != 0))) = !decide (1 ≤ n2 ∧ n2 ≤ 5 ∧ 0 ≤ n1 ∧ n1 ≤ n2 - 1 ∧ ¬ (n7 = 0 ∧ n8 ≠ 0)) := by
  by_cases hn : 1 ≤ n2 ∧ n2 ≤ 5
  ·rw [kb (n2 - 1) (by omega), Bool.eq_iff_iff]; simp; omega
  ·rw [Bool.eq_iff_iff]; simp; omega
 unfold ked
 by_cases hP : 1 ≤ n2 ∧ n2 ≤ 5 ∧ 0 ≤ n1 ∧ n1 ≤ n2 - 1 ∧ ¬ (n7 = 0 ∧ n8 ≠ 0)
 ·rw [decide_eq_true hP] at ey ⊢
  have hk := kwe n1 n2 n3 n4 n5 n6 n7 n8 l9 n0 l0 l2 l1 hP.2.2.2.2 hl h
  simp only [t49, ta49, koc, gz7, gz26, gz22, gz28, gz6, gz10, ey, bto, ka, hk, ew4, r0, r1, r2, r3, r4, r5, kqc _ _ _ _ _ l9 hl h, kdd, khj l0 hl1 h1, bnt, bnf, if_true, Bool.false_or, bta]
  generalize ktb n3 n4 n7 n8 ⟨#[]⟩ l9 = K
  cases K
  ·simp only [bnf, bto, if_true, Bool.false_and]
  simp only [bnt, Bool.false_or, bta]
  have eq : (decide (n4 ≥ n2) || !(decide (n7 ≤ n0) && decide (n0 ≤ w64 (n7 + (l9.length : Int))))) = !decide (n4 < n2 ∧ n7 ≤ n0 ∧ n0 ≤ w64 (n7 + (l9.length : Int))) := by
   rw [Bool.eq_iff_iff]; simp <;> try omega
  by_cases hQ : n4 < n2 ∧ n7 ≤ n0 ∧ n0 ≤ w64 (n7 + (l9.length : Int))
  rotate_left
  ·rw [decide_eq_false hQ] at eq ⊢
   simp only [eq, bnf, if_true, Bool.false_and]
  rw [decide_eq_true hQ] at eq ⊢
  simp only [eq, bnt, bft, if_false, bta]
  unfold ktd
  by_cases k1 : n5 = 1
  ·subst k1
   simp only [show ((1 : Int) == 1) = true from rfl, if_true]
   apply kib
   rw [kb (n2 - 1) (by omega), Bool.eq_iff_iff]
   simp [-List.length_eq_zero_iff]; omega
  have j1 : (n5 == 1) = false := by simpa using k1
  by_cases k2 : n5 = 2
  ·subst k2
   simp only [j1, k1, show ((2 : Int) == 2) = true from rfl, bft, if_false, if_true]
   refine Eq.trans (kjh _ _ _ _ _ _ _ _ _ _ _ _ _ _ _ _ _ _ _ n2 _ _ _ _ _ _ _ _ _ _ _ (fun n9 b0 b1 => some ([.one (.b false)], [])) (fun n11 b2 v0 => some ([.one (.b (decide (n3 ≥ 1) && n4 == n1 && n6 == -1 && !allB (noF l0 n1) l0.length 0 && decide (w64 (2 * (l0.length : Int)) ≤ n2) && (l2.length : Int) == 0 && (l1.length : Int) == 0))], [])) _ (fun _ _ _ => rfl) (fun _ _ _ => rfl) l0 h1 (by omega) l0.length 0 KK .undef .undef (by omega) (by rw [kk]; omega)) ?_
   apply kib
   generalize allB (kjb l0 n2) l0.length 0 = r1
   generalize allB (noF l0 n1) l0.length 0 = r2
   rw [kb (2 * (l0.length : Int)) (by omega)]
   cases r1 <;> cases r2 <;> (rw [Bool.eq_iff_iff]; simp [-List.length_eq_zero_iff] <;> try omega)
  have j2 : (n5 == 2) = false := by simpa using k2
  by_cases k3 : n5 = 3
  rotate_left
  ·have j3 : (n5 == 3) = false := by simpa using k3
   simp only [j1, k1, j2, k2, j3, k3, bft, if_false]
  subst k3
  simp only [j1, k1, j2, k2, show ((3 : Int) == 3) = true from rfl, bft, if_false, if_true]
  have ez : ((((((decide (n3 < 1) || (n4 != n1)) || (n6 != n1)) || decide ((l0.length : Int) > 0)) || ((l2.length : Int) != n2)) || ((l1.length : Int) != n2))) = !decide (n3 ≥ 1 ∧ n4 = n1 ∧ n6 = n1 ∧ l0.length = 0 ∧ (l2.length : Int) = n2 ∧ (l1.length : Int) = n2) := by
   rw [Bool.eq_iff_iff]; simp [-List.length_eq_zero_iff]; omega
  by_cases hR : n3 ≥ 1 ∧ n4 = n1 ∧ n6 = n1 ∧ l0.length = 0 ∧ (l2.length : Int) = n2 ∧ (l1.length : Int) = n2
  rotate_left
  ·rw [decide_eq_false hR] at ez ⊢
   simp only [ez, bnf, bnt, Bool.or_true, bto, ka, if_true, Bool.false_and]
  rw [decide_eq_true hR] at ez ⊢
  have hn1 : n1.toNat < l1.length := by omega
  have c1 : (decide (0 ≤ n1) && decide (n1 < (l1.length : Int))) = true := by simp; omega
  have c2 := kfb h3 _ krb n1.toNat hn1
  simp only [ez, c1, c2, bnt, bnf, Bool.false_or, bto, bat, bta, ka]
  by_cases hm : xI l1 n1.toNat = w64 (n7 + (l9.length : Int))
  ·have c3 : (asI (nthD (l1.getD n1.toNat []) 0) != w64 (n7 + (l9.length : Int))) = false := by simp only [bne_eq_false_iff_eq]; exact hm
   simp only [c3, bft, if_false, decide_eq_true hm, bta]
   have key := kmh n1 n2 n3 n4 3 n6 n7 n8 l9 n0 l0 l2 l1 false false 3 (3 == 1) (3 == 2) true false n1 n3 n4 3 n6 n7 n8 l9 n0 l0 l9 (fun n9 b0 b1 => some ([.one (.b false)], [])) (fun n12 b3 v1 => some ([.one (.b true)], [])) true (fun _ _ _ => rfl) (fun _ _ _ => rfl) l2 l1 h2 h3 (by omega) (by omega) l1.length 0 KK .undef .undef (by omega) (by rw [kk]; omega)
   rw [hR.2.2.2.2.2] at key
   refine Eq.trans key ?_
   simp only [bat]
  ·have c3 : (asI (nthD (l1.getD n1.toNat []) 0) != w64 (n7 + (l9.length : Int))) = true := by simp only [bne_iff_ne]; exact hm
   simp only [c3, if_true, decide_eq_false hm, Bool.false_and]
 ·rw [decide_eq_false hP] at ey ⊢
  simp only [t49, ta49, koc, gz7, gz26, gz6, gz10, ey, bto, ka, kdd, bnt, bnf, bft, if_false, Bool.false_and]
theorem kli {t v si st : Int} {ss : BA} {l : Rw} (h : ktb t v si st ss l = true) : 0 ≤ si := by
 unfold ktb kvc klc at h
 simp only [Bool.and_eq_true, decide_eq_true_eq] at h
 omega
theorem kni (n1 n2 n3 n4 n5 n6 n7 n8 : Int) (l9 : Rw) (n0 : Int) (l0 l1 l2 : Rw) : ked n1 n2 n3 n4 n5 n6 n7 n8 l9 n0 l0 l1 l2 =
  (decide (1 ≤ n2 ∧ n2 ≤ 5 ∧ 0 ≤ n1 ∧ n1 ≤ n2 - 1 ∧ n4 < n2 ∧ 0 ≤ n7 ∧ ¬ (n7 = 0 ∧ n8 ≠ 0)) && (ktb n3 n4 n7 n8 ⟨#[]⟩ l9 && (decide (n7 ≤ n0 ∧ n0 ≤ w64 (n7 + (l9.length : Int))) && ktd n1 n2 n3 n4 n5 n6 n7 l9 l0 l1 l2))) := by
 unfold ked
 cases hk : ktb n3 n4 n7 n8 ⟨#[]⟩ l9
 ·simp
 ·have := kli hk
  generalize ktd n1 n2 n3 n4 n5 n6 n7 l9 l0 l1 l2 = r
  rw [Bool.eq_iff_iff]
  cases r
  ·simp
  ·simp; omega
theorem kej (n1 n2 n3 n4 n5 n6 n7 n8 : Int) (l9 : Rw) (n0 : Int) (l0 l1 l2 : Rw) (n : Int) : t172 n1 n2 n3 n4 n5 n6 n7 n8 l9 n0 l0 l1 l2 n = some ([.one (.b (decide (w64 (2 * n) > n2)))], []) := rfl
theorem gz29 : ∀ x, okR zr171 zo171 (some ([.one (.b x)], [])) = true := fun _ => id rfl
theorem gz30 : ∀ x, okR zr172 zo172 (some ([.one (.b x)], [])) = true := fun _ => id rfl
theorem kji (n1 n2 n3 n4 n5 n6 n7 n8 : Int) (l9 : Rw) (n0 : Int) (l0 l1 l2 : Rw) (hl1 : l0.length ≤ 1048576) (h1 : ∀ r ∈ l0, typL kq r) (hl2 : l1.length ≤ 1048576) (hl3 : l2.length ≤ 1048576) :
  t152 n1 n2 n3 n4 n5 n6 n7 n8 l9 n0 l0 l1 l2 = some ([.one (.b (allB (kjb l0 n2) l0.length 0 && (decide (n3 ≥ 1 ∧ n4 = n1 ∧ n6 = -1 ∧ 2 * (l0.length : Int) ≤ n2 ∧ l1.length = 0 ∧ l2.length = 0) && !(allB (noF l0 n1) l0.length 0))))], []) := by
 unfold t152 ta152
 simp only [kdj l0 hl1 h1, kej, gz29, gz30, gz6, bto, ka]
 refine Eq.trans (knh n1 n2 n3 n4 n5 n6 n7 n8 l9 n0 l1 l2 false (fun n9 n83 b0 b1 => some ([.one (.b false)], [])) (fun v0 v1 n88 b2 v2 => some ([.one (.b ((((((decide (n3 ≥ 1)) && (n4 == n1)) && (n6 == -1)) && (!allB (noF l0 n1) l0.length 0)) && (!decide (w64 (2 * (l0.length : Int)) > n2))) && (w64 ((l1.length : Int) + (l2.length : Int)) == 0)))], [])) _ (fun _ _ _ _ => rfl) (fun _ _ _ _ _ => rfl) l0 h1 (by omega) l0.length 0 KK .undef .undef .undef .undef (by omega) (by rw [kk]; omega)) ?_
 apply kib
 generalize allB (kjb l0 n2) l0.length 0 = r1
 generalize allB (noF l0 n1) l0.length 0 = r2
 rw [kb (2 * (l0.length : Int)) (by omega), kb ((l1.length : Int) + (l2.length : Int)) (by omega)]
 cases r1 <;> cases r2 <;> (rw [Bool.eq_iff_iff]; simp [-List.length_eq_zero_iff] <;> try omega)
theorem kci (n1 n2 n3 n4 n5 n6 n7 n8 : Int) (l9 : Rw) (n0 : Int) (l2 l1 l0 : Rw) (h01 : 0 ≤ n1 ∧ n1 ≤ n2 - 1) (hl2 : l1.length ≤ 1048576) (h2 : ∀ r ∈ l1, typL kq r) (hl3 : l0.length ≤ 1048576) (h3 : ∀ r ∈ l0, typL kq r) :
  t153 n1 n2 n3 n4 n5 n6 n7 n8 l9 n0 l2 l1 l0 = some ([.one (.b (decide (n3 ≥ 1 ∧ n4 = n1 ∧ n6 = n1 ∧ l2.length = 0 ∧ (l1.length : Int) = n2 ∧ (l0.length : Int) = n2) && (decide (xI l0 n1.toNat = w64 (n7 + (l9.length : Int))) && allB (kgc l1 l0 (w64 (n7 + (l9.length : Int)))) l0.length 0)))], []) := by
 have ez : ((((((decide (n3 < 1) || (n4 != n1)) || (n6 != n1)) || decide ((l2.length : Int) > 0)) || ((l1.length : Int) != n2)) || ((l0.length : Int) != n2))) = !decide (n3 ≥ 1 ∧ n4 = n1 ∧ n6 = n1 ∧ l2.length = 0 ∧ (l1.length : Int) = n2 ∧ (l0.length : Int) = n2) := by
  rw [Bool.eq_iff_iff]; simp [-List.length_eq_zero_iff]; omega
 unfold t153 ta153
 by_cases hR : n3 ≥ 1 ∧ n4 = n1 ∧ n6 = n1 ∧ l2.length = 0 ∧ (l1.length : Int) = n2 ∧ (l0.length : Int) = n2
 ·rw [decide_eq_true hR] at ez ⊢
  have hn1 : n1.toNat < l0.length := by omega
  have c1 : (decide (0 ≤ n1) && decide (n1 < (l0.length : Int))) = true := by simp; omega
  have c2 := kfb h3 _ krb n1.toNat hn1
  simp only [ez, c1, c2, kpc, gz27, gz10, bnt, bft, if_false, bat, bta, ka]
  refine Eq.trans (khh n1 n2 n3 n4 n5 n6 n7 n8 l9 n0 l2 l0 false false (fun n9 n86 b0 b1 => some ([.one (.b false)], [])) (fun v0 v1 n91 b2 v2 => some ([.one (.b (asI (nthD (l0.getD n1.toNat []) 0) == w64 (n7 + (l9.length : Int))))], [])) _ (fun _ _ _ _ => rfl) (fun _ _ _ _ _ => rfl) l1 l0 h2 h3 (by omega) (by omega) l0.length 0 KK .undef .undef .undef .undef (by omega) (by rw [kk]; omega)) ?_
  apply kib
  rw [Bool.and_comm]
  congr 1
 ·rw [decide_eq_false hR] at ez ⊢
  simp only [ez, bnf, if_true, Bool.false_and]
theorem gz31 : ∀ x, okR zr152 zo152 (some ([.one (.b x)], [])) = true := fun _ => id rfl
theorem gz32 : ∀ x, okR zr153 zo153 (some ([.one (.b x)], [])) = true := fun _ => id rfl
theorem kzh (n1 n2 n3 n4 n5 n6 n7 n8 : Int) (l9 : Rw) (n0 : Int) (l0 l1 l2 : Rw) (hl : l9.length ≤ 1048576) (h : ∀ r ∈ l9, typL ki r) (hl1 : l0.length ≤ 1048576) (h1 : ∀ r ∈ l0, typL kq r) (hl2 : l1.length ≤ 1048576) (h2 : ∀ r ∈ l1, typL kq r) (hl3 : l2.length ≤ 1048576) (h3 : ∀ r ∈ l2, typL kq r) :
  t122 n1 n2 n3 n4 n5 n6 n7 n8 l9 n0 l0 l1 l2 = some ([.one (.b (ked n1 n2 n3 n4 n5 n6 n7 n8 l9 n0 l0 l1 l2))], []) := by
 have ew4 : okR zr125 zo125 (some ([.agg [.i .i64 n3, .i .i64 n4, .i .i64 n7, .i .i64 n8, .s ⟨#[]⟩, .l l9]], [])) = true := rfl
 have r0 : asI (resC (some ([.agg [.i .i64 n3, .i .i64 n4, .i .i64 n7, .i .i64 n8, .s ⟨#[]⟩, .l l9]], [])) 0 0) = n3 := rfl
 have r1 : asI (resC (some ([.agg [.i .i64 n3, .i .i64 n4, .i .i64 n7, .i .i64 n8, .s ⟨#[]⟩, .l l9]], [])) 0 1) = n4 := rfl
 have r2 : asI (resC (some ([.agg [.i .i64 n3, .i .i64 n4, .i .i64 n7, .i .i64 n8, .s ⟨#[]⟩, .l l9]], [])) 0 2) = n7 := rfl
 have r3 : asI (resC (some ([.agg [.i .i64 n3, .i .i64 n4, .i .i64 n7, .i .i64 n8, .s ⟨#[]⟩, .l l9]], [])) 0 3) = n8 := rfl
 have r4 : asS (resC (some ([.agg [.i .i64 n3, .i .i64 n4, .i .i64 n7, .i .i64 n8, .s ⟨#[]⟩, .l l9]], [])) 0 4) = ⟨#[]⟩ := rfl
 have r5 : asL (resC (some ([.agg [.i .i64 n3, .i .i64 n4, .i .i64 n7, .i .i64 n8, .s ⟨#[]⟩, .l l9]], [])) 0 5) = l9 := rfl
 have ey : ((((!(decide (1 ≤ n2) && decide (n2 ≤ 5)) || !(decide (0 ≤ n1) && decide (n1 ≤ w64 (n2 - 1)))) || decide (n4 ≥ n2)) || decide (n7 < 0)) || ((n7 == 0) && (n8 != 0))) = !decide (1 ≤ n2 ∧ n2 ≤ 5 ∧ 0 ≤ n1 ∧ n1 ≤ n2 - 1 ∧ n4 < n2 ∧ 0 ≤ n7 ∧ ¬ (n7 = 0 ∧ n8 ≠ 0)) := by
  by_cases hn : 1 ≤ n2 ∧ n2 ≤ 5
  ·rw [kb (n2 - 1) (by omega), Bool.eq_iff_iff]; simp; omega
  ·rw [Bool.eq_iff_iff]; simp; omega
 rw [kni]
 by_cases hP : 1 ≤ n2 ∧ n2 ≤ 5 ∧ 0 ≤ n1 ∧ n1 ≤ n2 - 1 ∧ n4 < n2 ∧ 0 ≤ n7 ∧ ¬ (n7 = 0 ∧ n8 ≠ 0)
 ·rw [decide_eq_true hP] at ey ⊢
  have hk := kte n1 n2 n3 n4 n5 n6 n7 n8 l9 n0 l0 l1 l2 hP.2.2.2.2.2.2 hl h
  simp only [t122, ta122, klb, gz5, gz27, gz24, gz29, gz6, gz10, ey, bto, ka, hk, ew4, r0, r1, r2, r3, r4, r5, kuc _ _ _ _ _ l9 hl h, kpc, kji n1 n2 n3 n4 n5 n6 n7 n8 l9 n0 l0 l1 l2 hl1 h1 hl2 hl3, kci n1 n2 n3 n4 n5 n6 n7 n8 l9 n0 l0 l1 l2 ⟨hP.2.2.1, hP.2.2.2.1⟩ hl2 h2 hl3 h3, gz31, gz32, bnt, bnf, if_true, Bool.false_or, bta]
  generalize ktb n3 n4 n7 n8 ⟨#[]⟩ l9 = K
  cases K
  ·simp only [bnf, bto, if_true, Bool.false_and]
  simp only [bnt, Bool.false_or, bta]
  have eq : (!(decide (n7 ≤ n0) && decide (n0 ≤ w64 (n7 + (l9.length : Int))))) = !decide (n7 ≤ n0 ∧ n0 ≤ w64 (n7 + (l9.length : Int))) := by
   rw [Bool.eq_iff_iff]; simp
  by_cases hQ : n7 ≤ n0 ∧ n0 ≤ w64 (n7 + (l9.length : Int))
  rotate_left
  ·rw [decide_eq_false hQ] at eq ⊢
   simp only [eq, bnf, if_true, Bool.false_and]
  rw [decide_eq_true hQ] at eq ⊢
  simp only [eq, bnt, bft, if_false, bta]
  unfold ktd
  by_cases k1 : n5 = 1
  ·subst k1
   simp only [show ((1 : Int) == 1) = true from rfl, if_true]
   apply kib
   rw [kb (n2 - 1) (by omega), kb ((l0.length : Int) + (l1.length : Int)) (by omega), kb _ (by omega), Bool.eq_iff_iff]
   simp [-List.length_eq_zero_iff]; omega
  have j1 : (n5 == 1) = false := by simpa using k1
  by_cases k2 : n5 = 2
  ·subst k2
   simp only [j1, k1, show ((2 : Int) == 2) = true from rfl, bft, if_false, if_true]
  have j2 : (n5 == 2) = false := by simpa using k2
  by_cases k3 : n5 = 3
  ·subst k3
   simp only [j1, k1, j2, k2, show ((3 : Int) == 3) = true from rfl, bft, if_false, if_true]
  ·have j3 : (n5 == 3) = false := by simpa using k3
   simp only [j1, k1, j2, k2, j3, k3, bft, if_false]
 ·rw [decide_eq_false hP] at ey ⊢
  simp only [t122, ta122, klb, gz5, gz27, gz6, gz10, ey, bto, ka, kpc, bnt, bnf, bft, if_false, Bool.false_and]
theorem gz33 : ∀ x, okR zr49 zo49 (some ([.one (.b x)], [])) = true := fun _ => id rfl
theorem gz34 : ∀ x, okR zr122 zo122 (some ([.one (.b x)], [])) = true := fun _ => id rfl
theorem ksg (x1 x2 x3 x4 x5 x6 : Int) (x7 : BA) (x8 : Rw) (_ : x7.size ≤ 1048576) (hl : x8.length ≤ 1048576) (h : ∀ r ∈ x8, typL ki r) (_ : ∀ r ∈ x8, szdL ki r) :
  ∃ (r1 r2 r3 r4 r5 r6 r7 r8 : Int) (r9 : Rw) (r10 : Int) (r11 r12 r13 : Rw) (r14 : Bool), t55 x1 x2 x3 x4 x5 x6 x7 x8 = some ([.agg [.i .i64 r1, .i .i64 r2, .i .i64 r3, .i .i64 r4, .i .i64 r5, .i .i64 r6, .i .i64 r7, .i .i64 r8, .l r9, .i .i64 r10, .l r11, .l r12, .l r13], .one (.b r14)], []) ∧
   t98 x1 x2 x3 x4 x5 x6 x7 x8 = some ([.agg [.i .i64 r1, .i .i64 r2, .i .i64 r3, .i .i64 r4, .i .i64 r5, .i .i64 r6, .i .i64 r7, .i .i64 r8, .l r9, .i .i64 r10, .l r11, .l r12, .l r13], .one (.b r14)], []) ∧
   r9.length ≤ 1048576 ∧ (∀ r ∈ r9, typL ki r) ∧ r11.length ≤ 1048576 ∧ (∀ r ∈ r11, typL kq r) ∧ r12.length ≤ 1048576 ∧ (∀ r ∈ r12, typL kq r) ∧ r13.length ≤ 1048576 ∧ (∀ r ∈ r13, typL kq r) ∧ True := by
 have el : decide ((([] : Rw).length + x8.length) ≤ lim) = true := by unfold lim; simp; omega
 have el2 : decide (x8.length ≤ lim) = true := by unfold lim; simp; omega
 have nn : ∀ r ∈ ([] : Rw), typL kq r := fun r h => by cases h
 have n0 : ([] : Rw).length ≤ 1048576 := Nat.zero_le _
 simp only [t55, ta55, t98, ta98, kqc _ _ _ _ _ x8 hl h, kuc _ _ _ _ _ x8 hl h, gz22, gz24, gz6, kec h, el, el2, List.nil_append, kai _ _ _ _ _ _ _ _ x8 _ [] [] [] hl h n0 nn n0 nn n0 nn, kzh _ _ _ _ _ _ _ _ x8 _ [] [] [] hl h n0 nn n0 nn n0 nn, gz33, gz34, bta, ka]
 generalize ktb x3 x4 x5 x6 x7 x8 = K
 generalize ked x1 x2 x3 x4 1 (-1) x5 x6 x8 x5 [] [] [] = B
 cases K
 ·exact ⟨0, 0, 0, 0, 0, 0, 0, 0, [], 0, [], [], [], false, rfl, rfl, n0, (fun r h => by cases h), n0, nn, n0, nn, n0, nn, trivial⟩
 ·cases B
  ·exact ⟨0, 0, 0, 0, 0, 0, 0, 0, [], 0, [], [], [], false, rfl, rfl, n0, (fun r h => by cases h), n0, nn, n0, nn, n0, nn, trivial⟩
  ·exact ⟨x1, x2, x3, x4, 1, -1, x5, x6, x8, x5, [], [], [], true, rfl, rfl, hl, h, n0, nn, n0, nn, n0, nn, trivial⟩
def ten0 : List D := [.i .i64 2, .l [[.i .i64 1, .i .i64 2, .i .i64 1023, .i .i64 0, .i .i64 0, .s ⟨#[]⟩, .l [], .i .i64 0, .i .i64 0]], .i .i64 30, .l [], .l []]
theorem kpi : typL kg ten0 := by
 refine ⟨_, _, rfl, ⟨_, rfl, rfl⟩, ⟨_, _, rfl, ⟨_, rfl, ?_, ?_⟩, ⟨_, _, rfl, ⟨_, rfl, rfl⟩, ⟨_, _, rfl, ⟨_, rfl, Nat.zero_le _, fun r h => by cases h⟩, ⟨_, _, rfl, ⟨_, rfl, Nat.zero_le _, fun r h => by cases h⟩, rfl⟩⟩⟩⟩⟩
 ·show 1 ≤ maxLen; unfold maxLen; omega
 ·intro r hr; simp at hr; subst hr
  exact ⟨_, _, rfl, ⟨_, rfl, rfl⟩, ⟨_, _, rfl, ⟨_, rfl, rfl⟩, ⟨_, _, rfl, ⟨_, rfl, rfl⟩, ⟨_, _, rfl, ⟨_, rfl, rfl⟩, ⟨_, _, rfl, ⟨_, rfl, rfl⟩, ⟨_, _, rfl, ⟨_, rfl, Nat.zero_le _⟩, ⟨_, _, rfl, ⟨_, rfl, Nat.zero_le _, fun r h => by cases h⟩, ⟨_, _, rfl, ⟨_, rfl, rfl⟩, ⟨_, _, rfl, ⟨_, rfl, rfl⟩, rfl⟩⟩⟩⟩⟩⟩⟩⟩⟩
theorem kki : szdL kg ten0 := by
 refine ⟨trivial, ⟨?_, ?_⟩, trivial, ⟨Nat.zero_le _, fun r h => by cases h⟩, ⟨Nat.zero_le _, fun r h => by cases h⟩, trivial⟩
 ·show 1 ≤ 1048576; omega
 ·intro r hr
  have hr : r ∈ [[D.i .i64 1, .i .i64 2, .i .i64 1023, .i .i64 0, .i .i64 0, .s ⟨#[]⟩, .l [], .i .i64 0, .i .i64 0]] := hr
  simp at hr; subst hr
  exact ⟨trivial, trivial, trivial, trivial, trivial, Nat.zero_le _, ⟨Nat.zero_le _, fun r h => by cases h⟩, trivial, trivial, trivial⟩
theorem kaf : t99 = some ([.one (.l [ten0, ten0, ten0])], []) := by
 have h : t131 = some ([.agg ten0], []) := rfl
 obtain ⟨m, hm⟩ : ∃ m, KK = m + 4 := ⟨KK - 4, by rw [kk]⟩
 unfold t99 ta99
 rw [hm]
 have e0 : okR zr131 zo131 (some ([.agg ten0], [])) = true := rfl
 have e1 : ([[.i .i64 (asI (resC (some ([.agg ten0], [])) 0 0)), .l (asL (resC (some ([.agg ten0], [])) 0 1)), .i .i64 (asI (resC (some ([.agg ten0], [])) 0 2)), .l (asL (resC (some ([.agg ten0], [])) 0 3)), .l (asL (resC (some ([.agg ten0], [])) 0 4))]] : Rw) = [ten0] := rfl
 have a0 : decide ((0 : Int) < 3) = true := rfl
 have a1 : decide (w64 ((0 : Int) + 1) < 3) = true := rfl
 have a2 : decide (w64 (w64 ((0 : Int) + 1) + 1) < 3) = true := rfl
 have a3 : decide (w64 (w64 (w64 ((0 : Int) + 1) + 1) + 1) < 3) = false := rfl
 simp only [la99o0, h, e0, e1, a0, a1, a2, a3, if_true, bft, if_false, ka, bta]
 have l1 : decide ((([] : Rw).length + [ten0].length) ≤ lim) = true := rfl
 have l2 : decide ((([] ++ [ten0] : Rw).length + [ten0].length) ≤ lim) = true := rfl
 have l3 : decide ((([] ++ [ten0] ++ [ten0] : Rw).length + [ten0].length) ≤ lim) = true := rfl
 rw [l1, l2, l3]
 rfl
theorem kdf : t56 = some ([.one (.l [ten0, ten0, ten0])], []) := by
 have h : t91 = some ([.agg ten0], []) := rfl
 obtain ⟨m, hm⟩ : ∃ m, KK = m + 4 := ⟨KK - 4, by rw [kk]⟩
 unfold t56 ta56
 rw [hm]
 have e0 : okR zr91 zo91 (some ([.agg ten0], [])) = true := rfl
 have e1 : ([[.i .i64 (asI (resC (some ([.agg ten0], [])) 0 0)), .l (asL (resC (some ([.agg ten0], [])) 0 1)), .i .i64 (asI (resC (some ([.agg ten0], [])) 0 2)), .l (asL (resC (some ([.agg ten0], [])) 0 3)), .l (asL (resC (some ([.agg ten0], [])) 0 4))]] : Rw) = [ten0] := rfl
 have a0 : decide ((0 : Int) < 3) = true := rfl
 have a1 : decide (w64 ((0 : Int) + 1) < 3) = true := rfl
 have a2 : decide (w64 (w64 ((0 : Int) + 1) + 1) < 3) = true := rfl
 have a3 : decide (w64 (w64 (w64 ((0 : Int) + 1) + 1) + 1) < 3) = false := rfl
 simp only [la56o0, h, e0, e1, a0, a1, a2, a3, if_true, bft, if_false, ka, bta]
 have l1 : decide ((([] : Rw).length + [ten0].length) ≤ lim) = true := rfl
 have l2 : decide ((([] ++ [ten0] : Rw).length + [ten0].length) ≤ lim) = true := rfl
 have l3 : decide ((([] ++ [ten0] ++ [ten0] : Rw).length + [ten0].length) ≤ lim) = true := rfl
 rw [l1, l2, l3]
 rfl
theorem kwg : t96 [] = some ([.one (.l [])], []) := by
 obtain ⟨m, hm⟩ : ∃ m, KK = m + 1 := ⟨KK - 1, by rw [kk]⟩
 unfold t96 ta96
 rw [hm]; rfl
theorem gz35 : ∀ a b c d e f g, okR zr15 zo15 (some ([.agg [.i .i64 a, .i .i64 b, .i .i64 c, .i .i64 d, .s e, .l f, .l g]], [])) = true := fun _ _ _ _ _ _ _ => id rfl
theorem gz36 : ∀ a b c d e f g, okR zr20 zo20 (some ([.agg [.i .i64 a, .i .i64 b, .i .i64 c, .i .i64 d, .s e, .l f, .l g]], [])) = true := fun _ _ _ _ _ _ _ => id rfl
theorem gz37 : ∀ x, okR zr47 zo47 (some ([.one (.b x)], [])) = true := fun _ => id rfl
theorem gz38 : ∀ x, okR zr92 zo92 (some ([.one (.b x)], [])) = true := fun _ => id rfl
theorem gz39 : ∀ x, okR zr48 zo48 (some ([.one (.b x)], [])) = true := fun _ => id rfl
theorem gz40 : ∀ x, okR zr94 zo94 (some ([.one (.b x)], [])) = true := fun _ => id rfl
theorem gz41 : ∀ x, okR zr16 zo16 (some ([.one (.b x)], [])) = true := fun _ => id rfl
theorem gz42 : ∀ x, okR zr57 zo57 (some ([.one (.b x)], [])) = true := fun _ => id rfl
theorem gz43 : ∀ x, okR zr56 zo56 (some ([.one (.l x)], [])) = true := fun _ => id rfl
theorem gz44 : ∀ x, okR zr99 zo99 (some ([.one (.l x)], [])) = true := fun _ => id rfl
theorem kdg (x1 x2 : Int) : ∃ (r1 r2 : Int) (r3 : Bool) (r4 r5 r6 r7 r8 r9 r10 r11 : Int) (r12 : Rw) (r13 : Int) (r14 r15 r16 r17 : Rw) (r18 r19 : Int) (r20 : BA) (r21 r22 r23 r24 : Int) (r25 : BA) (r26 r27 r28 : Rw) (r29 r30 : Int) (r31 : Bool),
  t5 x1 x2 = some ([.agg [.i .i64 r1, .i .i64 r2, .b r3, .i .i64 r4, .i .i64 r5, .i .i64 r6, .i .i64 r7, .i .i64 r8, .i .i64 r9, .i .i64 r10, .i .i64 r11, .l r12, .i .i64 r13, .l r14, .l r15, .l r16, .l r17, .i .i64 r18, .i .i64 r19, .s r20, .i .i64 r21, .i .i64 r22, .i .i64 r23, .i .i64 r24, .s r25, .l r26, .l r27, .l r28, .i .i64 r29, .i .i64 r30], .one (.b r31)], []) ∧
  t6 x1 x2 = some ([.agg [.i .i64 r1, .i .i64 r2, .b r3, .i .i64 r4, .i .i64 r5, .i .i64 r6, .i .i64 r7, .i .i64 r8, .i .i64 r9, .i .i64 r10, .i .i64 r11, .l r12, .i .i64 r13, .l r14, .l r15, .l r16, .l r17, .i .i64 r18, .i .i64 r19, .s r20, .i .i64 r21, .i .i64 r22, .i .i64 r23, .i .i64 r24, .s r25, .l r26, .l r27, .l r28, .i .i64 r29, .i .i64 r30], .one (.b r31)], []) ∧
  r12.length ≤ 1048576 ∧ (∀ r ∈ r12, typL ki r) ∧ r14.length ≤ 1048576 ∧ (∀ r ∈ r14, typL kq r) ∧ r15.length ≤ 1048576 ∧ (∀ r ∈ r15, typL kq r) ∧ r16.length ≤ 1048576 ∧ (∀ r ∈ r16, typL kq r) ∧ r17.length ≤ 1048576 ∧ (∀ r ∈ r17, typL kg r) ∧ (∀ r ∈ r17, szdL kg r) ∧ r26.length ≤ 1048576 ∧ (∀ r ∈ r26, typL ki r) ∧ r27.length ≤ 1048576 ∧ (∀ r ∈ r27, typL kyb r) ∧ r28.length ≤ 1048576 ∧ (∀ r ∈ r28, typL kad r) ∧ True := by
 have n0 : ([] : Rw).length ≤ 1048576 := Nat.zero_le _
 have nn : ∀ {sh : List Sh}, ∀ r ∈ ([] : Rw), typL sh r := fun r h => by cases h
 have ns : ∀ {sh : List Sh}, ∀ r ∈ ([] : Rw), szdL sh r := fun r h => by cases h
 have e15 : t15 = some ([.agg [.i .i64 0, .i .i64 (-1), .i .i64 0, .i .i64 0, .s ⟨#[]⟩, .l [], .l []]], []) := rfl
 have e20 : t20 = some ([.agg [.i .i64 0, .i .i64 (-1), .i .i64 0, .i .i64 0, .s ⟨#[]⟩, .l [], .l []]], []) := rfl
 obtain ⟨b, hS, hI, -⟩ := kfg 0 (-1) 0 0 ⟨#[]⟩ [] [] (Nat.zero_le _) n0 nn ns n0 nn ns
 obtain ⟨c1, c2, c3, c4, c5, c6, c7, c8, c9, c10, c11, c12, c13, c14, hC, hD, d9, u9, d11, u11, d12, u12, d13, u13, -⟩ := ksg x1 x2 0 (-1) 0 0 ⟨#[]⟩ [] (Nat.zero_le _) n0 nn ns
 have ew0 : w64 0 = 0 := rfl
 have ez1 : t48 0 0 0 0 0 0 0 0 [] 0 [] [] [] = some ([.one (.b true)], []) := rfl
 have ez2 : t94 0 0 0 0 0 0 0 0 [] 0 [] [] [] = some ([.one (.b true)], []) := rfl
 have oS : t16 x1 x2 false 0 0 0 0 0 0 0 0 [] 0 [] [] [] [] 0 0 ⟨#[]⟩ 0 (-1) 0 0 ⟨#[]⟩ [] [] [] (-1) 0 = some ([.one (.b (decide (1 ≤ x2) && decide (x2 ≤ 5) && (decide (0 ≤ x1) && decide (x1 ≤ w64 (x2 - 1))) && b))], []) := by
  unfold t16 ta16
  simp only [koc, hS, gz7, gz37, gz39, gz6, ez1, bto, ka]
  cases (decide (1 ≤ x2) && decide (x2 ≤ 5)) <;> cases (decide (0 ≤ x1) && decide (x1 ≤ w64 (x2 - 1))) <;> cases b <;> (simp [ez1, ez2, gz39, gz40, gz6, ew0])
 have oI : t57 x1 x2 false 0 0 0 0 0 0 0 0 [] 0 [] [] [] [] 0 0 ⟨#[]⟩ 0 (-1) 0 0 ⟨#[]⟩ [] [] [] (-1) 0 = some ([.one (.b (decide (1 ≤ x2) && decide (x2 ≤ 5) && (decide (0 ≤ x1) && decide (x1 ≤ w64 (x2 - 1))) && b))], []) := by
  unfold t57 ta57
  simp only [klb, hI, gz5, gz38, gz40, gz6, ez2, bto, ka]
  cases (decide (1 ≤ x2) && decide (x2 ≤ 5)) <;> cases (decide (0 ≤ x1) && decide (x1 ≤ w64 (x2 - 1))) <;> cases b <;> (simp [ez1, ez2, gz39, gz40, gz6, ew0])
 have wC : okR zr55 zo55 (some ([.agg [.i .i64 c1, .i .i64 c2, .i .i64 c3, .i .i64 c4, .i .i64 c5, .i .i64 c6, .i .i64 c7, .i .i64 c8, .l c9, .i .i64 c10, .l c11, .l c12, .l c13], .one (.b c14)], [])) = true := rfl
 have wD : okR zr98 zo98 (some ([.agg [.i .i64 c1, .i .i64 c2, .i .i64 c3, .i .i64 c4, .i .i64 c5, .i .i64 c6, .i .i64 c7, .i .i64 c8, .l c9, .i .i64 c10, .l c11, .l c12, .l c13], .one (.b c14)], [])) = true := rfl
 have eC : ∀ l : List D, asB (resC (some ([.agg l, .one (.b c14)], [])) 1 0) = c14 := fun _ => rfl
 have cc : t95 0 0 0 0 0 0 0 0 [] 0 [] [] [] = some ([.agg [.i .i64 0, .i .i64 0, .i .i64 0, .i .i64 0, .i .i64 0, .i .i64 0, .i .i64 0, .i .i64 0, .l [], .i .i64 0, .l [], .l [], .l []]], []) := rfl
 have cs : t97 0 (-1) 0 0 ⟨#[]⟩ [] [] = some ([.agg [.i .i64 0, .i .i64 (-1), .i .i64 0, .i .i64 0, .s ⟨#[]⟩, .l [], .l []]], []) := by
  unfold t97 ta97
  simp only [khd _ _ _ _ _ [] nn n0]
  rfl
 have vN : t58 x1 x2 false 0 0 0 0 0 0 0 0 [] 0 [] [] [] [] 0 0 ⟨#[]⟩ 0 (-1) 0 0 ⟨#[]⟩ [] [] [] (-1) 0 = some ([.agg [.i .i64 x1, .i .i64 x2, .b false, .i .i64 0, .i .i64 0, .i .i64 0, .i .i64 0, .i .i64 0, .i .i64 0, .i .i64 0, .i .i64 0, .l [], .i .i64 0, .l [], .l [], .l [], .l [], .i .i64 0, .i .i64 0, .s ⟨#[]⟩, .i .i64 0, .i .i64 (-1), .i .i64 0, .i .i64 0, .s ⟨#[]⟩, .l [], .l [], .l [], .i .i64 (-1), .i .i64 0]], []) := by
  unfold t58 ta58
  simp only [cc, cs, kwg]
  rfl
 have vR : t59 x1 x2 false 0 0 0 0 0 0 0 0 [] 0 [] [] [] [] 0 0 ⟨#[]⟩ 0 (-1) 0 0 ⟨#[]⟩ [] [] [] (-1) 0 = some ([.one (.b c14)], [if c14 then [.i .i64 x1, .i .i64 x2, .b true, .i .i64 c1, .i .i64 c2, .i .i64 c3, .i .i64 c4, .i .i64 c5, .i .i64 c6, .i .i64 c7, .i .i64 c8, .l c9, .i .i64 c10, .l c11, .l c12, .l c13, .l [ten0, ten0, ten0], .i .i64 0, .i .i64 0, .s ⟨#[]⟩, .i .i64 0, .i .i64 (-1), .i .i64 0, .i .i64 0, .s ⟨#[]⟩, .l [], .l [], .l [], .i .i64 (-1), .i .i64 0] else [.i .i64 x1, .i .i64 x2, .b false, .i .i64 0, .i .i64 0, .i .i64 0, .i .i64 0, .i .i64 0, .i .i64 0, .i .i64 0, .i .i64 0, .l [], .i .i64 0, .l [], .l [], .l [], .l [], .i .i64 0, .i .i64 0, .s ⟨#[]⟩, .i .i64 0, .i .i64 (-1), .i .i64 0, .i .i64 0, .s ⟨#[]⟩, .l [], .l [], .l [], .i .i64 (-1), .i .i64 0]]) := by
  unfold t59 ta59
  simp only [hD, wD, eC, kaf, gz44, ka, Bool.false_or]
  cases c14
  ·rfl
  ·simp only [bnt, bft, if_false, beq_self_eq_true, bat]
   rfl
 have vS : t17 x1 x2 false 0 0 0 0 0 0 0 0 [] 0 [] [] [] [] 0 0 ⟨#[]⟩ 0 (-1) 0 0 ⟨#[]⟩ [] [] [] (-1) 0 = some ([.agg (if c14 then [.i .i64 x1, .i .i64 x2, .b true, .i .i64 c1, .i .i64 c2, .i .i64 c3, .i .i64 c4, .i .i64 c5, .i .i64 c6, .i .i64 c7, .i .i64 c8, .l c9, .i .i64 c10, .l c11, .l c12, .l c13, .l [ten0, ten0, ten0], .i .i64 0, .i .i64 0, .s ⟨#[]⟩, .i .i64 0, .i .i64 (-1), .i .i64 0, .i .i64 0, .s ⟨#[]⟩, .l [], .l [], .l [], .i .i64 (-1), .i .i64 0] else [.i .i64 x1, .i .i64 x2, .b false, .i .i64 0, .i .i64 0, .i .i64 0, .i .i64 0, .i .i64 0, .i .i64 0, .i .i64 0, .i .i64 0, .l [], .i .i64 0, .l [], .l [], .l [], .l [], .i .i64 0, .i .i64 0, .s ⟨#[]⟩, .i .i64 0, .i .i64 (-1), .i .i64 0, .i .i64 0, .s ⟨#[]⟩, .l [], .l [], .l [], .i .i64 (-1), .i .i64 0]), .one (.b c14)], []) := by
  unfold t17 ta17
  simp only [hC, wC, eC, kdf, gz43, ka]
  cases c14 <;> rfl
 have rS : t19 x1 x2 false 0 0 0 0 0 0 0 0 [] 0 [] [] [] [] 0 0 ⟨#[]⟩ 0 (-1) 0 0 ⟨#[]⟩ [] [] [] (-1) 0 = if (decide (1 ≤ x2) && decide (x2 ≤ 5) && (decide (0 ≤ x1) && decide (x1 ≤ w64 (x2 - 1))) && b) then some ([.agg (if c14 then [.i .i64 x1, .i .i64 x2, .b true, .i .i64 c1, .i .i64 c2, .i .i64 c3, .i .i64 c4, .i .i64 c5, .i .i64 c6, .i .i64 c7, .i .i64 c8, .l c9, .i .i64 c10, .l c11, .l c12, .l c13, .l [ten0, ten0, ten0], .i .i64 0, .i .i64 0, .s ⟨#[]⟩, .i .i64 0, .i .i64 (-1), .i .i64 0, .i .i64 0, .s ⟨#[]⟩, .l [], .l [], .l [], .i .i64 (-1), .i .i64 0] else [.i .i64 x1, .i .i64 x2, .b false, .i .i64 0, .i .i64 0, .i .i64 0, .i .i64 0, .i .i64 0, .i .i64 0, .i .i64 0, .i .i64 0, .l [], .i .i64 0, .l [], .l [], .l [], .l [], .i .i64 0, .i .i64 0, .s ⟨#[]⟩, .i .i64 0, .i .i64 (-1), .i .i64 0, .i .i64 0, .s ⟨#[]⟩, .l [], .l [], .l [], .i .i64 (-1), .i .i64 0]), .one (.b c14)], []) else some ([.agg [.i .i64 0, .i .i64 0, .b false, .i .i64 0, .i .i64 0, .i .i64 0, .i .i64 0, .i .i64 0, .i .i64 0, .i .i64 0, .i .i64 0, .l [], .i .i64 0, .l [], .l [], .l [], .l [], .i .i64 0, .i .i64 0, .s ⟨#[]⟩, .i .i64 0, .i .i64 0, .i .i64 0, .i .i64 0, .s ⟨#[]⟩, .l [], .l [], .l [], .i .i64 0, .i .i64 0], .one (.b false)], []) := by
  unfold t19 ta19
  simp only [oI, gz42, gz6, ka]
  generalize (decide (1 ≤ x2) && decide (x2 ≤ 5) && (decide (0 ≤ x1) && decide (x1 ≤ w64 (x2 - 1))) && b) = G
  cases G
  ·rfl
  ·simp only [vN, bnt, bft, if_false, if_true]
   erw [vR]
   cases c14 <;> rfl
 have tl : [ten0, ten0, ten0].length ≤ 1048576 := by simp
 have tt : ∀ r ∈ [ten0, ten0, ten0], typL kg r := fun r hr => by simp at hr; subst hr; exact kpi
 have ts : ∀ r ∈ [ten0, ten0, ten0], szdL kg r := fun r hr => by simp at hr; subst hr; exact kki
 have fS : t5 x1 x2 = if (decide (1 ≤ x2) && decide (x2 ≤ 5) && (decide (0 ≤ x1) && decide (x1 ≤ w64 (x2 - 1))) && b) then some ([.agg (if c14 then [.i .i64 x1, .i .i64 x2, .b true, .i .i64 c1, .i .i64 c2, .i .i64 c3, .i .i64 c4, .i .i64 c5, .i .i64 c6, .i .i64 c7, .i .i64 c8, .l c9, .i .i64 c10, .l c11, .l c12, .l c13, .l [ten0, ten0, ten0], .i .i64 0, .i .i64 0, .s ⟨#[]⟩, .i .i64 0, .i .i64 (-1), .i .i64 0, .i .i64 0, .s ⟨#[]⟩, .l [], .l [], .l [], .i .i64 (-1), .i .i64 0] else [.i .i64 x1, .i .i64 x2, .b false, .i .i64 0, .i .i64 0, .i .i64 0, .i .i64 0, .i .i64 0, .i .i64 0, .i .i64 0, .i .i64 0, .l [], .i .i64 0, .l [], .l [], .l [], .l [], .i .i64 0, .i .i64 0, .s ⟨#[]⟩, .i .i64 0, .i .i64 (-1), .i .i64 0, .i .i64 0, .s ⟨#[]⟩, .l [], .l [], .l [], .i .i64 (-1), .i .i64 0]), .one (.b c14)], []) else some ([.agg [.i .i64 0, .i .i64 0, .b false, .i .i64 0, .i .i64 0, .i .i64 0, .i .i64 0, .i .i64 0, .i .i64 0, .i .i64 0, .i .i64 0, .l [], .i .i64 0, .l [], .l [], .l [], .l [], .i .i64 0, .i .i64 0, .s ⟨#[]⟩, .i .i64 0, .i .i64 0, .i .i64 0, .i .i64 0, .s ⟨#[]⟩, .l [], .l [], .l [], .i .i64 0, .i .i64 0], .one (.b false)], []) := by
  unfold t5 ta5
  simp only [e15]
  erw [oS, vS]
  generalize (decide (1 ≤ x2) && decide (x2 ≤ 5) && (decide (0 ≤ x1) && decide (x1 ≤ w64 (x2 - 1))) && b) = G
  cases G
  ·rfl
  ·cases c14 <;> rfl
 have fI : t6 x1 x2 = if (decide (1 ≤ x2) && decide (x2 ≤ 5) && (decide (0 ≤ x1) && decide (x1 ≤ w64 (x2 - 1))) && b) then some ([.agg (if c14 then [.i .i64 x1, .i .i64 x2, .b true, .i .i64 c1, .i .i64 c2, .i .i64 c3, .i .i64 c4, .i .i64 c5, .i .i64 c6, .i .i64 c7, .i .i64 c8, .l c9, .i .i64 c10, .l c11, .l c12, .l c13, .l [ten0, ten0, ten0], .i .i64 0, .i .i64 0, .s ⟨#[]⟩, .i .i64 0, .i .i64 (-1), .i .i64 0, .i .i64 0, .s ⟨#[]⟩, .l [], .l [], .l [], .i .i64 (-1), .i .i64 0] else [.i .i64 x1, .i .i64 x2, .b false, .i .i64 0, .i .i64 0, .i .i64 0, .i .i64 0, .i .i64 0, .i .i64 0, .i .i64 0, .i .i64 0, .l [], .i .i64 0, .l [], .l [], .l [], .l [], .i .i64 0, .i .i64 0, .s ⟨#[]⟩, .i .i64 0, .i .i64 (-1), .i .i64 0, .i .i64 0, .s ⟨#[]⟩, .l [], .l [], .l [], .i .i64 (-1), .i .i64 0]), .one (.b c14)], []) else some ([.agg [.i .i64 0, .i .i64 0, .b false, .i .i64 0, .i .i64 0, .i .i64 0, .i .i64 0, .i .i64 0, .i .i64 0, .i .i64 0, .i .i64 0, .l [], .i .i64 0, .l [], .l [], .l [], .l [], .i .i64 0, .i .i64 0, .s ⟨#[]⟩, .i .i64 0, .i .i64 0, .i .i64 0, .i .i64 0, .s ⟨#[]⟩, .l [], .l [], .l [], .i .i64 0, .i .i64 0], .one (.b false)], []) := by
  unfold t6 ta6
  simp only [e20]
  simp only [klb, gz5, gz6, bto, ka]
  erw [rS]
  cases (decide (1 ≤ x2) && decide (x2 ≤ 5))
  ·rfl
  ·cases (decide (0 ≤ x1) && decide (x1 ≤ w64 (x2 - 1)))
   ·rfl
   ·cases b
    ·rfl
    ·cases c14 <;> rfl
 rw [fS, fI]
 cases (decide (1 ≤ x2) && decide (x2 ≤ 5) && (decide (0 ≤ x1) && decide (x1 ≤ w64 (x2 - 1))) && b)
 ·exact ⟨0, 0, false, 0, 0, 0, 0, 0, 0, 0, 0, [], 0, [], [], [], [], 0, 0, ⟨#[]⟩, 0, 0, 0, 0, ⟨#[]⟩, [], [], [], 0, 0, false, rfl, rfl, n0, nn, n0, nn, n0, nn, n0, nn, n0, nn, ns, n0, nn, n0, nn, n0, nn, trivial⟩
 ·cases c14
  ·exact ⟨x1, x2, false, 0, 0, 0, 0, 0, 0, 0, 0, [], 0, [], [], [], [], 0, 0, ⟨#[]⟩, 0, (-1), 0, 0, ⟨#[]⟩, [], [], [], (-1), 0, false, rfl, rfl, n0, nn, n0, nn, n0, nn, n0, nn, n0, nn, ns, n0, nn, n0, nn, n0, nn, trivial⟩
  ·exact ⟨x1, x2, true, c1, c2, c3, c4, c5, c6, c7, c8, c9, c10, c11, c12, c13, [ten0, ten0, ten0], 0, 0, ⟨#[]⟩, 0, (-1), 0, 0, ⟨#[]⟩, [], [], [], (-1), 0, true, rfl, rfl, d9, u9, d11, u11, d12, u12, d13, u13, tl, tt, ts, n0, nn, n0, nn, n0, nn, trivial⟩
theorem kig (x1 : Int) (x2 : Int) (x3 : Bool) (x4 : Int) (x5 : Int) (x6 : Int) (x7 : Int) (x8 : Int) (x9 : Int) (x10 : Int) (x11 : Int) (x12 : Rw) (x13 : Int) (x14 : Rw) (x15 : Rw) (x16 : Rw) (x17 : Rw) (x18 : Int) (x19 : Int) (x20 : BA) (x21 : Int) (x22 : Int) (x23 : Int) (x24 : Int) (x25 : BA) (x26 : Rw) (x27 : Rw) (x28 : Rw) (x29 : Int) (x30 : Int) (wx12 : x12.length ≤ 1048576) (tx12 : ∀ r ∈ x12, typL ki r) (wx14 : x14.length ≤ 1048576) (tx14 : ∀ r ∈ x14, typL kq r) (wx15 : x15.length ≤ 1048576) (tx15 : ∀ r ∈ x15, typL kq r) (wx16 : x16.length ≤ 1048576) (tx16 : ∀ r ∈ x16, typL kq r) (wx17 : x17.length ≤ 1048576) (tx17 : ∀ r ∈ x17, typL kg r) (sx17 : ∀ r ∈ x17, szdL kg r) (wx26 : x26.length ≤ 1048576) (tx26 : ∀ r ∈ x26, typL ki r) (wx27 : x27.length ≤ 1048576) (tx27 : ∀ r ∈ x27, typL kyb r) (wx28 : x28.length ≤ 1048576) (tx28 : ∀ r ∈ x28, typL kad r) : t7 x1 x2 x3 x4 x5 x6 x7 x8 x9 x10 x11 x12 x13 x14 x15 x16 x17 x18 x19 x20 x21 x22 x23 x24 x25 x26 x27 x28 x29 x30 x1 x2 x3 x4 x5 x6 x7 x8 x9 x10 x11 x12 x13 x14 x15 x16 x17 x18 x19 x20 x21 x22 x23 x24 x25 x26 x27 x28 x29 x30 = some ([.one (.b true)], []) := by
 simp only [t7, ta7, bne_self_eq_false, bnt, bft, if_false, kah x4 x5 x6 x7 x8 x9 x10 x11 x12 x13 x14 x15 x16 wx12 tx12 wx14 tx14 wx15 tx15 wx16 tx16, kne x17 wx17 tx17 sx17, kid x18 x19 x20 , kbg x21 x22 x23 x24 x25 x26 x27 wx26 tx26 wx27 tx27, kvf x28 wx28 tx28, zr21, zo21, zr22, zo22, zr23, zo23, zr24, zo24, zr25, zo25, okR, isVs, isV, isD, isDs, isOs, resC, outC, nthR, nthO, cellsDV, nthD, asB, asI, asS, asL, bat, bta, BEq.rfl, ka, decide_true]
theorem law3 (x1 : Int) (x2 : Int) : t3 x1 x2 = some ([.one (.b true)], []) := by
 obtain ⟨r1, r2, r3, r4, r5, r6, r7, r8, r9, r10, r11, r12, r13, r14, r15, r16, r17, r18, r19, r20, r21, r22, r23, r24, r25, r26, r27, r28, r29, r30, r31, k1, k2, qr12, tr12, qr14, tr14, qr15, tr15, qr16, tr16, qr17, tr17, szr17, qr26, tr26, qr27, tr27, qr28, tr28, _⟩ := kdg x1 x2 
 have mr12 : ∀ r ∈ r12, r.length = 2 := fun r hr => kbb _ r (tr12 r hr)
 have mr14 : ∀ r ∈ r14, r.length = 1 := fun r hr => kbb _ r (tr14 r hr)
 have mr15 : ∀ r ∈ r15, r.length = 1 := fun r hr => kbb _ r (tr15 r hr)
 have mr16 : ∀ r ∈ r16, r.length = 1 := fun r hr => kbb _ r (tr16 r hr)
 have br17 := kbc r17 tr17 szr17
 have nr17 := kqb r17
 have mr26 : ∀ r ∈ r26, r.length = 2 := fun r hr => kbb _ r (tr26 r hr)
 have mr27 : ∀ r ∈ r27, r.length = 5 := fun r hr => kbb _ r (tr27 r hr)
 have mr28 : ∀ r ∈ r28, r.length = 9 := fun r hr => kbb _ r (tr28 r hr)
 have f1 := kng r1 r2 r3 r4 r5 r6 r7 r8 r9 r10 r11 r12 r13 r14 r15 r16 r17 r18 r19 r20 r21 r22 r23 r24 r25 r26 r27 r28 r29 r30 mr12 qr12 mr14 qr14 mr15 qr15 mr16 qr16 tr17 szr17 qr17 mr26 qr26 mr27 qr27 mr28 qr28 (1) (by omega) (by omega)
 have f2 : decide (1 + 2 * (r12.length : Int) + 1 * (r14.length : Int) + 1 * (r15.length : Int) + 1 * (r16.length : Int) + kd r17 + 2 * (r26.length : Int) + 5 * (r27.length : Int) + 9 * (r28.length : Int) < 0) = false := decide_eq_false (by omega)
 have f3 := kmg r1 r2 r3 r4 r5 r6 r7 r8 r9 r10 r11 r12 r13 r14 r15 r16 r17 r18 r19 r20 r21 r22 r23 r24 r25 r26 r27 r28 r29 r30 mr12 qr12 mr14 qr14 mr15 qr15 mr16 qr16 tr17 szr17 qr17 mr26 qr26 mr27 qr27 mr28 qr28 (1) (by omega) (by omega)
 have f4 : decide (1 + 2 * (r12.length : Int) + 1 * (r14.length : Int) + 1 * (r15.length : Int) + 1 * (r16.length : Int) + kd r17 + 2 * (r26.length : Int) + 5 * (r27.length : Int) + 9 * (r28.length : Int) < 0) = false := decide_eq_false (by omega)
 simp only [t3, ta3, k1, k2, kig r1 r2 r3 r4 r5 r6 r7 r8 r9 r10 r11 r12 r13 r14 r15 r16 r17 r18 r19 r20 r21 r22 r23 r24 r25 r26 r27 r28 r29 r30 qr12 tr12 qr14 tr14 qr15 tr15 qr16 tr16 qr17 tr17 szr17 qr26 tr26 qr27 tr27 qr28 tr28, f1, f2, f3, f4, zr5, zo5, zr6, zo6, zr7, zo7, zr8, zo8, zr9, zo9, okR, isVs, isV, isD, isDs, isOs, resC, outC, nthR, nthO, cellsDV, nthD, asB, asI, asS, asL, bat, bta, bto, BEq.rfl, ka, bne_self_eq_false, bnt, bnf, Bool.or_self, Bool.or_false, Bool.false_or, decide_true, decide_false, bft, if_false, if_true]
end Go.Den.L3
