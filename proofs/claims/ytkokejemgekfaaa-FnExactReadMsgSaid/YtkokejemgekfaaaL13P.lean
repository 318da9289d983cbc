/- Plain laws about what the functions compute; no condition. -/
import Derived.Test.YtkokejemgekfaaaL13Tw
import Derived.IntWalk
set_option linter.unusedVariables false
set_option linter.unusedSimpArgs false
/- How twins are taken apart. -/
namespace Go.Den.L13
open Go Go.IntWalk
theorem chk_true (x : Rs) : chk true x = x := rfl
theorem chk_ok {b : Bool} (h : b = true) (x : Rs) : chk b x = x := by rw [h]; rfl
attribute [simp] chk_true okR isVs isV isD isDs isOs resC outC nthR nthO cellsDV nthD asB asI asS asL
theorem bool_some (a b : Bool) (h : a = b) : (some ([DV.one (.b a)], ([] : List (List D))) : Rs) = some ([.one (.b b)], []) := by rw [h]
theorem nil_toList : (⟨#[]⟩ : ByteArray).toList = [] := by rw [ByteArray.toList_eq]
theorem toList_nil (s : ByteArray) : s.toList = [] ↔ (s.size : Int) = 0 := by
  have e : s.size = s.data.toList.length := by rw [Array.length_toList]; rfl
  rw [ByteArray.toList_eq, e]
  cases s.data.toList <;> simp <;> omega
theorem toList_isEmpty (s : ByteArray) : s.toList.isEmpty = decide ((s.size : Int) = 0) := by
  rw [Bool.eq_iff_iff, List.isEmpty_iff, toList_nil]; simp
attribute [simp] nil_toList toList_nil toList_isEmpty
theorem KK_eq : KK = 18446744073709551616 := Classical.choose_spec (⟨2 ^ 64, rfl⟩ : ∃ n : Nat, n = 2 ^ 64)
theorem w64_in (n : Int) (h : -9223372036854775808 ≤ n ∧ n ≤ 9223372036854775807) : w64 n = n := i64_in n h
theorem getD_in {l : List (List D)} {i : Nat} (hi : i < l.length) : l.getD i [] = l[i] := by simp [List.getD, hi]
theorem getD_row {l : List (List D)} {es : List Sh} (h : ∀ r ∈ l, typL es r) {i : Nat} (hi : i < l.length) : typL es (l.getD i []) := by
  rw [getD_in hi]; exact h _ (List.getElem_mem hi)
theorem w64_succ (i : Nat) (h : i < 4611686018427387904) : w64 ((i : Int) + 1) = ((i + 1 : Nat) : Int) := by
  rw [w64_in _ (by omega)]; rfl
theorem within_eq (a b c : Int) : t62 a b c = some ([.one (.b (decide (b ≤ a) && decide (a ≤ c)))], []) := rfl
theorem in_eq (a b c : Int) : t60 a b c = some ([.one (.b (decide (b ≤ a) && decide (a ≤ c)))], []) := rfl
end Go.Den.L13

/- Sizes; copies of rows. -/
namespace Go.Den.L13
open Go
mutual
/-- What was found small enough. -/
def szdD : Sh → D → Prop
  | .b, _ => True
  | .i _, _ => True
  | .s, d => (asS d).size ≤ 1048576
  | .l es, d => (asL d).length ≤ 1048576 ∧ ∀ r ∈ asL d, szdL es r
def szdL : List Sh → List D → Prop
  | [], _ => True
  | e :: es, ds => szdD e (nthD ds 0) ∧ szdL es ds.tail
end
theorem mem_getD {l : List (List D)} {i : Nat} (h : i < l.length) : l.getD i [] ∈ l := by rw [getD_in h]; exact List.getElem_mem h
theorem nat_in {i n : Nat} (h : i < n) : decide ((i : Int) < (n : Int)) = true := by simp; omega
theorem nat_pos (i : Nat) : decide ((0 : Int) ≤ (i : Int)) = true := by simp
theorem modify_mid {α : Type} (f : α → α) : ∀ (a : List α) (x : α) (b : List α), (a ++ x :: b).modify a.length f = a ++ f x :: b
  | [], x, b => by simp
  | y :: a, x, b => by simp [modify_mid f a x b]
end Go.Den.L13

/- Types Entry EntryS Msg: sizes, copies, likeness (printed by fam.py). -/
namespace Go.Den.L13
open Go
abbrev shEntry : List Sh := [.i .i64, .s]
theorem Entry_row {r : List D} (h : typL shEntry r) : ∃ x1 x2, r = [.i .i64 x1, .s x2] ∧ x2.size ≤ maxLen := by
  obtain ⟨_, _, rfl, ⟨x1, rfl, _⟩, ⟨_, _, rfl, ⟨x2, rfl, wx2⟩, rfl⟩⟩ := h
  exact ⟨x1, x2, rfl, wx2⟩
theorem eqEntry_self (x1 : Int) (x2 : ByteArray)  : t117 x1 x2 x1 x2 = some ([.one (.b true)], []) := by
  simp only [t117, bne_self_eq_false, Bool.not_true, Bool.false_eq_true, if_false, okR, isVs, isV, isD, isDs, isOs, resC, outC, nthR, nthO, cellsDV, nthD, asB, asI, asS, asL, Bool.and_true, Bool.true_and, BEq.rfl, chk_true, decide_true]
theorem eqEntryS_loop (b0 b1 : Bool) (q1 : Int → Bool → Bool → Rs) (q2 : Int → Bool → SV → Rs) (h2 : ∀ a b c, q2 a b c = some ([.one (.b true)], [])) (l : List (List D)) (h : ∀ r ∈ l, typL shEntry r) (hl : l.length < 4611686018427387904) : ∀ (k i m : Nat) (v w : SV), i + k = l.length → k < m →
    la80o1 t117 l l b0 b1 q1 q2 m i v w = some ([.one (.b true)], []) := by
  intro k
  induction k with
  | zero =>
    intro i m v w e hm
    obtain ⟨m, rfl⟩ : ∃ m', m = m' + 1 := ⟨m - 1, by omega⟩
    have ei : decide ((i : Int) < (l.length : Int)) = false := by simp; omega
    simp only [la80o1, ei, h2]
    simp
  | succ k ih =>
    intro i m v w e hm
    obtain ⟨m, rfl⟩ : ∃ m', m = m' + 1 := ⟨m - 1, by omega⟩
    have hr := getD_row h (i := i) (by omega)
    obtain ⟨c1, c2, er, wc2⟩ := Entry_row hr
    have e1 : decide ((i : Int) < (l.length : Int)) = true := by simp; omega
    have e2 : decide ((0 : Int) ≤ (i : Int)) = true := by simp
    have ez : isRow z119 [.i .i64 c1, .s c2] = true := rfl
    have ew : okR zr117 zo117 (some ([.one (.b true)], [])) = true := rfl
    simp only [la80o1, e1, e2, Int.toNat_natCast, er, ez, nthD, asI, asS, asB, asL, eqEntry_self c1 c2, resC, nthR, cellsDV, ew, Bool.and_true, chk_true, if_true, Bool.not_true, Bool.false_eq_true, if_false]
    rw [w64_succ i (by omega)]
    exact ih (i + 1) m _ _ (by omega) (by omega)
theorem eqEntryS_self (l : List (List D)) (hl : l.length ≤ 1048576) (h : ∀ r ∈ l, typL shEntry r) : t80 l l = some ([.one (.b true)], []) := by
  have := eqEntryS_loop false false (fun _ _ _ => some ([.one (.b false)], [])) (fun _ _ _ => some ([.one (.b true)], [])) (fun _ _ _ => rfl) l h (by omega) l.length 0 KK .undef .undef (by omega) (by rw [KK_eq]; omega)
  simpa [t80, ta80] using this
theorem eqMsg_self (x1 : Int) (x2 : Int) (x3 : Int) (x4 : Int) (x5 : Int) (x6 : Int) (x7 : Int) (x8 : Bool) (x9 : List (List D)) (x10 : ByteArray) (wx9 : x9.length ≤ 1048576) (tx9 : ∀ r ∈ x9, typL shEntry r) : t40 x1 x2 x3 x4 x5 x6 x7 x8 x9 x10 x1 x2 x3 x4 x5 x6 x7 x8 x9 x10 = some ([.one (.b true)], []) := by
  simp only [t40, ta40, bne_self_eq_false, Bool.not_true, Bool.false_eq_true, if_false, eqEntryS_self x9 wx9 tx9, zr80, zo80, okR, isVs, isV, isD, isDs, isOs, resC, outC, nthR, nthO, cellsDV, nthD, asB, asI, asS, asL, Bool.and_true, Bool.true_and, BEq.rfl, chk_true, decide_true]
end Go.Den.L13

/- Places, batches. -/
namespace Go.Den.L13
open Go
theorem row_in {sh : List Sh} {l : List (List D)} (h : ∀ r ∈ l, typL sh r) (z : List D) (hz : ∀ r, typL sh r → isRow z r = true) (i : Nat) (hi : i < l.length) : isRow z (l.getD i []) = true := hz _ (getD_row h hi)
theorem entry_row : ∀ r, typL shEntry r → isRow z119 r = true := fun r h => by
  obtain ⟨a, b, rfl, _⟩ := Entry_row h; rfl
/-- A batch: terms that do not fall, up to t; none too long. -/
def runB (l : List (List D)) (t : Int) : Nat → Nat → Int → Bool
  | 0, _, _ => true
  | k + 1, i, p => decide (p ≤ asI (nthD (l.getD i []) 0) ∧ asI (nthD (l.getD i []) 0) ≤ t ∧ ((asS (nthD (l.getD i []) 1)).size : Int) ≤ 1600) && runB l t k (i + 1) (asI (nthD (l.getD i []) 0))
/-- A message that may be. -/
def placeB (a b : Int) : Bool := decide ((a = 0 ∧ b = 0) ∨ (1 ≤ a ∧ a ≤ 100000 ∧ 1 ≤ b ∧ b ≤ 100000))
theorem place_spec (a b : Int) : t73 a b = some ([.one (.b (placeB a b))], []) := by
  simp only [t73, ta73, in_eq, zr60, zo60, okR, isVs, isV, isD, isOs, resC, nthR, cellsDV, nthD, asB, Bool.and_true, Bool.true_or, chk_true]
  split <;> (apply bool_some; unfold placeB; rw [Bool.eq_iff_iff]; simp_all; try omega)
theorem place_impl (a b : Int) : t77 a b = some ([.one (.b (placeB a b))], []) := by
  simp only [t77, ta77, within_eq, zr62, zo62, okR, isVs, isV, isD, isOs, resC, nthR, cellsDV, nthD, asB, Bool.and_true, Bool.true_or, chk_true]
  apply bool_some; unfold placeB; rw [Bool.eq_iff_iff]; simp; omega
end Go.Den.L13

/- Marks. -/
namespace Go.Den.L13
open Go
theorem markText_loop (s7 : ByteArray) (b9 : Bool) (q1 : Int → ByteArray → Bool → Rs) (h1 : ∀ n (s : ByteArray) b, s.size ≤ 1000 → ∃ x, q1 n s b = some ([.one (.s x)], [])) : ∀ (k m : Nat) (n : Int) (s : ByteArray) (v : SV), 0 ≤ n → n < 10 ^ k → n < 4611686018427387904 → k < m → s.size + k ≤ 1000 →
    ∃ x, l98o1 s7 b9 q1 m n s v = some ([.one (.s x)], []) := by
  intro k
  induction k with
  | zero =>
    intro m n s v h0 hn h2 hm hs
    obtain ⟨m, rfl⟩ : ∃ m', m = m' + 1 := ⟨m - 1, by omega⟩
    have e : decide (n > 0) = false := by simp; omega
    simp only [l98o1, e, Bool.false_eq_true, if_false]
    exact h1 _ _ _ (by omega)
  | succ k ih =>
    intro m n s v h0 hn h2 hm hs
    obtain ⟨m, rfl⟩ : ∃ m', m = m' + 1 := ⟨m - 1, by omega⟩
    by_cases e : n > 0
    · have e' : decide (n > 0) = true := decide_eq_true e
      have hb : ∀ x : Int, isBytes [[D.i .u8 x]] = true := fun _ => rfl
      have hz : ∀ x : Int, (⟨(bytesD [[D.i .u8 x]]).toArray⟩ : ByteArray).size = 1 := fun _ => rfl
      simp only [l98o1, e', if_true, hb, chk_true, hz]
      rw [chk_ok (decide_eq_true (by unfold lim; omega)), Int.tdiv_eq_ediv_of_nonneg h0, w64_in (n / 10) (by omega)]
      refine ih m (n / 10) _ _ (by omega) ?_ (by omega) (by omega) (by rw [ByteArray.size_append, hz]; omega)
      rw [Int.ediv_lt_iff_lt_mul (by omega)]
      rw [Int.pow_succ] at hn
      exact hn
    · have e' : decide (n > 0) = false := decide_eq_false e
      simp only [l98o1, e', Bool.false_eq_true, if_false]
      exact h1 _ _ _ (by omega)
noncomputable def mkT (k : Int) : ByteArray := asS (resC (t98 k) 0 0)
theorem markText_eq (k : Int) (h : k < 4611686018427387904) : t98 k = some ([.one (.s (mkT k))], []) := by
  have : ∃ x, t98 k = some ([.one (.s x)], []) := by
    unfold t98
    by_cases e : k ≤ 0
    · have e' : decide (k ≤ 0) = true := decide_eq_true e
      simp only [e', if_true]; exact ⟨_, rfl⟩
    · have e' : decide (k ≤ 0) = false := decide_eq_false e
      simp only [e', Bool.false_eq_true, if_false]
      refine markText_loop _ _ _ ?_ 20 KK k _ _ (by omega) (by omega) h (by rw [KK_eq]; omega) (by show 0 + 20 ≤ 1000; omega)
      intro n s b hs
      have e0 : (⟨#[109]⟩ : ByteArray).size = 1 := rfl
      simp only [e0]
      rw [chk_ok (decide_eq_true (by unfold lim; omega))]
      exact ⟨_, rfl⟩
  obtain ⟨x, hx⟩ := this
  have : mkT k = x := by unfold mkT; rw [hx]; rfl
  rw [this, hx]
theorem markText_w {x : ByteArray} : okR zr98 zo98 (some ([.one (.s x)], [])) = true := rfl
theorem markText_r {x : ByteArray} : asS (resC (some ([.one (.s x)], [])) 0 0) = x := rfl
theorem stR_mid (a b : List (List D)) (r ys : List D) (i off : Nat) (h : i = a.length) : stR (a ++ r :: b) i off ys = a ++ (r.take off ++ ys ++ r.drop (off + ys.length)) :: b := by
  subst h; unfold stR; exact modify_mid _ a r b
theorem getD_mid (a b : List (List D)) (r : List D) (i : Nat) (h : i = a.length) : (a ++ r :: b).getD i [] = r := by
  subst h; simp [List.getD]
theorem typL_len : ∀ (es : List Sh) (r : List D), typL es r → r.length = es.length
  | [], r, h => by rw [show r = [] from h]; rfl
  | e :: es, r, h => by
    obtain ⟨d, r', rfl, _, h⟩ := h
    simp only [List.length_cons, typL_len es r' h]
end Go.Den.L13

/- Marks laid and held. Printed by mark.py. -/
namespace Go.Den.L13
open Go
theorem st2_0 (a b : List (List D)) (i : Nat) (h : i = a.length) (c1 c2 d : D) : stR (a ++ [c1, c2] :: b) i 0 [d] = a ++ [d, c2] :: b := stR_mid a b _ _ i 0 h
theorem st2_1 (a b : List (List D)) (i : Nat) (h : i = a.length) (c1 c2 d : D) : stR (a ++ [c1, c2] :: b) i 1 [d] = a ++ [c1, d] :: b := stR_mid a b _ _ i 1 h
theorem len2 {r : List D} (h : r.length = 2) : ∃ c1 c2, r = [c1, c2] := by
  match r, h with
  | [c1, c2], _ => exact ⟨c1, c2, rfl⟩
noncomputable def rowMEntryS (k : Int) : List D := [.i .i64 (k), .s (mkT (k + 1))]
noncomputable def markedEntryS : Int → List (List D) → List (List D)
  | _, [] => []
  | k, _ :: b => rowMEntryS k :: markedEntryS (k + 1 + 1) b
theorem markEntryS_loop (n8 : Int) (q : Int → Int → Bool → List (List D) → Rs) (hq : ∀ a b c d, q a b c d = some ([.one (.i .i64 a)], [[.l d]])) : ∀ (b a : List (List D)) (m : Nat) (k : Int) (v10 : SV), (∀ r ∈ b, r.length = 2) → b.length < m → a.length + b.length ≤ 4000000 → 0 ≤ k → k + 2 * (b.length : Int) ≤ 4000000000000000000 →
    la100o0 t98 n8 q m k (a.length : Int) v10 (a ++ b) = some ([.one (.i .i64 (k + 2 * (b.length : Int)))], [[.l (a ++ markedEntryS k b)]]) := by
  intro b
  induction b with
  | nil =>
    intro a m k v10 h hm hl h0 hk
    obtain ⟨m, rfl⟩ : ∃ m', m = m' + 1 := ⟨m - 1, by omega⟩
    have e : decide ((a.length : Int) < ((a ++ ([] : List (List D))).length : Int)) = false := by simp
    have e2 : k + 2 * ((([] : List (List D)).length : Nat) : Int) = k := by simp
    simp only [la100o0, e, Bool.false_eq_true, if_false, hq, e2, markedEntryS]
  | cons r b ih =>
    intro a m k v10 h hm hl h0 hk
    obtain ⟨m, rfl⟩ : ∃ m', m = m' + 1 := ⟨m - 1, by omega⟩
    simp only [List.length_cons] at hm hl hk
    obtain ⟨c1, c2, rfl⟩ := len2 (h r (List.mem_cons_self ..))
    have hb : ∀ r ∈ b, r.length = 2 := fun r hr => h r (List.mem_cons_of_mem _ hr)
    have e1 : ∀ r : List D, decide ((a.length : Int) < ((a ++ r :: b).length : Int)) = true := fun r => decide_eq_true (by simp; omega)
    have e0 : decide (0 ≤ (a.length : Int)) = true := decide_eq_true (by omega)
    have p1 : ∀ r : List D, decide (1 ≤ 2 ∧ a.length < (a ++ r :: b).length) = true := fun r => decide_eq_true (by simp)
    have p2 : ∀ r : List D, decide (2 ≤ 2 ∧ a.length < (a ++ r :: b).length) = true := fun r => decide_eq_true (by simp)
    have u1 : w64 (k + 1) = k + 1 := w64_in _ (by omega)
    have u2 : w64 (k + 1 + 1) = k + 1 + 1 := w64_in _ (by omega)
    have t1 := markText_eq (k + 1) (by omega)
    have hw := w64_succ a.length (by omega)
    simp only [la100o0, e1, e0, if_true, Int.toNat_natCast, p1, p2, u1, u2, t1, markText_w, markText_r, st2_0 a b _ rfl, st2_1 a b _ rfl, Bool.and_true, chk_true, hw]
    have := fun (z0 : SV) => ih (a ++ [rowMEntryS k]) m (k + 1 + 1) z0 hb (by omega) (by simp; omega) (by omega) (by omega)
    have e3 : (a ++ [rowMEntryS k]).length = a.length + 1 := by simp
    simp only [e3, List.append_assoc] at this
    have e4 : k + 2 * ((([c1, c2] :: b).length : Nat) : Int) = k + 1 + 1 + 2 * (b.length : Int) := by simp only [List.length_cons]; omega
    have e5 : a ++ markedEntryS k ([c1, c2] :: b) = (a ++ [rowMEntryS k]) ++ markedEntryS (k + 1 + 1) b := by simp [markedEntryS]
    rw [e4, e5, List.append_assoc]
    exact this _
theorem markEntryS_eq (l : List (List D)) (h : ∀ r ∈ l, r.length = 2) (hl : l.length ≤ 4000000) (k : Int) (h0 : 0 ≤ k) (hk : k + 2 * (l.length : Int) ≤ 4000000000000000000) : t100 l k = some ([.one (.i .i64 (k + 2 * (l.length : Int)))], [[.l (markedEntryS k l)]]) := by
  unfold t100 ta100
  exact markEntryS_loop _ _ (fun _ _ _ _ => rfl) l [] KK k _ h (by rw [KK_eq]; omega) (by simpa using hl) h0 hk
theorem heldEntryS_loop (n9 : Int) (q1 : Int → Int → Bool → Bool → SV → Rs) (q2 : Int → Int → Bool → Bool → Bool → Rs) (q3 : Int → Int → Bool → SV → SV → Rs) (hq : ∀ x0 x1 x2 x3 x4, q3 x0 x1 x2 x3 x4 = some ([.one (.i .i64 x0)], [])) : ∀ (b a : List (List D)) (m : Nat) (k : Int) (v11 v12 v13 : SV) (L : List (List D)) (i : Int), L = a ++ markedEntryS k b → i = (a.length : Int) → b.length < m → a.length + b.length ≤ 4000000 → 0 ≤ k → k + 2 * (b.length : Int) ≤ 4000000000000000000 →
    la101o0 t98 L n9 q1 q2 q3 m k i v11 v12 v13 = some ([.one (.i .i64 (k + 2 * (b.length : Int)))], []) := by
  intro b
  induction b with
  | nil =>
    intro a m k v11 v12 v13 L i hL hi hm hl h0 hk
    subst hL hi
    obtain ⟨m, rfl⟩ : ∃ m', m = m' + 1 := ⟨m - 1, by omega⟩
    have e : decide ((a.length : Int) < ((a ++ ([] : List (List D))).length : Int)) = false := by simp
    have e2 : k + 2 * ((([] : List (List D)).length : Nat) : Int) = k := by simp
    rw [show markedEntryS k [] = [] from rfl]
    simp only [la101o0, e, Bool.false_eq_true, if_false, hq, e2]
  | cons r b ih =>
    intro a m k v11 v12 v13 L i hL hi hm hl h0 hk
    subst hL hi
    obtain ⟨m, rfl⟩ : ∃ m', m = m' + 1 := ⟨m - 1, by omega⟩
    simp only [List.length_cons] at hm hl hk
    have e1 : ∀ (r : List D) (b : List (List D)), decide ((a.length : Int) < ((a ++ r :: b).length : Int)) = true := fun r b => decide_eq_true (by simp; omega)
    have e0 : decide (0 ≤ (a.length : Int)) = true := decide_eq_true (by omega)
    have eg : ∀ (r : List D) (b : List (List D)), (a ++ r :: b).getD a.length [] = r := fun r b => getD_mid a b r _ rfl
    have u1 : w64 (k + 1) = k + 1 := w64_in _ (by omega)
    have u2 : w64 (k + 1 + 1) = k + 1 + 1 := w64_in _ (by omega)
    have t1 := markText_eq (k + 1) (by omega)
    have hw := w64_succ a.length (by omega)
    have this := fun (z0 : SV) (z1 : SV) (z2 : SV) => ih (a ++ [rowMEntryS k]) m (k + 1 + 1) z0 z1 z2 _ _ rfl rfl (by omega) (by simp; omega) (by omega) (by omega)
    have e3 : (a ++ [rowMEntryS k]).length = a.length + 1 := by simp
    simp only [e3, List.append_assoc] at this
    have e4 : k + 2 * (((r :: b).length : Nat) : Int) = k + 1 + 1 + 2 * (b.length : Int) := by simp only [List.length_cons]; omega
    have e5 : a ++ markedEntryS k (r :: b) = a ++ rowMEntryS k :: markedEntryS (k + 1 + 1) b := rfl
    rw [e5]
    have ez : isRow z119 (rowMEntryS k) = true := rfl
    have d0 : asI (nthD (rowMEntryS k) 0) = k := rfl
    have d1 : asS (nthD (rowMEntryS k) 1) = mkT (k + 1) := rfl
    simp only [la101o0, e1, e0, if_true, Int.toNat_natCast, eg, ez, d0, d1, u1, u2, t1, markText_w, markText_r, bne_self_eq_false, beq_self_eq_true, Bool.not_true, Bool.false_eq_true, if_false, Bool.and_true, chk_true, hw]
    rw [e4]
    exact this _ _ _
theorem heldEntryS_eq (l : List (List D)) (hl : l.length ≤ 4000000) (k : Int) (h0 : 0 ≤ k) (hk : k + 2 * (l.length : Int) ≤ 4000000000000000000) : t101 (markedEntryS k l) k = some ([.one (.i .i64 (k + 2 * (l.length : Int)))], []) := by
  unfold t101 ta101
  exact heldEntryS_loop _ _ _ _ (fun _ _ _ _ _ => rfl) l [] KK k _ _ _ _ _ rfl rfl (by rw [KK_eq]; omega) (by simpa using hl) h0 hk
theorem markMsg_eq (x1 : Int) (x2 : Int) (x3 : Int) (x4 : Int) (x5 : Int) (x6 : Int) (x7 : Int) (x8 : Bool) (x9 : List (List D)) (x10 : ByteArray) (mx9 : ∀ r ∈ x9, r.length = 2) (wx9 : x9.length ≤ 1048576) (k : Int) (h0 : 0 ≤ k) (hk : k ≤ 1000000000000) : t56 x1 x2 x3 x4 x5 x6 x7 x8 x9 x10 k = some ([.one (.i .i64 (k + 2 * (x9.length : Int)))], [[.i .i64 x1, .i .i64 x2, .i .i64 x3, .i .i64 x4, .i .i64 x5, .i .i64 x6, .i .i64 x7, .b x8, .l (markedEntryS (k) x9), .s x10]]) := by
  simp only [t56, ta56, markEntryS_eq x9 mx9 (by omega) (k) (by omega) (by omega), zr100, zo100, okR, isVs, isV, isD, isDs, isOs, resC, outC, nthR, nthO, cellsDV, nthD, asB, asI, asS, asL, Bool.and_true, Bool.true_and, BEq.rfl, chk_true, decide_true]
theorem heldMsg_eq (x1 : Int) (x2 : Int) (x3 : Int) (x4 : Int) (x5 : Int) (x6 : Int) (x7 : Int) (x8 : Bool) (x9 : List (List D)) (x10 : ByteArray) (mx9 : ∀ r ∈ x9, r.length = 2) (wx9 : x9.length ≤ 1048576) (k : Int) (h0 : 0 ≤ k) (hk : k ≤ 1000000000000) : t57 x1 x2 x3 x4 x5 x6 x7 x8 (markedEntryS (k) x9) x10 k = some ([.one (.i .i64 (k + 2 * (x9.length : Int)))], []) := by
  have n0 : decide (k + 2 * (x9.length : Int) < 0) = false := decide_eq_false (by omega)
  simp only [t57, ta57, heldEntryS_eq x9 (by omega) (k) (by omega) (by omega), zr101, zo101, n0, Bool.false_eq_true, if_false, okR, isVs, isV, isD, isDs, isOs, resC, outC, nthR, nthO, cellsDV, nthD, asB, asI, asS, asL, Bool.and_true, Bool.true_and, BEq.rfl, chk_true, decide_true]
end Go.Den.L13

/- Messages. -/
namespace Go.Den.L13
open Go
theorem sameEs_nil (l : List (List D)) : t114 l [] = some ([.one (.b (decide (l.length = 0)))], []) := by
  obtain ⟨k, hk⟩ : ∃ k, KK = k + 1 := ⟨KK - 1, by rw [KK_eq]⟩
  unfold t114
  rw [hk]
  cases l with
  | nil => simp [l114o1]
  | cons r l => simp [bne]; omega
theorem sameEi_nil (l : List (List D)) : t116 l [] = some ([.one (.b (decide (l.length = 0)))], []) := by
  obtain ⟨k, hk⟩ : ∃ k, KK = k + 1 := ⟨KK - 1, by rw [KK_eq]⟩
  unfold t116
  rw [hk]
  cases l with
  | nil => simp [l116o1]
  | cons r l => simp [bne]; omega
theorem sameEs_loop (b0 b1 : Bool) (q1 : Int → Bool → Bool → Rs) (q2 : Int → Bool → SV → Rs) (h2 : ∀ a b c, q2 a b c = some ([.one (.b true)], [])) (l : List (List D)) (h : ∀ r ∈ l, typL shEntry r) (hl : l.length < 4611686018427387904) : ∀ (k i m : Nat) (v w : SV), i + k = l.length → k < m →
    l114o1 l l b0 b1 q1 q2 m i v w = some ([.one (.b true)], []) := by
  intro k
  induction k with
  | zero =>
    intro i m v w e hm
    obtain ⟨m, rfl⟩ : ∃ m', m = m' + 1 := ⟨m - 1, by omega⟩
    have ei : decide ((i : Int) < (l.length : Int)) = false := by simp; omega
    simp only [l114o1, ei, h2]
    simp
  | succ k ih =>
    intro i m v w e hm
    obtain ⟨m, rfl⟩ : ∃ m', m = m' + 1 := ⟨m - 1, by omega⟩
    have e1 := nat_in (i := i) (n := l.length) (by omega)
    have ez := row_in h _ entry_row i (by omega)
    simp only [l114o1, e1, nat_pos, Int.toNat_natCast, ez, BEq.rfl, Bool.and_true, chk_true, if_true, Bool.not_true, Bool.false_eq_true, if_false]
    rw [w64_succ i (by omega)]
    exact ih (i + 1) m _ _ (by omega) (by omega)
theorem sameEs_self (l : List (List D)) (hl : l.length ≤ 1048576) (h : ∀ r ∈ l, typL shEntry r) : t114 l l = some ([.one (.b true)], []) := by
  have := sameEs_loop false false (fun _ _ _ => some ([.one (.b false)], [])) (fun _ _ _ => some ([.one (.b true)], [])) (fun _ _ _ => rfl) l h (by omega) l.length 0 KK .undef .undef (by omega) (by rw [KK_eq]; omega)
  simpa [t114] using this
theorem sameEi_loop (b0 b1 : Bool) (q1 : Int → Bool → Bool → Rs) (q2 : SV → Int → Bool → SV → Rs) (h2 : ∀ a b c d, q2 a b c d = some ([.one (.b true)], [])) (l : List (List D)) (h : ∀ r ∈ l, typL shEntry r) (hl : l.length < 4611686018427387904) : ∀ (k i m : Nat) (u v w : SV), i + k = l.length → k < m →
    l116o1 l l b0 b1 (l.length : Int) q1 q2 m u i v w = some ([.one (.b true)], []) := by
  intro k
  induction k with
  | zero =>
    intro i m u v w e hm
    obtain ⟨m, rfl⟩ : ∃ m', m = m' + 1 := ⟨m - 1, by omega⟩
    have ei : decide ((i : Int) < (l.length : Int)) = false := by simp; omega
    simp only [l116o1, ei, h2]
    simp
  | succ k ih =>
    intro i m u v w e hm
    obtain ⟨m, rfl⟩ : ∃ m', m = m' + 1 := ⟨m - 1, by omega⟩
    have e1 := nat_in (i := i) (n := l.length) (by omega)
    have ez := row_in h _ entry_row i (by omega)
    simp only [l116o1, e1, nat_pos, Int.toNat_natCast, ez, BEq.rfl, Bool.and_true, chk_true, if_true, Bool.not_true, Bool.false_eq_true, if_false]
    rw [w64_succ i (by omega)]
    exact ih (i + 1) m _ _ _ (by omega) (by omega)
theorem sameEi_self (l : List (List D)) (hl : l.length ≤ 1048576) (h : ∀ r ∈ l, typL shEntry r) : t116 l l = some ([.one (.b true)], []) := by
  have := sameEi_loop false false (fun _ _ _ => some ([.one (.b false)], [])) (fun _ _ _ _ => some ([.one (.b true)], [])) (fun _ _ _ _ => rfl) l h (by omega) l.length 0 KK .undef .undef .undef (by omega) (by rw [KK_eq]; omega)
  simpa [t116] using this
theorem run_loop (t : Int) (b0 b1 : Bool) (q1 : Int → Int → Bool → Bool → Rs) (q2 : Int → Int → Bool → SV → Rs) (h1 : ∀ a b c d, q1 a b c d = some ([.one (.b false)], [])) (h2 : ∀ a b c d, q2 a b c d = some ([.one (.b true)], [])) (l : List (List D)) (h : ∀ r ∈ l, typL shEntry r) (hl : l.length < 4611686018427387904) : ∀ (k i m : Nat) (p : Int) (v w : SV), i + k = l.length → k < m →
    la74o1 t60 l t b0 b1 q1 q2 m p i v w = some ([.one (.b (runB l t k i p))], []) := by
  intro k
  induction k with
  | zero =>
    intro i m p v w e hm
    obtain ⟨m, rfl⟩ : ∃ m', m = m' + 1 := ⟨m - 1, by omega⟩
    have ei : decide ((i : Int) < (l.length : Int)) = false := by simp; omega
    simp only [la74o1, ei, h2, runB]
    simp
  | succ k ih =>
    intro i m p v w e hm
    obtain ⟨m, rfl⟩ : ∃ m', m = m' + 1 := ⟨m - 1, by omega⟩
    have e1 := nat_in (i := i) (n := l.length) (by omega)
    have ez := row_in h _ entry_row i (by omega)
    have ew : ∀ x, okR zr60 zo60 (some ([.one (.b x)], [])) = true := fun _ => rfl
    have eb : ∀ x, asB (resC (some ([.one (.b x)], [])) 0 0) = x := fun _ => rfl
    simp only [la74o1, e1, nat_pos, Int.toNat_natCast, ez, in_eq, ew, eb, Bool.and_true, Bool.true_or, chk_true, if_true, runB]
    rw [w64_succ i (by omega)]
    by_cases g : p ≤ asI (nthD (l.getD i []) 0) ∧ asI (nthD (l.getD i []) 0) ≤ t ∧ ((asS (nthD (l.getD i []) 1)).size : Int) ≤ 1600
    · have g1 : (!(decide (p ≤ asI (nthD (l.getD i []) 0)) && decide (asI (nthD (l.getD i []) 0) ≤ t)) || decide (((asS (nthD (l.getD i []) 1)).size : Int) > 1600)) = false := by
        simp only [Bool.or_eq_false_iff, Bool.not_eq_false', Bool.and_eq_true, decide_eq_false_iff_not, decide_eq_true_eq]; omega
      simp only [g1, decide_eq_true g, Bool.true_and, Bool.false_eq_true, if_false]
      exact ih (i + 1) m _ _ _ (by omega) (by omega)
    · have g1 : (!(decide (p ≤ asI (nthD (l.getD i []) 0)) && decide (asI (nthD (l.getD i []) 0) ≤ t)) || decide (((asS (nthD (l.getD i []) 1)).size : Int) > 1600)) = true := by
        simp only [Bool.or_eq_true, Bool.not_eq_true', Bool.and_eq_false_iff, decide_eq_false_iff_not, decide_eq_true_eq]; omega
      simp only [g1, if_true, h1, decide_eq_false g, Bool.false_and]
theorem run_spec (l : List (List D)) (hl : l.length ≤ 1048576) (h : ∀ r ∈ l, typL shEntry r) (p t : Int) : t74 l p t = some ([.one (.b (runB l t l.length 0 (if p < 1 then 1 else p)))], []) := by
  have := fun q => run_loop t false (decide (p < 1)) (fun _ _ _ _ => some ([.one (.b false)], [])) (fun _ _ _ _ => some ([.one (.b true)], [])) (fun _ _ _ _ => rfl) (fun _ _ _ _ => rfl) l h (by omega) l.length 0 KK q .undef .undef (by omega) (by rw [KK_eq]; omega)
  by_cases g : p < 1
  · simpa [t74, ta74, g] using this 1
  · simpa [t74, ta74, g] using this p
theorem batch_loop (n1 n2 n3 n4 n5 n6 n7 : Int) (b8 : Bool) (l9 : List (List D)) (s10 : ByteArray) (b0 : Bool) (q1 : Int → Int → Bool → Bool → Int → ByteArray → Rs) (q2 : Int → Int → Bool → SV → Rs) (g : Bool) (h1 : ∀ a b c d e f, q1 a b c d e f = some ([.one (.b false)], [])) (h2 : ∀ a b c d, q2 a b c d = some ([.one (.b g)], [])) (l : List (List D)) (h : ∀ r ∈ l, typL shEntry r) (hl : l.length < 4611686018427387904) : ∀ (k i m : Nat) (p : Int) (v w : SV), i + k = l.length → k < m →
    la78o0 t62 n1 n2 n3 n4 n5 n6 n7 b8 l9 s10 b0 l (l.length : Int) q1 q2 m p i v w = some ([.one (.b (runB l n4 k i p && g))], []) := by
  intro k
  induction k with
  | zero =>
    intro i m p v w e hm
    obtain ⟨m, rfl⟩ : ∃ m', m = m' + 1 := ⟨m - 1, by omega⟩
    have ei : decide ((i : Int) < (l.length : Int)) = false := by simp; omega
    simp only [la78o0, ei, h2, runB]
    simp
  | succ k ih =>
    intro i m p v w e hm
    obtain ⟨m, rfl⟩ : ∃ m', m = m' + 1 := ⟨m - 1, by omega⟩
    have e1 := nat_in (i := i) (n := l.length) (by omega)
    have ez := row_in h _ entry_row i (by omega)
    have ew : ∀ x, okR zr62 zo62 (some ([.one (.b x)], [])) = true := fun _ => rfl
    have eb : ∀ x, asB (resC (some ([.one (.b x)], [])) 0 0) = x := fun _ => rfl
    simp only [la78o0, e1, nat_pos, Int.toNat_natCast, ez, within_eq, ew, eb, Bool.and_true, Bool.true_or, chk_true, if_true, runB]
    rw [w64_succ i (by omega)]
    by_cases g' : p ≤ asI (nthD (l.getD i []) 0) ∧ asI (nthD (l.getD i []) 0) ≤ n4 ∧ ((asS (nthD (l.getD i []) 1)).size : Int) ≤ 1600
    · have g1 : (decide (((asS (nthD (l.getD i []) 1)).size : Int) > 1600) || !(decide (p ≤ asI (nthD (l.getD i []) 0)) && decide (asI (nthD (l.getD i []) 0) ≤ n4))) = false := by
        simp only [Bool.or_eq_false_iff, Bool.not_eq_false', Bool.and_eq_true, decide_eq_false_iff_not, decide_eq_true_eq]; omega
      simp only [g1, decide_eq_true g', Bool.true_and, Bool.false_eq_true, if_false]
      exact ih (i + 1) m _ _ _ (by omega) (by omega)
    · have g1 : (decide (((asS (nthD (l.getD i []) 1)).size : Int) > 1600) || !(decide (p ≤ asI (nthD (l.getD i []) 0)) && decide (asI (nthD (l.getD i []) 0) ≤ n4))) = true := by
        simp only [Bool.or_eq_true, Bool.not_eq_true', Bool.and_eq_false_iff, decide_eq_false_iff_not, decide_eq_true_eq]; omega
      simp only [g1, if_true, h1, decide_eq_false g', Bool.false_and]
theorem batch_impl (n1 n2 n3 n4 n5 n6 n7 : Int) (b8 : Bool) (l : List (List D)) (s10 : ByteArray) (hl : l.length ≤ 1048576) (h : ∀ r ∈ l, typL shEntry r) : t78 n1 n2 n3 n4 n5 n6 n7 b8 l s10 = some ([.one (.b (runB l n4 l.length 0 (if n6 < 1 then 1 else n6) && (decide ((l.length : Int) ≤ 4) && decide (w64 (n5 + (l.length : Int)) ≤ 100000))))], []) := by
  have := batch_loop n1 n2 n3 n4 n5 n6 n7 b8 l s10 false (fun _ _ _ _ _ _ => some ([.one (.b false)], [])) (fun _ _ _ _ => some ([.one (.b (decide ((l.length : Int) ≤ 4) && decide (w64 (n5 + (l.length : Int)) ≤ 100000)))], [])) _ (fun _ _ _ _ _ _ => rfl) (fun _ _ _ _ => rfl) l h (by omega) l.length 0 KK (if n6 < 1 then 1 else n6) .undef .undef (by omega) (by rw [KK_eq]; omega)
  have e : (if n6 > 1 then n6 else 1) = (if n6 < 1 then 1 else n6) := by split <;> split <;> omega
  unfold t78 ta78
  rw [e]
  exact this
theorem same_spec {n1 n2 n3 n4 n5 n6 n7 : Int} {b8 : Bool} {l9 : List (List D)} {s10 : ByteArray} {m1 m2 m3 m4 m5 m6 m7 : Int} {c8 : Bool} {k9 : List (List D)} {r10 : ByteArray} {e : Bool} (h : t114 l9 k9 = some ([.one (.b e)], [])) :
    t75 n1 n2 n3 n4 n5 n6 n7 b8 l9 s10 m1 m2 m3 m4 m5 m6 m7 c8 k9 r10 = some ([.one (.b (n1 == m1 && (n2 == m2 && (n3 == m3 && (n4 == m4 && (n5 == m5 && (n6 == m6 && (n7 == m7 && (b8 == c8 && (e && (s10.toList == r10.toList))))))))))) ], []) := by
  simp only [t75, ta75, h, zr114, zo114, okR, isVs, isV, isD, isOs, resC, nthR, cellsDV, nthD, asB, Bool.and_true, chk_true]
  split
  · apply bool_some
    rename_i g
    cases e
    · simp
    · simp at g
      simp
      intro a1 a2 a3 a4 a5 a6 a7 a8 a9
      simp_all
  · apply bool_some
    rename_i g
    simp at g
    obtain ⟨⟨⟨⟨⟨⟨⟨⟨g1, g2⟩, g3⟩, g4⟩, g5⟩, g6⟩, g7⟩, g8⟩, g9⟩ := g
    simp [g1, g2, g3, g4, g5, g6, g7, g8, g9]
theorem same_impl {n1 n2 n3 n4 n5 n6 n7 : Int} {b8 : Bool} {l9 : List (List D)} {s10 : ByteArray} {m1 m2 m3 m4 m5 m6 m7 : Int} {c8 : Bool} {k9 : List (List D)} {r10 : ByteArray} {e : Bool} (h : t116 l9 k9 = some ([.one (.b e)], [])) :
    t79 n1 n2 n3 n4 n5 n6 n7 b8 l9 s10 m1 m2 m3 m4 m5 m6 m7 c8 k9 r10 = some ([.one (.b (n1 == m1 && (n2 == m2 && (n3 == m3 && (n4 == m4 && (n5 == m5 && (n6 == m6 && (n7 == m7 && (b8 == c8 && (e && (s10.toList == r10.toList))))))))))) ], []) := by
  simp only [t79, ta79, h, zr116, zo116, okR, isVs, isV, isD, isOs, resC, nthR, cellsDV, nthD, asB, Bool.and_true, Bool.true_or, chk_true, Bool.and_assoc]
theorem server_eq (a : Int) : t72 a = some ([.one (.b (decide (0 ≤ a) && decide (a ≤ 4)))], []) := rfl
def msgOk (n1 n2 n3 n4 n5 n6 n7 : Int) (b8 : Bool) (l9 : List (List D)) (s10 : ByteArray) : Bool :=
  (((decide (0 ≤ n2) && decide (n2 ≤ 4)) && (decide (0 ≤ n3) && decide (n3 ≤ 4))) && (n2 != n3)) && ((decide (1 ≤ n4) && decide (n4 ≤ 100000)) &&
  (if n1 = 1 then placeB n5 n6 && (decide (n6 ≤ n4 ∧ n7 = 0 ∧ l9.length = 0 ∧ (s10.size : Int) = 0) && !b8)
   else if n1 = 2 then decide (n5 = 0 ∧ n6 = 0 ∧ n7 = 0 ∧ l9.length = 0 ∧ (s10.size : Int) = 0)
   else if n1 = 3 then placeB n5 n6 && (decide (n6 ≤ n4 ∧ 0 ≤ n7 ∧ n7 ≤ 100000 ∧ l9.length ≤ 4 ∧ w64 (n5 + (l9.length : Int)) ≤ 100000 ∧ (s10.size : Int) = 0) && (!b8 && runB l9 n4 l9.length 0 (if n6 < 1 then 1 else n6)))
   else if n1 = 4 then decide (0 ≤ n5 ∧ n5 ≤ 100000 ∧ n6 = 0 ∧ n7 = 0 ∧ l9.length = 0 ∧ (s10.size : Int) = 0)
   else if n1 = 5 then decide (1 ≤ n5 ∧ n5 ≤ 100000 ∧ 1 ≤ n6 ∧ n6 ≤ n4 ∧ n7 = 0 ∧ l9.length = 0 ∧ (s10.size : Int) ≤ 20000) && !b8
   else false))
theorem msgOk_spec (n1 n2 n3 n4 n5 n6 n7 : Int) (b8 : Bool) (l9 : List (List D)) (s10 : ByteArray) (hl : l9.length ≤ 1048576) (h : ∀ r ∈ l9, typL shEntry r) : t37 n1 n2 n3 n4 n5 n6 n7 b8 l9 s10 = some ([.one (.b (msgOk n1 n2 n3 n4 n5 n6 n7 b8 l9 s10))], []) := by
  simp only [t37, ta37, server_eq, in_eq, place_spec, same_spec (sameEs_nil l9), same_spec (sameEs_self l9 hl h), run_spec l9 hl h, zr72, zo72, zr60, zo60, zr73, zo73, zr75, zo75, zr74, zo74, okR, isVs, isV, isD, isOs, resC, nthR, cellsDV, nthD, asB, Bool.and_true, Bool.true_or, chk_true]
  unfold msgOk
  generalize runB l9 n4 l9.length 0 (if n6 < 1 then 1 else n6) = ru
  generalize placeB n5 n6 = pl
  generalize (((decide (0 ≤ n2) && decide (n2 ≤ 4)) && (decide (0 ≤ n3) && decide (n3 ≤ 4))) && (n2 != n3)) = sv
  generalize (decide (1 ≤ n4) && decide (n4 ≤ 100000)) = tm
  cases sv
  · simp only [Bool.false_and, Bool.false_eq_true, if_false, Bool.not_false, Bool.or_true, chk_true]
    (repeat' split) <;> rfl
  cases tm
  · simp only [Bool.and_false, Bool.false_and, Bool.true_and, Bool.false_eq_true, if_false, if_true, Bool.not_false, Bool.or_true, chk_true]
    (repeat' split) <;> rfl
  simp only [Bool.true_and, if_true]
  by_cases k1 : n1 = 1
  · subst k1
    simp only [show ((1 : Int) == 1) = true from rfl, if_true]
    cases ru <;> cases pl <;> cases b8 <;> (apply bool_some; rw [Bool.eq_iff_iff]; simp [-ByteArray.size_eq_zero_iff, -List.length_eq_zero_iff]; try omega)
  have j1 : (n1 == 1) = false := by simpa using k1
  by_cases k2 : n1 = 2
  · subst k2
    simp only [j1, k1, show ((2 : Int) == 2) = true from rfl, Bool.false_eq_true, if_false, if_true]
    cases ru <;> cases pl <;> cases b8 <;> (apply bool_some; rw [Bool.eq_iff_iff]; simp [-ByteArray.size_eq_zero_iff, -List.length_eq_zero_iff]; try omega)
  have j2 : (n1 == 2) = false := by simpa using k2
  by_cases k3 : n1 = 3
  · subst k3
    simp only [j1, k1, j2, k2, show ((3 : Int) == 3) = true from rfl, Bool.false_eq_true, if_false, if_true]
    cases ru <;> cases pl <;> cases b8 <;> (apply bool_some; rw [Bool.eq_iff_iff]; simp [-ByteArray.size_eq_zero_iff, -List.length_eq_zero_iff]; try omega)
  have j3 : (n1 == 3) = false := by simpa using k3
  by_cases k4 : n1 = 4
  · subst k4
    simp only [j1, k1, j2, k2, j3, k3, show ((4 : Int) == 4) = true from rfl, Bool.false_eq_true, if_false, if_true]
    cases ru <;> cases pl <;> cases b8 <;> (apply bool_some; rw [Bool.eq_iff_iff]; simp [-ByteArray.size_eq_zero_iff, -List.length_eq_zero_iff]; try omega)
  have j4 : (n1 == 4) = false := by simpa using k4
  by_cases k5 : n1 = 5
  · subst k5
    simp only [j1, k1, j2, k2, j3, k3, j4, k4, show ((5 : Int) == 5) = true from rfl, Bool.false_eq_true, if_false, if_true]
    cases ru <;> cases pl <;> cases b8 <;> (apply bool_some; rw [Bool.eq_iff_iff]; simp [-ByteArray.size_eq_zero_iff, -List.length_eq_zero_iff]; try omega)
  have j5 : (n1 == 5) = false := by simpa using k5
  simp only [j1, k1, j2, k2, j3, k3, j4, k4, j5, k5, Bool.false_eq_true, if_false, Bool.false_and, Bool.not_false, Bool.or_true, chk_true]
theorem msgOk_impl (n1 n2 n3 n4 n5 n6 n7 : Int) (b8 : Bool) (l9 : List (List D)) (s10 : ByteArray) (hl : l9.length ≤ 1048576) (h : ∀ r ∈ l9, typL shEntry r) : t39 n1 n2 n3 n4 n5 n6 n7 b8 l9 s10 = some ([.one (.b (msgOk n1 n2 n3 n4 n5 n6 n7 b8 l9 s10))], []) := by
  simp only [t39, ta39, within_eq, place_impl, same_impl (sameEi_nil l9), same_impl (sameEi_self l9 hl h), batch_impl _ _ _ _ _ _ _ _ l9 _ hl h, zr62, zo62, zr77, zo77, zr79, zo79, zr78, zo78, okR, isVs, isV, isD, isOs, resC, nthR, cellsDV, nthD, asB, Bool.and_true, Bool.true_or, chk_true]
  unfold msgOk
  generalize runB l9 n4 l9.length 0 (if n6 < 1 then 1 else n6) = ru
  generalize placeB n5 n6 = pl
  generalize (((decide (0 ≤ n2) && decide (n2 ≤ 4)) && (decide (0 ≤ n3) && decide (n3 ≤ 4))) && (n2 != n3)) = sv
  generalize (decide (1 ≤ n4) && decide (n4 ≤ 100000)) = tm
  cases sv
  · simp only [Bool.false_and, Bool.false_eq_true, if_false, Bool.not_false, Bool.or_true, chk_true]
    (repeat' split) <;> rfl
  cases tm
  · simp only [Bool.and_false, Bool.false_and, Bool.true_and, Bool.false_eq_true, if_false, if_true, Bool.not_false, Bool.or_true, chk_true]
    (repeat' split) <;> rfl
  simp only [Bool.true_and, if_true]
  by_cases k1 : n1 = 1
  · subst k1
    simp only [show ((1 : Int) == 1) = true from rfl, if_true]
    cases ru <;> cases pl <;> cases b8 <;> (apply bool_some; rw [Bool.eq_iff_iff]; simp [-ByteArray.size_eq_zero_iff, -List.length_eq_zero_iff]; try omega)
  have j1 : (n1 == 1) = false := by simpa using k1
  by_cases k2 : n1 = 2
  · subst k2
    simp only [j1, k1, show ((2 : Int) == 2) = true from rfl, Bool.false_eq_true, if_false, if_true]
    cases ru <;> cases pl <;> cases b8 <;> (apply bool_some; rw [Bool.eq_iff_iff]; simp [-ByteArray.size_eq_zero_iff, -List.length_eq_zero_iff]; try omega)
  have j2 : (n1 == 2) = false := by simpa using k2
  by_cases k3 : n1 = 3
  · subst k3
    simp only [j1, k1, j2, k2, show ((3 : Int) == 3) = true from rfl, Bool.false_eq_true, if_false, if_true]
    cases ru <;> cases pl <;> cases b8 <;> (apply bool_some; rw [Bool.eq_iff_iff]; simp [-ByteArray.size_eq_zero_iff, -List.length_eq_zero_iff]; try omega)
  have j3 : (n1 == 3) = false := by simpa using k3
  by_cases k4 : n1 = 4
  · subst k4
    simp only [j1, k1, j2, k2, j3, k3, show ((4 : Int) == 4) = true from rfl, Bool.false_eq_true, if_false, if_true]
    cases ru <;> cases pl <;> cases b8 <;> (apply bool_some; rw [Bool.eq_iff_iff]; simp [-ByteArray.size_eq_zero_iff, -List.length_eq_zero_iff]; try omega)
  have j4 : (n1 == 4) = false := by simpa using k4
  by_cases k5 : n1 = 5
  · subst k5
    simp only [j1, k1, j2, k2, j3, k3, j4, k4, show ((5 : Int) == 5) = true from rfl, Bool.false_eq_true, if_false, if_true]
    cases ru <;> cases pl <;> cases b8 <;> (apply bool_some; rw [Bool.eq_iff_iff]; simp [-ByteArray.size_eq_zero_iff, -List.length_eq_zero_iff]; try omega)
  have j5 : (n1 == 5) = false := by simpa using k5
  simp only [j1, k1, j2, k2, j3, k3, j4, k4, j5, k5, Bool.false_eq_true, if_false, Bool.false_and, Bool.not_false, Bool.or_true, chk_true]
end Go.Den.L13

/- Loops, in general: what holds at each turn, and what comes of it. -/
namespace Go.Den.L13
open Go
theorem walkQ {α σ : Type} (L : Nat → Nat → α → σ → Rs) (n : Nat) (P : Nat → α → Prop) (Q : Rs → Prop)
    (he : ∀ m a s, P n a → Q (L (m + 1) n a s))
    (hs : ∀ i m a s, i < n → P i a → (∃ a' s', L (m + 1) i a s = L m (i + 1) a' s' ∧ P (i + 1) a') ∨ Q (L (m + 1) i a s)) :
    ∀ (k i m : Nat) (a : α) (s : σ), i + k = n → k < m → P i a → Q (L m i a s) := by
  intro k
  induction k with
  | zero =>
    intro i m a s e hm hp
    obtain ⟨m, rfl⟩ : ∃ m', m = m' + 1 := ⟨m - 1, by omega⟩
    have : i = n := by omega
    subst this
    exact he m a s hp
  | succ k ih =>
    intro i m a s e hm hp
    obtain ⟨m, rfl⟩ : ∃ m', m = m' + 1 := ⟨m - 1, by omega⟩
    rcases hs i m a s (by omega) hp with ⟨a', s', h1, h2⟩ | h
    · rw [h1]; exact ih (i + 1) m a' s' (by omega) (by omega) h2
    · exact h
theorem at_out (n : Nat) : decide ((n : Int) < (n : Int)) = false := by simp
end Go.Den.L13

/- Whole numbers, pieces and lists of whole numbers as bytes. -/
namespace Go.Den.L13
open Go Go.IntWalk
theorem ofInt_nat (n : Nat) (h : n < 2 ^ 64) : (BitVec.ofInt 64 (n : Int)).toNat = n := by
  rw [BitVec.toNat_ofInt]; omega
/-- A whole number's bytes: what is left, what stands. -/
def vp : Nat → Int → List (List D) → Int × List (List D)
  | 0, n, l => (n, l)
  | k + 1, n, l => if n ≥ 128 then vp k (n / 128) (l ++ [[.i .u8 (128 + n % 128)]]) else (n, l)
theorem isBytes_snoc : ∀ {l : List (List D)} {x : Int}, isBytes l = true → isBytes (l ++ [[.i .u8 x]]) = true
  | [], x, _ => rfl
  | r :: l, x, h => by
    unfold isBytes at h
    split at h
    · rename_i e; cases e
    · rename_i e; cases e; simp only [List.cons_append, isBytes]; exact isBytes_snoc h
    · cases h
theorem bytesD_len : ∀ (l : List (List D)), (bytesD l).length ≤ l.length
  | [] => by simp [bytesD]
  | r :: l => by
    unfold bytesD
    split
    · rename_i e; cases e; simpa using bytesD_len l
    · simp
theorem vp_is : ∀ (k : Nat) (n : Int) (l : List (List D)), isBytes l = true → isBytes (vp k n l).2 = true ∧ (vp k n l).2.length ≤ l.length + k
  | 0, n, l, h => ⟨h, Nat.le_refl _⟩
  | k + 1, n, l, h => by
    unfold vp
    split
    · have := vp_is k (n / 128) (l ++ [[.i .u8 (128 + n % 128)]]) (isBytes_snoc h)
      simp only [List.length_append, List.length_cons, List.length_nil] at this
      exact ⟨this.1, by omega⟩
    · exact ⟨h, by simp only; omega⟩
theorem tdiv_pos (n : Int) (h : 0 ≤ n) : n.tdiv 128 = n / 128 := Int.tdiv_eq_ediv_of_nonneg h
theorem tmod_pos (n : Int) (h : 0 ≤ n) : n.tmod 128 = n % 128 := Int.tmod_eq_emod_of_nonneg h
theorem spec_loop (q : Int → Bool → List (List D) → Rs) (s0 : ByteArray) (b0 : Bool) : ∀ (k m : Nat) (n : Int) (v : SV) (l : List (List D)), 0 ≤ n → n < 128 ^ (k + 1) → n < 4611686018427387904 → k < m → l.length + k < 1000 →
    la89o1 t60 s0 b0 q m n v l = q (vp k n l).1 false (vp k n l).2 := by
  intro k
  induction k with
  | zero =>
    intro m n v l h0 h1 h2 h3 h4
    obtain ⟨m, rfl⟩ : ∃ m', m = m' + 1 := ⟨m - 1, by omega⟩
    have e : ¬ n ≥ 128 := by omega
    simp [la89o1, e, vp]
  | succ k ih =>
    intro m n v l h0 h1 h2 h3 h4
    obtain ⟨m, rfl⟩ : ∃ m', m = m' + 1 := ⟨m - 1, by omega⟩
    by_cases e : n ≥ 128
    · simp only [la89o1, vp, e, decide_true, if_true, tmod_pos n h0, tdiv_pos n h0]
      rw [w64_in (n / 128) (by omega), w64_in (128 + n % 128) (by omega), u8_in _ (by omega), chk_ok (by simp [flatR, allSc, isSc, lim]; omega)]
      refine ih m (n / 128) _ _ (by omega) ?_ (by omega) (by omega) (by simp; omega)
      rw [Int.ediv_lt_iff_lt_mul (by omega)]
      rw [Int.pow_succ] at h1
      exact h1
    · simp [la89o1, e, vp]
/-- A whole number as a text. -/
def varS (n : Int) : ByteArray := if 0 ≤ n ∧ n ≤ 562949953421311 then ⟨(bytesD ((vp 6 n []).2 ++ [[.i .u8 (IntKind.wrap .u8 (vp 6 n []).1)]])).toArray⟩ else ⟨#[]⟩
theorem varS_size (n : Int) : (varS n).size ≤ 10 := by
  unfold varS
  split
  · have h := (vp_is 6 n [] rfl).2
    have h2 := bytesD_len ((vp 6 n []).2 ++ [[.i .u8 (IntKind.wrap .u8 (vp 6 n []).1)]])
    simp only [List.length_append, List.length_cons, List.length_nil] at h h2
    show (List.toArray _).size ≤ 10
    simp only [List.size_toArray]
    omega
  · exact Nat.zero_le _
theorem var_spec (n : Int) : t89 n = some ([.one (.s (varS n))], []) := by
  unfold t89 ta89 varS
  simp only [in_eq, zr60, zo60]
  by_cases h : 0 ≤ n ∧ n ≤ 562949953421311
  · simp [h]
    rw [spec_loop _ _ _ 6 KK n .undef [] h.1 (by omega) (by omega) (by rw [KK_eq]; omega) (by simp)]
    have h1 := vp_is 6 n [] rfl
    simp only [List.length_nil] at h1
    rw [chk_ok (by simp [flatR, allSc, isSc, lim]; omega), chk_ok (isBytes_snoc h1.1)]
  · have : ((decide (0 ≤ n) && decide (n ≤ 562949953421311)) = false) := by simpa using h
    simp [h, this]
def pieceS (s : ByteArray) : ByteArray := varS (s.size : Int) ++ s
theorem pieceS_size (s : ByteArray) : (pieceS s).size ≤ 10 + s.size := by
  unfold pieceS; rw [ByteArray.size_append]; have := varS_size (s.size : Int); omega
def catL (f : List D → ByteArray) : List (List D) → ByteArray
  | [] => ⟨#[]⟩
  | r :: l => f r ++ catL f l
theorem catL_app (f : List D → ByteArray) : ∀ (a b : List (List D)), catL f (a ++ b) = catL f a ++ catL f b
  | [], b => by simp only [List.nil_append, catL, ByteArray.empty_append]; exact ByteArray.empty_append.symm
  | r :: a, b => by simp only [List.cons_append, catL, catL_app f a b, ByteArray.append_assoc]
theorem ap_empty (s : ByteArray) : s ++ (⟨#[]⟩ : ByteArray) = s := ByteArray.append_empty
end Go.Den.L13

/- Messages as texts: the reference's side. -/
namespace Go.Den.L13
open Go
def entS (l : List (List D)) : Nat → Nat → ByteArray → ByteArray
  | 0, _, s => s
  | k + 1, i, s => entS l k (i + 1) (s ++ varS (asI (nthD (l.getD i []) 0)) ++ pieceS (asS (nthD (l.getD i []) 1)))
theorem entS_app (l : List (List D)) (a : ByteArray) : ∀ (k i : Nat) (s : ByteArray), entS l k i (a ++ s) = a ++ entS l k i s
  | 0, _, _ => rfl
  | k + 1, i, s => by
    simp only [entS]
    rw [← entS_app l a k (i + 1)]
    simp only [ByteArray.append_assoc]
theorem entS_size (l : List (List D)) (hd : ∀ i, (asS (nthD (l.getD i []) 1)).size ≤ 1048576) : ∀ (k i : Nat) (s : ByteArray), (entS l k i s).size ≤ s.size + k * 1048596
  | 0, _, _ => by simp [entS]
  | k + 1, i, s => by
    simp only [entS]
    have := entS_size l hd k (i + 1) (s ++ varS (asI (nthD (l.getD i []) 0)) ++ pieceS (asS (nthD (l.getD i []) 1)))
    have a := varS_size (asI (nthD (l.getD i []) 0)); have b := pieceS_size (asS (nthD (l.getD i []) 1)); have c := hd i
    simp only [ByteArray.size_append] at this
    omega
theorem showM_spec (n35 n36 n37 n38 n39 n40 n41 : Int) (b42 : Bool) (l43 : List (List D)) (s44 s45 : ByteArray) (b48 : Bool) (n50 n51 n52 n53 n54 n55 n56 : Int) (b57 : Bool) (s59 : ByteArray) (q : ByteArray → Int → Bool → Rs) (l : List (List D)) (h : ∀ r ∈ l, typL shEntry r) (hl : l.length ≤ 4) (hd : ∀ i, (asS (nthD (l.getD i []) 1)).size ≤ 1048576) : ∀ (k i m : Nat) (s : ByteArray) (v : SV), i + k = l.length → k < m → s.size ≤ 200 + i * 1048596 →
    la48o1 t37 t89 t90 n35 n36 n37 n38 n39 n40 n41 b42 l43 s44 s45 b48 n50 n51 n52 n53 n54 n55 n56 b57 l s59 q m s i v = q (entS l k i s) l.length false := by
  intro k
  induction k with
  | zero =>
    intro i m s v e hm hs
    obtain ⟨m, rfl⟩ : ∃ m', m = m' + 1 := ⟨m - 1, by omega⟩
    have ei : decide ((i : Int) < (l.length : Int)) = false := by simp; omega
    have e0 : i = l.length := by omega
    simp only [la48o1, ei, entS, e0]
    simp
  | succ k ih =>
    intro i m s v e hm hs
    obtain ⟨m, rfl⟩ : ∃ m', m = m' + 1 := ⟨m - 1, by omega⟩
    have e1 := nat_in (i := i) (n := l.length) (by omega)
    have ez := row_in h _ entry_row i (by omega)
    have ew : ∀ x, okR zr89 zo89 (some ([.one (.s x)], [])) = true := fun _ => rfl
    have eb : ∀ x, asS (resC (some ([.one (.s x)], [])) 0 0) = x := fun _ => rfl
    have a := varS_size (asI (nthD (l.getD i []) 0)); have b := varS_size ((asS (nthD (l.getD i []) 1)).size : Int); have c := hd i
    simp only [la48o1, e1, nat_pos, Int.toNat_natCast, ez, var_spec, ew, eb, Bool.and_true, chk_true, if_true, ByteArray.size_append]
    rw [chk_ok (decide_eq_true (by unfold lim; omega)), chk_ok (decide_eq_true (by unfold lim; omega)), chk_ok (decide_eq_true (by unfold lim; omega)), w64_succ i (by omega), ih (i + 1) m _ _ (by omega) (by omega) (by simp only [ByteArray.size_append]; omega)]
    simp only [entS, pieceS, ByteArray.append_assoc]
theorem msgOk_len {n1 n2 n3 n4 n5 n6 n7 : Int} {b8 : Bool} {l9 : List (List D)} {s10 : ByteArray} (h : msgOk n1 n2 n3 n4 n5 n6 n7 b8 l9 s10 = true) : l9.length ≤ 4 := by
  unfold msgOk at h
  rw [Bool.and_eq_true] at h
  have h := h.2
  rw [Bool.and_eq_true] at h
  have h := h.2
  split at h
  · simp only [Bool.and_eq_true, decide_eq_true_eq] at h; omega
  split at h
  · simp only [decide_eq_true_eq] at h; omega
  split at h
  · simp only [Bool.and_eq_true, decide_eq_true_eq] at h; omega
  split at h
  · simp only [decide_eq_true_eq] at h; omega
  split at h
  · simp only [Bool.and_eq_true, decide_eq_true_eq] at h; omega
  · cases h
def yesI (b : Bool) : Int := if b then 1 else 0
def msgS (n1 n2 n3 n4 n5 n6 n7 : Int) (b8 : Bool) (l9 : List (List D)) (s10 : ByteArray) : ByteArray :=
  if msgOk n1 n2 n3 n4 n5 n6 n7 b8 l9 s10 then entS l9 l9.length 0 (⟨#[109]⟩ ++ (varS n1 ++ varS n2 ++ varS n3 ++ varS n4 ++ varS n5 ++ varS n6 ++ varS n7 ++ varS (yesI b8) ++ varS (l9.length : Int))) ++ s10 else ⟨#[]⟩
theorem showMsg_spec (n1 n2 n3 n4 n5 n6 n7 : Int) (b8 : Bool) (l9 : List (List D)) (s10 : ByteArray) (hl : l9.length ≤ 1048576) (h : ∀ r ∈ l9, typL shEntry r) (hd : ∀ i, (asS (nthD (l9.getD i []) 1)).size ≤ 1048576) (hs : s10.size ≤ 1048576) : t48 n1 n2 n3 n4 n5 n6 n7 b8 l9 s10 = some ([.one (.s (msgS n1 n2 n3 n4 n5 n6 n7 b8 l9 s10))], []) := by
  have eo := msgOk_spec n1 n2 n3 n4 n5 n6 n7 b8 l9 s10 hl h
  cases hc : msgOk n1 n2 n3 n4 n5 n6 n7 b8 l9 s10
  · simp [t48, ta48, eo, hc, msgS, zr37, zo37]
  · have h4 := msgOk_len hc
    have ey : t90 b8 = some ([.one (.i .i64 (yesI b8))], []) := by cases b8 <;> rfl
    have ew : ∀ x, okR zr89 zo89 (some ([.one (.s x)], [])) = true := fun _ => rfl
    have ew2 : ∀ x, okR zr90 zo90 (some ([.one (.i .i64 x)], [])) = true := fun _ => rfl
    have ew3 : ∀ x, okR zr37 zo37 (some ([.one (.b x)], [])) = true := fun _ => rfl
    have eb : ∀ x, asS (resC (some ([.one (.s x)], [])) 0 0) = x := fun _ => rfl
    have ei : ∀ x, asI (resC (some ([.one (.i .i64 x)], [])) 0 0) = x := fun _ => rfl
    have eB : ∀ x, asB (resC (some ([.one (.b x)], [])) 0 0) = x := fun _ => rfl
    have a1 := varS_size n1; have a2 := varS_size n2; have a3 := varS_size n3; have a4 := varS_size n4; have a5 := varS_size n5; have a6 := varS_size n6; have a7 := varS_size n7; have a8 := varS_size (yesI b8); have a9 := varS_size (l9.length : Int)
    have key := fun q m hm => showM_spec n1 n2 n3 n4 n5 n6 n7 b8 l9 s10 ⟨#[]⟩ false n1 n2 n3 n4 n5 n6 n7 b8 s10 q l9 h h4 hd l9.length 0 m (varS n1 ++ varS n2 ++ varS n3 ++ varS n4 ++ varS n5 ++ varS n6 ++ varS n7 ++ varS (yesI b8) ++ varS (l9.length : Int)) .undef (by omega) hm (by simp only [ByteArray.size_append]; omega)
    have zz := entS_size l9 hd l9.length 0 (varS n1 ++ varS n2 ++ varS n3 ++ varS n4 ++ varS n5 ++ varS n6 ++ varS n7 ++ varS (yesI b8) ++ varS (l9.length : Int))
    simp only [ByteArray.size_append] at zz
    have e0 : (⟨#[109]⟩ : ByteArray).size = 1 := rfl
    simp only [t48, ta48, eo, hc, ew, ew2, ew3, eb, ei, eB, ey, var_spec, chk_true, Bool.not_true, Bool.false_eq_true, if_false, ByteArray.size_append]
    rw [chk_ok (decide_eq_true (by unfold lim; omega)), chk_ok (decide_eq_true (by unfold lim; omega)), chk_ok (decide_eq_true (by unfold lim; omega)), chk_ok (decide_eq_true (by unfold lim; omega)), chk_ok (decide_eq_true (by unfold lim; omega)), chk_ok (decide_eq_true (by unfold lim; omega)), chk_ok (decide_eq_true (by unfold lim; omega)), chk_ok (decide_eq_true (by unfold lim; omega))]
    have := key (fun s88 n89 b90 => chk (decide (s88.size + s10.size ≤ lim)) <| chk (decide ((⟨#[109]⟩ : ByteArray).size + (s88.size + s10.size) ≤ lim)) <| some ([.one (.s ((⟨#[109]⟩ : ByteArray) ++ (s88 ++ s10)))], [])) KK (by rw [KK_eq]; omega)
    refine Eq.trans this ?_
    have f1 : (entS l9 l9.length 0 (varS n1 ++ varS n2 ++ varS n3 ++ varS n4 ++ varS n5 ++ varS n6 ++ varS n7 ++ varS (yesI b8) ++ varS (l9.length : Int))).size + s10.size ≤ lim := by unfold lim; omega
    have f2 : (⟨#[109]⟩ : ByteArray).size + ((entS l9 l9.length 0 (varS n1 ++ varS n2 ++ varS n3 ++ varS n4 ++ varS n5 ++ varS n6 ++ varS n7 ++ varS (yesI b8) ++ varS (l9.length : Int))).size + s10.size) ≤ lim := by unfold lim; omega
    rw [chk_ok (decide_eq_true f1), chk_ok (decide_eq_true f2)]
    simp only [msgS, hc, if_true, entS_app, ByteArray.append_assoc]
end Go.Den.L13

/- Whole numbers read from bytes. -/
namespace Go.Den.L13
open Go Go.IntWalk
def val : List UInt8 → Nat | [] => 0 | b :: t => b.toNat % 128 + 128 * val t
def enc : Nat → Nat → List UInt8
  | 0, n => [UInt8.ofNat n]
  | k + 1, n => if n ≥ 128 then UInt8.ofNat (128 + n % 128) :: enc k (n / 128) else [UInt8.ofNat n]
def good : List UInt8 → Bool
  | [] => false
  | [b] => decide (b.toNat < 128)
  | b :: c :: t => decide (b.toNat ≥ 128) && (decide (0 < val (c :: t)) && good (c :: t))
theorem ofNat_is (x : Nat) (b : UInt8) (hx : x < 256) : UInt8.ofNat x = b ↔ x = b.toNat := by
  constructor
  · intro h; subst h; simp; omega
  · intro h; subst h; simp
theorem enc_good : ∀ (t : List UInt8) (k : Nat), t.length ≤ k + 1 → (enc k (val t) = t ↔ good t = true)
  | [], k, _ => by
    cases k <;> simp [enc, val, good]
  | [b], k, _ => by
    have hb := b.toNat_lt
    have e : enc k (b.toNat % 128 + 128 * 0) = [UInt8.ofNat (b.toNat % 128)] := by
      cases k with
      | zero => rfl
      | succ k => simp only [enc]; rw [if_neg (by omega)]; simp
    simp only [val, e, good, List.cons.injEq, and_true, decide_eq_true_eq]
    rw [ofNat_is _ _ (by omega)]
    omega
  | b :: c :: t, k, h => by
    have hb := b.toNat_lt
    obtain ⟨k, rfl⟩ : ∃ k', k = k' + 1 := ⟨k - 1, by simp at h; omega⟩
    have ih := enc_good (c :: t) k (by simp at h ⊢; omega)
    have e : val (b :: c :: t) = b.toNat % 128 + 128 * val (c :: t) := rfl
    generalize hv : val (c :: t) = v at *
    simp only [good, hv, Bool.and_eq_true, decide_eq_true_eq]
    rw [e]
    simp only [enc]
    by_cases hz : v = 0
    · rw [if_neg (by omega)]
      simp; omega
    · rw [if_pos (by omega), show (b.toNat % 128 + 128 * v) / 128 = v by omega, show (b.toNat % 128 + 128 * v) % 128 = b.toNat % 128 by omega]
      simp only [List.cons.injEq, ih]
      rw [ofNat_is _ _ (by omega)]
      constructor
      · rintro ⟨h1, h2⟩; exact ⟨by omega, by omega, h2⟩
      · rintro ⟨h1, h2, h3⟩; exact ⟨by omega, h3⟩
theorem val_take : ∀ (bs : List UInt8) (i : Nat), i < bs.length → val (bs.take (i + 1)) = val (bs.take i) + 128 ^ i * ((bs.getD i 0).toNat % 128)
  | [], i, h => by simp at h
  | b :: t, 0, _ => by simp [val]
  | b :: t, i + 1, h => by
    have ih := val_take t i (by simpa using h)
    simp only [List.take_succ_cons, val, ih, List.getD_cons_succ]
    rw [Nat.pow_succ, Nat.mul_add, Nat.mul_comm (128 ^ i) 128, Nat.mul_assoc]
    omega
theorem val_lt : ∀ (t : List UInt8), val t < 128 ^ t.length
  | [] => by simp [val]
  | b :: t => by
    have := val_lt t
    simp only [val, List.length_cons, Nat.pow_succ]
    omega
theorem good_take : ∀ (bs : List UInt8) (i : Nat), i < bs.length → (∀ j, j < i → (bs.getD j 0).toNat ≥ 128) → (good (bs.take (i + 1)) = true ↔ (bs.getD i 0).toNat < 128 ∧ (i = 0 ∨ (bs.getD i 0).toNat ≠ 0))
  | [], i, h, _ => by simp at h
  | b :: t, 0, _, _ => by simp [good]
  | b :: t, i + 1, h, hj => by
    have hi : i < t.length := by simpa using h
    have ih := good_take t i hi (fun j hj' => by simpa using hj (j + 1) (by omega))
    have hb : b.toNat ≥ 128 := by simpa using hj 0 (by omega)
    have hv := val_take t i hi
    obtain ⟨c, t', ht⟩ : ∃ c t', t.take (i + 1) = c :: t' := by
      cases t with
      | nil => simp at hi
      | cons c t => exact ⟨c, _, rfl⟩
    simp only [List.take_succ_cons, List.getD_cons_succ]
    rw [ht] at ih hv ⊢
    simp only [good, Bool.and_eq_true, decide_eq_true_eq, ih]
    have hp : 0 < 128 ^ i := Nat.pow_pos (by omega)
    constructor
    · rintro ⟨_, h2, h3, h4⟩
      refine ⟨h3, .inr ?_⟩
      rcases h4 with rfl | h4
      · intro hz
        rw [hz] at hv
        simp at hv
        have h0 : val ([] : List UInt8) = 0 := rfl
        omega
      · exact h4
    · rintro ⟨h1, h2⟩
      have h2 : (t.getD i 0).toNat ≠ 0 := by rcases h2 with h2 | h2; omega; exact h2
      refine ⟨hb, ?_, h1, .inr h2⟩
      have : 0 < 128 ^ i * ((t.getD i 0).toNat % 128) := Nat.mul_pos hp (by omega)
      omega
theorem good_in : ∀ (t : List UInt8), good t = true → ∀ j, j + 1 < t.length → (t.getD j 0).toNat ≥ 128
  | [], h, _, _ => by simp [good] at h
  | [b], _, j, hj => by simp at hj
  | b :: c :: t, h, j, hj => by
    simp only [good, Bool.and_eq_true, decide_eq_true_eq] at h
    cases j with
    | zero => simpa using h.1
    | succ j => simpa using good_in (c :: t) h.2.2 j (by simpa using hj)
theorem bytesD_snoc : ∀ {l : List (List D)} {x : Int}, isBytes l = true → bytesD (l ++ [[.i .u8 x]]) = bytesD l ++ [UInt8.ofNat x.toNat]
  | [], x, _ => rfl
  | r :: l, x, h => by
    unfold isBytes at h
    split at h
    · rename_i e; cases e
    · rename_i e; cases e; simp only [List.cons_append, bytesD]; rw [bytesD_snoc h]
    · cases h
theorem vp_enc : ∀ (k : Nat) (n : Int) (l : List (List D)), isBytes l = true → 0 ≤ n → n < 128 ^ (k + 1) → bytesD ((vp k n l).2 ++ [[.i .u8 (IntKind.wrap .u8 (vp k n l).1)]]) = bytesD l ++ enc k n.toNat
  | 0, n, l, h, h0, h1 => by
    simp only [vp, enc]
    rw [u8_in _ (by omega), bytesD_snoc h]
  | k + 1, n, l, h, h0, h1 => by
    unfold vp
    by_cases g : n ≥ 128
    · rw [if_pos g, vp_enc k (n / 128) _ (isBytes_snoc h) (by omega) (by
        rw [Int.ediv_lt_iff_lt_mul (by omega)]; rw [Int.pow_succ] at h1; exact h1), bytesD_snoc h]
      simp only [enc]
      rw [if_pos (by omega), List.append_assoc, show (128 + n % 128).toNat = 128 + n.toNat % 128 by omega, show (n / 128).toNat = n.toNat / 128 by omega]
      rfl
    · rw [if_neg g]
      simp only
      rw [u8_in _ (by omega), bytesD_snoc h]
      simp only [enc]
      rw [if_neg (by omega)]
theorem varS_enc (n : Int) (h0 : 0 ≤ n) (h1 : n ≤ 562949953421311) : (varS n).toList = enc 6 n.toNat := by
  unfold varS
  rw [if_pos ⟨h0, h1⟩, ByteArray.toList_eq]
  simp only [vp_enc 6 n [] rfl h0 (by omega), bytesD, List.nil_append]
/-- What is read from the bytes behind the i-th, those before it being 128 and more. -/
def rdL (bs : List UInt8) : Nat → Nat → Int × Int
  | 0, _ => (0, 0)
  | f + 1, i => if i < bs.length ∧ i < 7 then
      (if (bs.getD i 0).toNat ≥ 128 then rdL bs f (i + 1) else if (bs.getD i 0).toNat = 0 ∧ i > 0 then (0, 0) else (((val (bs.take (i + 1)) : Nat) : Int), ((i + 1 : Nat) : Int)))
    else (0, 0)
def rdV (s : ByteArray) : Int × Int := rdL s.data.toList 8 0
theorem get_is (s : ByteArray) (i : Nat) (h : i < s.size) : s.get! i = s.data.toList.getD i 0 := by
  have h' : i < s.data.size := h
  show s.data[i]! = _
  rw [getElem!_pos s.data i h']
  simp [List.getD, List.getElem?_eq_getElem (show i < s.data.toList.length by simpa using h')]
theorem extract_is (s : ByteArray) (a b : Nat) : (s.extract a b).toList = (s.data.toList.take b).drop a := by
  rw [ByteArray.toList_eq, ByteArray.data_extract, Array.toList_extract]
  simp [List.extract, List.drop_take]
theorem rdL_is (bs : List UInt8) : ∀ (f i : Nat), f + i = 8 → (∀ j, j < i → (bs.getD j 0).toNat ≥ 128) → rdL bs f i = (0, 0) ∨ ∃ k : Nat, 1 ≤ k ∧ k ≤ 7 ∧ k ≤ bs.length ∧ rdL bs f i = (((val (bs.take k) : Nat) : Int), (k : Int)) ∧ good (bs.take k) = true
  | 0, i, _, _ => .inl rfl
  | f + 1, i, e, hj => by
    unfold rdL
    by_cases h : i < bs.length ∧ i < 7
    · rw [if_pos h]
      by_cases g : (bs.getD i 0).toNat ≥ 128
      · rw [if_pos g]
        exact rdL_is bs f (i + 1) (by omega) (fun j hj' => by
          by_cases e' : j = i
          · subst e'; exact g
          · exact hj j (by omega))
      · rw [if_neg g]
        by_cases g2 : (bs.getD i 0).toNat = 0 ∧ i > 0
        · rw [if_pos g2]; exact .inl rfl
        · rw [if_neg g2]
          exact .inr ⟨i + 1, by omega, by omega, by omega, rfl, (good_take bs i h.1 hj).2 ⟨by omega, by omega⟩⟩
    · rw [if_neg h]; exact .inl rfl
theorem rdV_is (s : ByteArray) : rdV s = (0, 0) ∨ ∃ k : Nat, 1 ≤ k ∧ k ≤ 7 ∧ k ≤ s.size ∧ rdV s = (((val (s.data.toList.take k) : Nat) : Int), (k : Int)) ∧ good (s.data.toList.take k) = true := by
  have := rdL_is s.data.toList 8 0 rfl (by omega)
  have e : s.data.toList.length = s.size := by simp
  rw [e] at this
  exact this
theorem val_le (bs : List UInt8) (k : Nat) (h : k ≤ 7) : val (bs.take k) ≤ 562949953421311 := by
  have h1 := val_lt (bs.take k)
  have h2 : 128 ^ (bs.take k).length ≤ 128 ^ 7 := Nat.pow_le_pow_right (by omega) (by simp; omega)
  omega
/-- What was read is shown so again. -/
theorem rdV_back (s : ByteArray) (h : (rdV s).2 ≠ 0) : varS (rdV s).1 = s.extract 0 (rdV s).2.toNat := by
  rcases rdV_is s with h0 | ⟨k, h1, h2, h3, h4, h5⟩
  · rw [h0] at h; exact absurd rfl h
  · rw [h4]
    have hv := val_le s.data.toList k h2
    have e1 := varS_enc (val (s.data.toList.take k) : Nat) (by omega) (by omega)
    have e2 := (enc_good (s.data.toList.take k) 6 (by simp; omega)).2 h5
    have e3 := extract_is s 0 k
    simp only [Int.toNat_natCast] at e1 ⊢
    rw [e2] at e1
    simp only [List.drop_zero] at e3
    rw [← e1, ByteArray.toList_eq, ByteArray.toList_eq] at e3
    exact ByteArray.ext (Array.ext' e3.symm)
theorem rdV_rng (s : ByteArray) : 0 ≤ (rdV s).1 ∧ (rdV s).1 ≤ 562949953421311 ∧ 0 ≤ (rdV s).2 ∧ (rdV s).2 ≤ 7 ∧ (rdV s).2 ≤ (s.size : Int) := by
  rcases rdV_is s with h0 | ⟨k, h1, h2, h3, h4, h5⟩
  · rw [h0]; simp
  · have := val_le s.data.toList k h2
    rw [h4]; simp only; omega
theorem or_add (n b i : Nat) (hn : n < 2 ^ (7 * i)) (hb : b < 128) (hi : i ≤ 6) : bitOr .i64 (n : Int) ((b * 2 ^ (7 * i) : Nat) : Int) = ((n + b * 2 ^ (7 * i) : Nat) : Int) := by
  have h7 : 2 ^ (7 * i) ≤ 2 ^ 42 := Nat.pow_le_pow_right (by omega) (by omega)
  have h8 : b * 2 ^ (7 * i) ≤ 127 * 2 ^ 42 := Nat.mul_le_mul (by omega) h7
  have h9 : 2 ^ (7 * i) * b = b * 2 ^ (7 * i) := Nat.mul_comm _ _
  unfold bitOr
  show IntKind.wrap .i64 (((BitVec.ofInt 64 (n : Int)) ||| (BitVec.ofInt 64 ((b * 2 ^ (7 * i) : Nat) : Int))).toNat : Int) = _
  have e2 : 2 ^ (7 * i) * b + n = 2 ^ (7 * i) * b ||| n := Nat.two_pow_add_eq_or_of_lt hn b
  rw [BitVec.toNat_or, ofInt_nat _ (by omega), ofInt_nat _ (by omega), Nat.or_comm, ← h9, ← e2, i64_in _ (by omega), h9]
  omega
theorem and127 (n : Nat) (h : n < 256) : bitAnd .i64 (n : Int) 127 = ((n % 128 : Nat) : Int) := by
  unfold bitAnd
  show IntKind.wrap .i64 (((BitVec.ofInt 64 (n : Int)) &&& (BitVec.ofInt 64 ((127 : Nat) : Int))).toNat : Int) = _
  rw [BitVec.toNat_and, ofInt_nat n (by omega), ofInt_nat 127 (by omega), show (127 : Nat) = 2 ^ 7 - 1 by rfl, Nat.and_two_pow_sub_one_eq_mod, i64_in _ (by omega)]
theorem rdI_loop (s : ByteArray) (n8 n9 : Int) (q1 : Int → Int → Int → Int → Int → Bool → Bool → Bool → Rs) (q2 : Int → Int → SV → Bool → SV → Rs)
    (h1 : ∀ a b c d e f g h, q1 a b c d e f g h = some ([.one (.i .i64 a), .one (.i .i64 b)], [])) (h2 : ∀ a b c d e, q2 a b c d e = some ([.one (.i .i64 0), .one (.i .i64 0)], [])) :
    ∀ (f i m : Nat) (u v w : SV), f + i = 8 → 8 < m + i → (∀ j, j < i → (s.data.toList.getD j 0).toNat ≥ 128) →
    l86o0 s n8 n9 q1 q2 m ((val (s.data.toList.take i) : Nat) : Int) i u v w = some ([.one (.i .i64 (rdL s.data.toList f i).1), .one (.i .i64 (rdL s.data.toList f i).2)], []) := by
  have e0 : s.data.toList.length = s.size := by simp
  intro f
  induction f with
  | zero =>
    intro i m u v w e hm hj
    obtain ⟨m, rfl⟩ : ∃ m', m = m' + 1 := ⟨m - 1, by omega⟩
    have ei : decide ((i : Int) < 7) = false := by simp; omega
    simp only [l86o0, ei, Bool.and_false, Bool.false_eq_true, if_false, h2, rdL]
  | succ f ih =>
    intro i m u v w e hm hj
    obtain ⟨m, rfl⟩ : ∃ m', m = m' + 1 := ⟨m - 1, by omega⟩
    by_cases h : i < s.data.toList.length ∧ i < 7
    · have a1 : decide ((i : Int) < (s.size : Int)) = true := by rw [e0] at h; simp; omega
      have a2 : decide ((i : Int) < 7) = true := by simp; omega
      have a3 : decide ((0 : Int) ≤ (i : Int) ∧ (i : Int) < (s.size : Int)) = true := by rw [e0] at h; simp; omega
      have a4 : w64 (7 * (i : Int)) = ((7 * i : Nat) : Int) := by rw [w64_in _ (by omega)]; omega
      have a5 : decide ((0 : Int) ≤ ((7 * i : Nat) : Int)) = true := decide_eq_true (by omega)
      have hb := (s.data.toList.getD i 0).toNat_lt
      have hg := get_is s i (by omega)
      have hv := val_take s.data.toList i h.1
      have hlt := val_lt (s.data.toList.take i)
      have hl' : (s.data.toList.take i).length = i := by simp only [List.length_take]; omega
      rw [hl'] at hlt
      have e128 : (128 : Nat) ^ i = 2 ^ (7 * i) := by rw [show (128 : Nat) = 2 ^ 7 from rfl, ← Nat.pow_mul]
      have h7 : 2 ^ (7 * i) ≤ 2 ^ 42 := Nat.pow_le_pow_right (by omega) (by omega)
      generalize hbb : (s.data.toList.getD i 0).toNat = b at *
      have a6 : w64 (b : Int) = (b : Int) := w64_in _ (by omega)
      have a7 : min (7 * i) (IntKind.bits .i64) = 7 * i := Nat.min_eq_left (by show 7 * i ≤ 64; omega)
      have h8 : b % 128 * 2 ^ (7 * i) ≤ 127 * 2 ^ 42 := Nat.mul_le_mul (by omega) h7
      have a8 : w64 (((b % 128 : Nat) : Int) * 2 ^ (7 * i)) = ((b % 128 * 2 ^ (7 * i) : Nat) : Int) := by
        have : ((b % 128 : Nat) : Int) * 2 ^ (7 * i) = ((b % 128 * 2 ^ (7 * i) : Nat) : Int) := by simp
        rw [this, w64_in _ (by omega)]
      have a9 : bitOr .i64 ((val (s.data.toList.take i) : Nat) : Int) ((b % 128 * 2 ^ (7 * i) : Nat) : Int) = ((val (s.data.toList.take (i + 1)) : Nat) : Int) := by
        rw [or_add _ _ i (by omega) (by omega) (by omega), hv, e128, Nat.mul_comm (b % 128)]
      simp only [l86o0, a1, a2, a3, a4, a5, Int.toNat_natCast, hg, hbb, a6, and127 b hb, a7, a8, a9, Bool.and_true, chk_true, if_true, rdL]
      rw [if_pos h]
      by_cases g : b ≥ 128
      · have g' : decide ((b : Int) > 127) = true := by simp; omega
        simp only [g', if_true, hbb, if_pos g]
        rw [w64_succ i (by omega)]
        exact ih (i + 1) m _ _ _ (by omega) (by omega) (fun j hj' => by
          by_cases e' : j = i
          · subst e'; omega
          · exact hj j (by omega))
      · have g' : decide ((b : Int) > 127) = false := by simp; omega
        simp only [g', Bool.false_eq_true, if_false, hbb, if_neg g]
        by_cases g2 : b = 0 ∧ i > 0
        · have g3 : (((b : Int) == 0) && decide ((i : Int) > 0)) = true := by simp; omega
          simp only [g3, if_true, h1, if_pos g2]
        · have g3 : (((b : Int) == 0) && decide ((i : Int) > 0)) = false := by
            rw [Bool.eq_false_iff]; simp; omega
          simp only [g3, Bool.false_eq_true, if_false, h1, if_neg g2, w64_succ i (by omega)]
    · have a1 : (decide ((i : Int) < (s.size : Int)) && decide ((i : Int) < 7)) = false := by
        rw [e0] at h; rw [Bool.eq_false_iff]; simp; omega
      simp only [l86o0, a1, Bool.false_eq_true, if_false, h2, rdL, if_neg h]
theorem readVar_impl (s : ByteArray) : t86 s = some ([.one (.i .i64 (rdV s).1), .one (.i .i64 (rdV s).2)], []) :=
  rdI_loop s 0 0 (fun n36 n37 _ _ _ _ _ _ => some ([.one (.i .i64 n36), .one (.i .i64 n37)], [])) (fun _ _ _ _ _ => some ([.one (.i .i64 0), .one (.i .i64 0)], [])) (fun _ _ _ _ _ _ _ _ => rfl) (fun _ _ _ _ _ => rfl) 8 0 KK .undef .undef .undef rfl (by rw [KK_eq]; omega) (by omega)
theorem rdS_in (s : ByteArray) (n54 n55 n56 : Int) (b59 : Bool) (q : Int → Int → Bool → SV → Rs) (k : Nat) (hk : k ≤ 7) (hks : k ≤ s.size) : ∀ (j m n : Nat) (v w : SV), j ≤ k → j < m → n < 128 ^ (k - j) →
    ∃ d, la84o2 t89 s n54 n55 n56 b59 q m (n : Int) ((j : Int) - 1) v w = q ((n * 128 ^ j + val (s.data.toList.take j) : Nat) : Int) (-1) false d := by
  intro j
  induction j with
  | zero =>
    intro m n v w hj hm hn
    obtain ⟨m, rfl⟩ : ∃ m', m = m' + 1 := ⟨m - 1, by omega⟩
    exact ⟨_, by simp [la84o2, val]; rfl⟩
  | succ j ih =>
    intro m n v w hj hm hn
    obtain ⟨m, rfl⟩ : ∃ m', m = m' + 1 := ⟨m - 1, by omega⟩
    have e0 : s.data.toList.length = s.size := by simp
    have a0 : (((j + 1 : Nat) : Int) - 1) = (j : Int) := by omega
    have a1 : decide ((j : Int) ≥ 0) = true := by simp
    have a3 : decide ((0 : Int) ≤ (j : Int) ∧ (j : Int) < (s.size : Int)) = true := by simp; omega
    have hg := get_is s j (by omega)
    have hv := val_take s.data.toList j (by omega)
    have hb := (s.data.toList.getD j 0).toNat_lt
    generalize hbb : (s.data.toList.getD j 0).toNat = b at *
    have hn7 : 128 ^ (k - (j + 1)) ≤ 128 ^ 6 := Nat.pow_le_pow_right (by omega) (by omega)
    have hp : n * 128 < 128 ^ (k - j) := by rw [show k - j = (k - (j + 1)) + 1 by omega, Nat.pow_succ]; omega
    have a6 : w64 (b : Int) = (b : Int) := w64_in _ (by omega)
    have a7 : w64 (w64 ((n : Int) * 128) + ((b : Int)).tmod 128) = ((n * 128 + b % 128 : Nat) : Int) := by
      rw [Int.tmod_eq_emod_of_nonneg (by omega), w64_in ((n : Int) * 128) (by omega), w64_in _ (by omega)]; omega
    have a8 : w64 ((j : Int) - 1) = (j : Int) - 1 := w64_in _ (by omega)
    have hq : (n * 128 + b % 128) < 128 ^ (k - j) := by
      rw [show k - j = (k - (j + 1)) + 1 by omega, Nat.pow_succ] at hp ⊢; omega
    obtain ⟨d, hd⟩ := ih m (n * 128 + b % 128) (.d (.b true)) (keepV [] w) (by omega) (by omega) hq
    refine ⟨d, ?_⟩
    simp only [la84o2, a0, a1, a3, Int.toNat_natCast, hg, hbb, a6, a7, a8, chk_true, if_true]
    rw [hd]
    congr 2
    rw [hv, Nat.add_mul, Nat.pow_succ, Nat.mul_assoc, Nat.mul_comm 128 (128 ^ j), Nat.mul_comm (b % 128)]
    omega
theorem rdS_step (s : ByteArray) (n36 n37 : Int) (q1 : Int → Int → Int → Bool → Bool → Bool → Rs) (q2 : Int → SV → SV → Bool → SV → SV → Rs) (k m : Nat) (v1 v2 v3 v4 v5 : SV) (h1 : 1 ≤ k) (h7 : k ≤ 7) (hs : k ≤ s.size) :
    la84o0 t89 s n36 n37 q1 q2 (m + 1) k v1 v2 v3 v4 v5 = if good (s.data.toList.take k) = true then q1 ((val (s.data.toList.take k) : Nat) : Int) k (-1) true false true else la84o0 t89 s n36 n37 q1 q2 m ((k + 1 : Nat) : Int) (.d (.i .i64 ((val (s.data.toList.take k) : Nat) : Int))) (.d (.i .i64 (-1))) (.d (.b true)) (.d (.b false)) (.d (.b false)) := by
  have a1 : (decide ((k : Int) ≤ 7) && decide ((k : Int) ≤ (s.size : Int))) = true := by simp; omega
  have a2 : w64 ((k : Int) - 1) = (k : Int) - 1 := w64_in _ (by omega)
  have a3 : decide ((0 : Int) ≤ 0 ∧ (0 : Int) ≤ (k : Int) ∧ (k : Int) ≤ (s.size : Int)) = true := by simp; omega
  have e0 : s.data.toList.length = s.size := by simp
  simp only [la84o0, a1, if_true, a2]
  obtain ⟨d, hd⟩ := rdS_in s n36 n37 k true (fun n75 n76 b77 v78 =>
       chk (okR zr89 zo89 (t89 n75)) <|
       chk (decide ((0 : Int) ≤ 0 ∧ (0 : Int) ≤ (k : Int) ∧ (k : Int) ≤ (s.size : Int))) <|
       if ((asS (resC (t89 n75) 0 0)).toList == (s.extract (0 : Int).toNat (k : Int).toNat).toList) = true then
        q1 n75 k n76 true b77 ((asS (resC (t89 n75) 0 0)).toList == (s.extract (0 : Int).toNat (k : Int).toNat).toList)
       else
        la84o0 t89 s n36 n37 q1 q2 m (w64 ((k : Int) + 1)) (.d (.i .i64 n75)) (.d (.i .i64 n76)) (.d (.b true)) (.d (.b b77)) (.d (.b ((asS (resC (t89 n75) 0 0)).toList == (s.extract (0 : Int).toNat (k : Int).toNat).toList)))) k h7 hs k KK 0 v4 v5 (Nat.le_refl _) (by rw [KK_eq]; omega) (by simp)
  refine Eq.trans hd ?_
  have ew : ∀ x, okR zr89 zo89 (some ([.one (.s x)], [])) = true := fun _ => rfl
  have eb : ∀ x, asS (resC (some ([.one (.s x)], [])) 0 0) = x := fun _ => rfl
  have hv := val_le s.data.toList k h7
  have ec : ((varS ((val (s.data.toList.take k) : Nat) : Int)).toList == (s.extract (0 : Int).toNat (k : Int).toNat).toList) = good (s.data.toList.take k) := by
    rw [varS_enc _ (by omega) (by omega), extract_is, Int.toNat_natCast, Int.toNat_natCast, Bool.eq_iff_iff, beq_iff_eq, show (0 : Int).toNat = 0 from rfl, List.drop_zero]
    exact enc_good _ 6 (by simp; omega)
  simp only [var_spec, ew, eb, a3, chk_true, Nat.zero_mul, Nat.zero_add, ec, w64_succ k (by omega)]
  cases good (s.data.toList.take k) <;> rfl
theorem rdS_end (s : ByteArray) (n36 n37 : Int) (q1 : Int → Int → Int → Bool → Bool → Bool → Rs) (q2 : Int → SV → SV → Bool → SV → SV → Rs) (h2 : ∀ a b c d e f, q2 a b c d e f = some ([.one (.i .i64 0), .one (.i .i64 0)], [])) (k m : Nat) (v1 v2 v3 v4 v5 : SV) (h : ¬ (k ≤ 7 ∧ k ≤ s.size)) :
    la84o0 t89 s n36 n37 q1 q2 (m + 1) k v1 v2 v3 v4 v5 = some ([.one (.i .i64 0), .one (.i .i64 0)], []) := by
  have a1 : (decide ((k : Int) ≤ 7) && decide ((k : Int) ≤ (s.size : Int))) = false := by rw [Bool.eq_false_iff]; simp; omega
  simp only [la84o0, a1, Bool.false_eq_true, if_false, h2]
theorem rdS_dead (s : ByteArray) (n36 n37 : Int) (q1 : Int → Int → Int → Bool → Bool → Bool → Rs) (q2 : Int → SV → SV → Bool → SV → SV → Rs) (h2 : ∀ a b c d e f, q2 a b c d e f = some ([.one (.i .i64 0), .one (.i .i64 0)], [])) (j : Nat) (hj : (s.data.toList.getD j 0).toNat < 128) :
    ∀ (f k m : Nat) (v1 v2 v3 v4 v5 : SV), f + k = 9 → 9 < m + k → j + 1 < k → la84o0 t89 s n36 n37 q1 q2 m k v1 v2 v3 v4 v5 = some ([.one (.i .i64 0), .one (.i .i64 0)], []) := by
  have e0 : s.data.toList.length = s.size := by simp
  intro f
  induction f with
  | zero =>
    intro k m v1 v2 v3 v4 v5 e hm hk
    obtain ⟨m, rfl⟩ : ∃ m', m = m' + 1 := ⟨m - 1, by omega⟩
    exact rdS_end s n36 n37 q1 q2 h2 k m _ _ _ _ _ (by omega)
  | succ f ih =>
    intro k m v1 v2 v3 v4 v5 e hm hk
    obtain ⟨m, rfl⟩ : ∃ m', m = m' + 1 := ⟨m - 1, by omega⟩
    by_cases h : k ≤ 7 ∧ k ≤ s.size
    · rw [rdS_step s n36 n37 q1 q2 k m _ _ _ _ _ (by omega) h.1 h.2, if_neg]
      · exact ih (k + 1) m _ _ _ _ _ (by omega) (by omega) (by omega)
      · intro hg
        have hl' : (s.data.toList.take k).length = k := by simp only [List.length_take]; omega
        have := good_in _ hg j (by omega)
        have e1 : (s.data.toList.take k).getD j 0 = s.data.toList.getD j 0 := by simp [List.getD, List.getElem?_take, show j < k by omega]
        rw [e1] at this
        omega
    · exact rdS_end s n36 n37 q1 q2 h2 k m _ _ _ _ _ h
theorem rdS_loop (s : ByteArray) (n36 n37 : Int) (q1 : Int → Int → Int → Bool → Bool → Bool → Rs) (q2 : Int → SV → SV → Bool → SV → SV → Rs) (h1 : ∀ a b c d e f, q1 a b c d e f = some ([.one (.i .i64 a), .one (.i .i64 b)], [])) (h2 : ∀ a b c d e f, q2 a b c d e f = some ([.one (.i .i64 0), .one (.i .i64 0)], [])) :
    ∀ (f i m : Nat) (v1 v2 v3 v4 v5 : SV), f + i = 8 → 9 < m + i → (∀ j, j < i → (s.data.toList.getD j 0).toNat ≥ 128) →
    la84o0 t89 s n36 n37 q1 q2 m ((i + 1 : Nat) : Int) v1 v2 v3 v4 v5 = some ([.one (.i .i64 (rdL s.data.toList f i).1), .one (.i .i64 (rdL s.data.toList f i).2)], []) := by
  have e0 : s.data.toList.length = s.size := by simp
  intro f
  induction f with
  | zero =>
    intro i m v1 v2 v3 v4 v5 e hm hj
    obtain ⟨m, rfl⟩ : ∃ m', m = m' + 1 := ⟨m - 1, by omega⟩
    exact rdS_end s n36 n37 q1 q2 h2 (i + 1) m _ _ _ _ _ (by omega)
  | succ f ih =>
    intro i m v1 v2 v3 v4 v5 e hm hj
    obtain ⟨m, rfl⟩ : ∃ m', m = m' + 1 := ⟨m - 1, by omega⟩
    unfold rdL
    by_cases h : i < s.data.toList.length ∧ i < 7
    · rw [if_pos h, rdS_step s n36 n37 q1 q2 (i + 1) m _ _ _ _ _ (by omega) (by omega) (by omega)]
      have hgt := good_take s.data.toList i h.1 hj
      by_cases g : (s.data.toList.getD i 0).toNat ≥ 128
      · rw [if_pos g, if_neg (by rw [hgt]; omega)]
        exact ih (i + 1) m _ _ _ _ _ (by omega) (by omega) (fun j hj' => by
          by_cases e' : j = i
          · subst e'; exact g
          · exact hj j (by omega))
      · rw [if_neg g]
        by_cases g2 : (s.data.toList.getD i 0).toNat = 0 ∧ i > 0
        · rw [if_pos g2, if_neg (by rw [hgt]; omega)]
          exact rdS_dead s n36 n37 q1 q2 h2 i (by omega) (7 - i) (i + 1 + 1) m _ _ _ _ _ (by omega) (by omega) (by omega)
        · rw [if_neg g2, if_pos (hgt.2 ⟨by omega, by omega⟩), h1]
    · rw [if_neg h]
      exact rdS_end s n36 n37 q1 q2 h2 (i + 1) m _ _ _ _ _ (by omega)
theorem readVar_spec (s : ByteArray) : t84 s = some ([.one (.i .i64 (rdV s).1), .one (.i .i64 (rdV s).2)], []) :=
  rdS_loop s 0 0 (fun n36 n37 _ _ _ _ => some ([.one (.i .i64 n36), .one (.i .i64 n37)], [])) (fun _ _ _ _ _ _ => some ([.one (.i .i64 0), .one (.i .i64 0)], [])) (fun _ _ _ _ _ _ => rfl) (fun _ _ _ _ _ _ => rfl) 8 0 KK .undef .undef .undef .undef .undef rfl (by rw [KK_eq]; omega) (by omega)
end Go.Den.L13

/- Results read; what a client hears. -/
namespace Go.Den.L13
open Go
theorem extract_all (s : ByteArray) : s.extract 0 s.size = s := by
  apply ByteArray.ext
  rw [ByteArray.data_extract]
  exact Array.extract_size
theorem extract_sz (s : ByteArray) (a : Nat) : (s.extract a s.size).size = s.size - a := by
  rw [ByteArray.size_extract]; omega
end Go.Den.L13

/- Readers. -/
namespace Go.Den.L13
open Go
theorem ext_join (s : ByteArray) (p q r : Nat) (h1 : p ≤ q) (h2 : q ≤ r) (h3 : r ≤ s.size) : s.extract p q ++ s.extract q r = s.extract p r := by
  apply ByteArray.ext
  rw [ByteArray.data_append, ByteArray.data_extract, ByteArray.data_extract, ByteArray.data_extract, Array.extract_append_extract]
  have e : max q r = r := by omega
  have e0 : min p q = p := by omega
  rw [e, e0]
theorem ext_ext (s : ByteArray) (p a b : Nat) (h : p + b ≤ s.size) : (s.extract p s.size).extract a b = s.extract (p + a) (p + b) := by
  apply ByteArray.ext
  rw [ByteArray.data_extract, ByteArray.data_extract, ByteArray.data_extract, Array.extract_extract]
  congr 1; omega
theorem ext_end (s : ByteArray) (p a : Nat) (h : p + a ≤ s.size) : (s.extract p s.size).extract a (s.extract p s.size).size = s.extract (p + a) s.size := by
  rw [extract_sz, ext_ext s p a _ (by omega)]
  congr 1; omega
def pos : Option Nat → Int | none => -1 | some p => (p : Int)
theorem pos_some (p : Nat) : pos (some p) = (p : Int) := rfl
def inB (s : ByteArray) (o : Option Nat) : Prop := ∀ p, o = some p → p ≤ s.size
/-- A whole number read: it, and where it ends. -/
def numA (s : ByteArray) : Option Nat → Int × Option Nat
  | none => (0, none)
  | some p => if (rdV (s.extract p s.size)).2 = 0 then (0, none) else ((rdV (s.extract p s.size)).1, some (p + (rdV (s.extract p s.size)).2.toNat))
def numsA (s : ByteArray) : Nat → Option Nat → List (List D) → List (List D) × Option Nat
  | 0, o, l => (l, o)
  | n + 1, o, l => if (numA s o).2 = none then (l, none) else numsA s n (numA s o).2 (l ++ [[.i .i64 (numA s o).1]])
def takeA (s : ByteArray) (o : Option Nat) : ByteArray × Option Nat :=
  match (numA s o).2 with
  | none => (⟨#[]⟩, none)
  | some q => if (numA s o).1 > (s.size : Int) - q then (⟨#[]⟩, none) else (s.extract q (q + (numA s o).1.toNat), some (q + (numA s o).1.toNat))
theorem numA_is (s : ByteArray) (o : Option Nat) (h : inB s o) : ((numA s o).1 = 0 ∧ (numA s o).2 = none) ∨ ∃ p q, o = some p ∧ (numA s o).2 = some q ∧ p < q ∧ q ≤ p + 7 ∧ q ≤ s.size ∧ 0 ≤ (numA s o).1 ∧ (numA s o).1 ≤ 562949953421311 ∧ s.extract p q = varS (numA s o).1 := by
  cases o with
  | none => exact .inl ⟨rfl, rfl⟩
  | some p =>
    have hp := h p rfl
    have hr := rdV_rng (s.extract p s.size)
    have hb := rdV_back (s.extract p s.size)
    have hz := extract_sz s p
    unfold numA
    by_cases e : (rdV (s.extract p s.size)).2 = 0
    · simp only [e, if_true]; exact .inl ⟨trivial, trivial⟩
    · simp only [e, if_false]
      refine .inr ⟨p, _, rfl, rfl, by omega, by omega, by omega, hr.1, hr.2.1, ?_⟩
      rw [hb e, ext_ext s p 0 _ (by omega)]
      rfl
theorem takeA_is (s : ByteArray) (o : Option Nat) (h : inB s o) : ((takeA s o).1 = ⟨#[]⟩ ∧ (takeA s o).2 = none) ∨ ∃ p q, o = some p ∧ (takeA s o).2 = some q ∧ p < q ∧ q ≤ s.size ∧ s.extract p q = pieceS (takeA s o).1 ∧ (takeA s o).1.size ≤ s.size := by
  rcases numA_is s o h with ⟨e1, e2⟩ | ⟨p, q, rfl, e2, h1, h2, h3, h4, h5, h6⟩
  · refine .inl ?_
    unfold takeA; rw [e2]; exact ⟨rfl, rfl⟩
  · unfold takeA; rw [e2]
    by_cases g : (numA s (some p)).1 > (s.size : Int) - q
    · simp only [g, if_true]; exact .inl ⟨trivial, trivial⟩
    · simp only [g, if_false]
      refine .inr ⟨p, _, rfl, rfl, by omega, by omega, ?_, by rw [ByteArray.size_extract]; omega⟩
      have e7 : (((s.extract q (q + (numA s (some p)).1.toNat)).size : Nat) : Int) = (numA s (some p)).1 := by
        rw [ByteArray.size_extract]; omega
      unfold pieceS
      rw [e7, ← h6, ext_join s _ _ _ (by omega) (by omega) (by omega)]
theorem inB_num (s : ByteArray) (o : Option Nat) (h : inB s o) : inB s (numA s o).2 := by
  intro p hp
  rcases numA_is s o h with ⟨_, e2⟩ | ⟨_, q, _, e2, _, _, h3, _⟩
  · rw [e2] at hp; cases hp
  · rw [e2] at hp; cases hp; exact h3
theorem inB_take (s : ByteArray) (o : Option Nat) (h : inB s o) : inB s (takeA s o).2 := by
  intro p hp
  rcases takeA_is s o h with ⟨_, e2⟩ | ⟨_, q, _, e2, _, h3, _⟩
  · rw [e2] at hp; cases hp
  · rw [e2] at hp; cases hp; exact h3
theorem nums_loop (s : ByteArray) (hs : s.size ≤ 4000000000000000000) (n : Nat) (hn : n < 1000) (x13 : Int) (q1 : Int → Int → SV → SV → Bool → Bool → SV → List (List D) → Rs) (q2 : Int → Int → Int → Int → Bool → Bool → Bool → List (List D) → Rs) (q3 : Int → Int → SV → SV → Bool → SV → SV → List (List D) → Rs)
    (h1 : ∀ a b c d e f g l, q1 a b c d e f g l = some ([.one (.l l), .one (.i .i64 (-1))], [])) (h2 : ∀ a b c d e f g l, q2 a b c d e f g l = some ([.one (.l l), .one (.i .i64 (-1))], [])) (h3 : ∀ a b c d e f g l, q3 a b c d e f g l = some ([.one (.l l), .one (.i .i64 a)], [])) :
    ∀ (k i m : Nat) (o : Option Nat) (v1 v2 v3 v4 v5 : SV) (l : List (List D)), i + k = n → k < m → inB s o → l.length + k ≤ lim →
    la92o0 t84 s n x13 q1 q2 q3 m (pos o) i v1 v2 v3 v4 v5 l = some ([.one (.l (numsA s k o l).1), .one (.i .i64 (pos (numsA s k o l).2))], []) := by
  intro k
  induction k with
  | zero =>
    intro i m o v1 v2 v3 v4 v5 l e hm hb hl
    obtain ⟨m, rfl⟩ : ∃ m', m = m' + 1 := ⟨m - 1, by omega⟩
    have ei : decide ((i : Int) < (n : Int)) = false := by simp; omega
    simp only [la92o0, ei, h3, numsA]; simp
  | succ k ih =>
    intro i m o v1 v2 v3 v4 v5 l e hm hb hl
    obtain ⟨m, rfl⟩ : ∃ m', m = m' + 1 := ⟨m - 1, by omega⟩
    have ei : decide ((i : Int) < (n : Int)) = true := by simp; omega
    cases o with
    | none =>
      have a1 : (decide (pos none < (0 : Int)) || decide (pos none > (s.size : Int))) = true := by simp [pos]
      simp only [la92o0, ei, if_true, a1, h1, numsA, numA]
      rfl
    | some p =>
      have hp := hb p rfl
      have hr := rdV_rng (s.extract p s.size)
      have hz := extract_sz s p
      have a1 : (decide (pos (some p) < (0 : Int)) || decide (pos (some p) > (s.size : Int))) = false := by
        rw [pos_some, decide_eq_false (by omega), decide_eq_false (by omega)]; rfl
      have a2 : decide (0 ≤ pos (some p) ∧ pos (some p) ≤ (s.size : Int)) = true := decide_eq_true (by rw [pos_some]; omega)
      have ex : (pos (some p)).toNat = p := by simp [pos]
      have ew : ∀ x y, okR zr84 zo84 (some ([.one (.i .i64 x), .one (.i .i64 y)], [])) = true := fun _ _ => rfl
      have e0 : ∀ x y, asI (resC (some ([.one (.i .i64 x), .one (.i .i64 y)], [])) 0 0) = x := fun _ _ => rfl
      have e1 : ∀ x y, asI (resC (some ([.one (.i .i64 x), .one (.i .i64 y)], [])) 1 0) = y := fun _ _ => rfl
      have hw := w64_succ i (by omega)
      simp only [la92o0, ei, if_true, a1, a2, ex, readVar_spec, ew, e0, e1, chk_true, Bool.false_eq_true, if_false, hw]
      by_cases g : (rdV (s.extract p s.size)).2 = 0
      · have g' : ((rdV (s.extract p s.size)).2 == 0) = true := by simpa using g
        have : (numA s (some p)).2 = none := by simp [numA, g]
        simp only [g', if_true, h2, numsA, this, pos]
      · have g' : ((rdV (s.extract p s.size)).2 == 0) = false := by simpa using g
        have f2 : (numA s (some p)).2 = some (p + (rdV (s.extract p s.size)).2.toNat) := by simp [numA, g]
        have f1 : (numA s (some p)).1 = (rdV (s.extract p s.size)).1 := by simp [numA, g]
        have a6 : w64 (pos (some p) + (rdV (s.extract p s.size)).2) = pos (some (p + (rdV (s.extract p s.size)).2.toNat)) := by
          simp only [pos]; rw [w64_in _ (by omega)]; omega
        simp only [g', Bool.false_eq_true, if_false, a6]
        have hk : ((flatR 1 [[D.i .i64 (rdV (s.extract p s.size)).1]]) && decide (l.length + [[D.i .i64 (rdV (s.extract p s.size)).1]].length ≤ lim)) = true := by
          have : l.length + 1 ≤ lim := by omega
          simpa [flatR, allSc, isSc] using this
        rw [chk_ok hk]
        rw [ih (i + 1) m _ _ _ _ _ _ _ (by omega) (by omega) (by intro q hq; cases hq; omega) (by simp; omega)]
        simp only [numsA, f1, f2]
        simp
theorem nums_spec (s : ByteArray) (hs : s.size ≤ 4000000000000000000) (n : Nat) (hn : n < 1000) (o : Option Nat) (hb : inB s o) : t92 s (pos o) n = some ([.one (.l (numsA s n o []).1), .one (.i .i64 (pos (numsA s n o []).2))], []) :=
  nums_loop s hs n hn 0 (fun _ _ _ _ _ _ _ l63 => some ([.one (.l l63), .one (.i .i64 (-1 : Int))], [])) (fun _ _ _ _ _ _ _ l63 => some ([.one (.l l63), .one (.i .i64 (-1 : Int))], [])) (fun n72 _ _ _ _ _ _ l79 => some ([.one (.l l79), .one (.i .i64 n72)], []))
    (fun _ _ _ _ _ _ _ _ => rfl) (fun _ _ _ _ _ _ _ _ => rfl) (fun _ _ _ _ _ _ _ _ => rfl) n 0 KK o _ _ _ _ _ [] (by omega) (by rw [KK_eq]; omega) hb (by simp [lim]; omega)
theorem take_spec (s : ByteArray) (hs : s.size ≤ 4000000000000000000) (o : Option Nat) (hb : inB s o) : t93 s (pos o) = some ([.one (.s (takeA s o).1), .one (.i .i64 (pos (takeA s o).2))], []) := by
  have hn := nums_spec s hs 1 (by omega) o hb
  have ew : ∀ x y, okR zr92 zo92 (some ([.one (.l x), .one (.i .i64 y)], [])) = true := fun _ _ => rfl
  have e0 : ∀ x y, asL (resC (some ([.one (.l x), .one (.i .i64 y)], [])) 0 0) = x := fun _ _ => rfl
  have e1 : ∀ x y, asI (resC (some ([.one (.l x), .one (.i .i64 y)], [])) 1 0) = y := fun _ _ => rfl
  have hn : t92 s (pos o) 1 = _ := hn
  simp only [t93, ta93, hn, ew, e0, e1, chk_true]
  rcases numA_is s o hb with ⟨f1, f2⟩ | ⟨p, q, rfl, f2, h1, h2, h3, h4, h5, h6⟩
  · have ft : takeA s o = (⟨#[]⟩, none) := by simp [takeA, f2]
    have fn : numsA s 1 o [] = ([], none) := by simp [numsA, f2]
    simp only [ft, fn]
    rfl
  · have fn : numsA s 1 (some p) [] = ([[.i .i64 (numA s (some p)).1]], some q) := by simp [numsA, f2]
    simp only [fn]
    have p1 : pos (some q) = (q : Int) := rfl
    have b1 : decide ((q : Int) < 0) = false := by simp
    have z1 : (decide ((0 : Int) ≤ 0) && decide ((0 : Int) < ([[D.i .i64 (numA s (some p)).1]].length : Int))) = true := rfl
    have z2 : [[D.i .i64 (numA s (some p)).1]].getD ((0 : Int).toNat) [] = [D.i .i64 (numA s (some p)).1] := rfl
    have z3 : (decide (1 ≤ [D.i .i64 (numA s (some p)).1].length) && isF z3 0 [D.i .i64 (numA s (some p)).1]) = true := rfl
    have z4 : asI (nthD [D.i .i64 (numA s (some p)).1] 0) = (numA s (some p)).1 := rfl
    have w1 : w64 ((s.size : Int) - (q : Int)) = (s.size : Int) - q := w64_in _ (by omega)
    simp only [p1, b1, z1, z2, z3, z4, w1, Bool.true_or, Bool.false_or, chk_true]
    by_cases g : (numA s (some p)).1 > (s.size : Int) - q
    · have g' : decide ((numA s (some p)).1 > (s.size : Int) - q) = true := decide_eq_true g
      have ft : takeA s (some p) = (⟨#[]⟩, none) := by simp only [takeA, f2, if_pos g]
      simp only [g', if_true, ft]
      rfl
    · have g' : decide ((numA s (some p)).1 > (s.size : Int) - q) = false := decide_eq_false g
      have ft : takeA s (some p) = (s.extract q (q + (numA s (some p)).1.toNat), some (q + (numA s (some p)).1.toNat)) := by simp only [takeA, f2, if_neg g]
      have w2 : w64 ((q : Int) + (numA s (some p)).1) = ((q + (numA s (some p)).1.toNat : Nat) : Int) := by rw [w64_in _ (by omega)]; omega
      have a3 : decide (0 ≤ (q : Int) ∧ (q : Int) ≤ ((q + (numA s (some p)).1.toNat : Nat) : Int) ∧ ((q + (numA s (some p)).1.toNat : Nat) : Int) ≤ (s.size : Int)) = true := decide_eq_true (by omega)
      simp only [g', Bool.false_eq_true, if_false, w2, a3, chk_true, Int.toNat_natCast, ft, pos]
/-- How a reader stands that has come to a place. -/
def St (s : ByteArray) (o : Option Nat) (r : ByteArray) (b : Bool) : Prop := match o with | none => b = true | some p => b = false ∧ r = s.extract p s.size ∧ p ≤ s.size
theorem St_inB {s : ByteArray} {o : Option Nat} {r : ByteArray} {b : Bool} (h : St s o r b) : inB s o := by
  intro p hp; subst hp; exact h.2.2
theorem num_impl (s : ByteArray) (o : Option Nat) (r : ByteArray) (b : Bool) (h : St s o r b) : ∃ r' b', t95 r b = some ([.one (.i .i64 (numA s o).1)], [[.s r', .b b']]) ∧ St s (numA s o).2 r' b' := by
  have ew : ∀ x y, okR zr86 zo86 (some ([.one (.i .i64 x), .one (.i .i64 y)], [])) = true := fun _ _ => rfl
  have e0 : ∀ x y, asI (resC (some ([.one (.i .i64 x), .one (.i .i64 y)], [])) 0 0) = x := fun _ _ => rfl
  have e1 : ∀ x y, asI (resC (some ([.one (.i .i64 x), .one (.i .i64 y)], [])) 1 0) = y := fun _ _ => rfl
  simp only [t95, ta95, readVar_impl, ew, e0, e1, chk_true]
  cases o with
  | none =>
    have hb : b = true := h
    subst hb
    exact ⟨r, true, by simp [numA], rfl⟩
  | some p =>
    obtain ⟨rfl, rfl, hp⟩ := h
    have hr := rdV_rng (s.extract p s.size)
    have hz := extract_sz s p
    by_cases g : (rdV (s.extract p s.size)).2 = 0
    · refine ⟨s.extract p s.size, true, ?_, ?_⟩
      · simp [numA, g]
      · simp [numA, g, St]
    · have g' : ((rdV (s.extract p s.size)).2 == 0) = false := by simpa using g
      have a1 : decide (0 ≤ (rdV (s.extract p s.size)).2 ∧ (rdV (s.extract p s.size)).2 ≤ ((s.extract p s.size).size : Int)) = true := decide_eq_true (by omega)
      have f2 : numA s (some p) = ((rdV (s.extract p s.size)).1, some (p + (rdV (s.extract p s.size)).2.toNat)) := by simp [numA, g]
      refine ⟨s.extract (p + (rdV (s.extract p s.size)).2.toNat) s.size, false, ?_, ?_⟩
      · simp only [g', Bool.or_self, Bool.false_eq_true, if_false, a1, chk_true, f2, ext_end s p _ (show p + (rdV (s.extract p s.size)).2.toNat ≤ s.size by omega)]
      · rw [f2]; exact ⟨rfl, rfl, by omega⟩
theorem rdPiece_impl (s : ByteArray) (o : Option Nat) (r : ByteArray) (b : Bool) (h : St s o r b) : ∃ r' b', t97 r b = some ([.one (.s (takeA s o).1)], [[.s r', .b b']]) ∧ St s (takeA s o).2 r' b' := by
  obtain ⟨r1, b1, e1, h1⟩ := num_impl s o r b h
  have ew : ∀ x y z, okR zr95 zo95 (some ([.one (.i .i64 x)], [[.s y, .b z]])) = true := fun _ _ _ => rfl
  have ew2 : ∀ x y z, okR zr121 zo121 (some ([.one (.s x)], [[.s y, .b z]])) = true := fun _ _ _ => rfl
  have f0 : ∀ x y z, asI (resC (some ([.one (.i .i64 x)], [[.s y, .b z]])) 0 0) = x := fun _ _ _ => rfl
  have f1 : ∀ x y z, asS (outC (some ([.one x], [[.s y, .b z]])) 0 0) = y := fun _ _ _ => rfl
  have f2 : ∀ x y z, asB (outC (some ([.one x], [[.s y, .b z]])) 0 1) = z := fun _ _ _ => rfl
  have f3 : ∀ x y z, asS (resC (some ([.one (.s x)], [[.s y, .b z]])) 0 0) = x := fun _ _ _ => rfl
  simp only [t97, ta97, e1, ew, f0, f1, f2, chk_true]
  have hb0 := St_inB h
  rcases numA_is s o hb0 with ⟨g1, g2⟩ | ⟨p, q, rfl, g2, k1, k2, k3, k4, k5, k6⟩
  · rw [g2] at h1
    have hb : b1 = true := h1
    subst hb
    have ft : takeA s o = (⟨#[]⟩, none) := by simp [takeA, g2]
    refine ⟨r1, true, ?_, ?_⟩
    · simp only [t121, Bool.true_or, if_true, ew2, f1, f2, f3, chk_true, ft]
    · rw [ft]; rfl
  · rw [g2] at h1
    obtain ⟨rfl, rfl, hq⟩ := h1
    have hz := extract_sz s q
    by_cases g : (numA s (some p)).1 > (s.size : Int) - q
    · have g' : decide ((numA s (some p)).1 > ((s.extract q s.size).size : Int)) = true := decide_eq_true (by omega)
      have ft : takeA s (some p) = (⟨#[]⟩, none) := by simp only [takeA, g2, if_pos g]
      refine ⟨s.extract q s.size, true, ?_, ?_⟩
      · simp only [t121, g', Bool.or_true, if_true, ew2, f1, f2, f3, chk_true, ft]
      · rw [ft]; rfl
    · have g' : decide ((numA s (some p)).1 > ((s.extract q s.size).size : Int)) = false := decide_eq_false (by omega)
      have ft : takeA s (some p) = (s.extract q (q + (numA s (some p)).1.toNat), some (q + (numA s (some p)).1.toNat)) := by simp only [takeA, g2, if_neg g]
      have a1 : decide (0 ≤ (0 : Int) ∧ (0 : Int) ≤ (numA s (some p)).1 ∧ (numA s (some p)).1 ≤ ((s.extract q s.size).size : Int)) = true := decide_eq_true (by omega)
      have a2 : decide (0 ≤ (numA s (some p)).1 ∧ (numA s (some p)).1 ≤ ((s.extract q s.size).size : Int)) = true := decide_eq_true (by omega)
      refine ⟨s.extract (q + (numA s (some p)).1.toNat) s.size, false, ?_, ?_⟩
      · simp only [t121, g', Bool.or_self, Bool.false_eq_true, if_false, a1, a2, ew2, f1, f2, f3, chk_true, ft, ext_end s q _ (show q + (numA s (some p)).1.toNat ≤ s.size by omega)]
        rw [ext_ext s q _ _ (by omega)]
        rfl
      · rw [ft]; exact ⟨rfl, rfl, by omega⟩
end Go.Den.L13

/- What readers give, in general. -/
namespace Go.Den.L13
open Go
theorem toList_inj (a b : ByteArray) : (a.toList == b.toList) = true ↔ a = b := by
  rw [beq_iff_eq]
  constructor
  · intro h
    rw [ByteArray.toList_eq, ByteArray.toList_eq] at h
    exact ByteArray.ext (Array.ext' h)
  · intro h; rw [h]
theorem numA_rng (s : ByteArray) (o : Option Nat) (h : inB s o) : 0 ≤ (numA s o).1 ∧ (numA s o).1 ≤ 562949953421311 := by
  rcases numA_is s o h with ⟨e1, e2⟩ | ⟨p, q, _, _, _, _, _, h4, h5, _⟩
  · rw [e1]; omega
  · exact ⟨h4, h5⟩
theorem numA_some (s : ByteArray) (o : Option Nat) (h : inB s o) (q : Nat) (e : (numA s o).2 = some q) : ∃ p, o = some p ∧ p < q ∧ q ≤ s.size ∧ s.extract p q = varS (numA s o).1 := by
  rcases numA_is s o h with ⟨e1, e2⟩ | ⟨p, q', e1, e2, h1, h2, h3, _, _, h6⟩
  · rw [e2] at e; cases e
  · rw [e2] at e; cases e; exact ⟨p, e1, h1, h3, h6⟩
theorem takeA_some (s : ByteArray) (o : Option Nat) (h : inB s o) (q : Nat) (e : (takeA s o).2 = some q) : ∃ p, o = some p ∧ p < q ∧ q ≤ s.size ∧ s.extract p q = pieceS (takeA s o).1 := by
  rcases takeA_is s o h with ⟨e1, e2⟩ | ⟨p, q', e1, e2, h1, h2, h3, _⟩
  · rw [e2] at e; cases e
  · rw [e2] at e; cases e; exact ⟨p, e1, h1, h2, h3⟩
theorem takeA_size (s : ByteArray) (o : Option Nat) (h : inB s o) : (takeA s o).1.size ≤ s.size := by
  rcases takeA_is s o h with ⟨e1, _⟩ | ⟨_, _, _, _, _, _, _, h4⟩
  · rw [e1]; exact Nat.zero_le _
  · exact h4
theorem wfN (n : Int) (h : -9223372036854775808 ≤ n ∧ n ≤ 9223372036854775807) : (Lit.int .i64 n).wf = true := by
  have : IntKind.wrap .i64 n = n := w64_in n h
  simp [Lit.wf, this]
  exact h
def itN {α : Type} (f : α → α) : Nat → α → α
  | 0, a => a
  | k + 1, a => f (itN f k a)
abbrev LO := List (List D) × Option Nat
theorem itN_none {f : LO → LO} (h : ∀ x, x.2 = none → (f x).2 = none) : ∀ (k : Nat) (x : LO), x.2 = none → (itN f k x).2 = none
  | 0, _, e => e
  | k + 1, x, e => h _ (itN_none h k x e)
theorem itN_back {f : LO → LO} (h : ∀ x, x.2 = none → (f x).2 = none) : ∀ (k j : Nat) (x : LO), (itN f (k + j) x).2 ≠ none → (itN f k x).2 ≠ none := by
  intro k j x
  induction j with
  | zero => exact id
  | succ j ih => intro e q; exact e (h _ (by apply Classical.byContradiction; intro g; exact ih g q))
theorem itN_len {f : LO → LO} (h : ∀ x, (f x).1.length = x.1.length + 1) : ∀ (k : Nat) (x : LO), (itN f k x).1.length = x.1.length + k
  | 0, _ => rfl
  | k + 1, x => by rw [itN, h, itN_len h k x]; omega
theorem itN_P {f : LO → LO} {P : LO → Prop} (h : ∀ x, P x → P (f x)) : ∀ (k : Nat) (x : LO), P x → P (itN f k x)
  | 0, _, e => e
  | k + 1, x, e => h _ (itN_P h k x e)
/-- Where it is after so many whole numbers, and which the last was. -/
def posN (s : ByteArray) : Nat → Option Nat → Option Nat
  | 0, o => o
  | k + 1, o => (numA s (posN s k o)).2
def valN (s : ByteArray) (k : Nat) (o : Option Nat) : Int := (numA s (posN s k o)).1
theorem posN_front (s : ByteArray) : ∀ (k : Nat) (o : Option Nat), posN s (k + 1) o = posN s k (numA s o).2
  | 0, _ => rfl
  | k + 1, o => by rw [posN, posN_front s k o]; rfl
theorem valN_front (s : ByteArray) (k : Nat) (o : Option Nat) : valN s (k + 1) o = valN s k (numA s o).2 := by
  unfold valN; rw [posN_front]
theorem posN_none (s : ByteArray) : ∀ (k : Nat), posN s k none = none
  | 0 => rfl
  | k + 1 => by rw [posN, posN_none s k]; rfl
theorem posN_inB {s : ByteArray} {o : Option Nat} (h : inB s o) : ∀ k, inB s (posN s k o)
  | 0 => h
  | k + 1 => inB_num s _ (posN_inB h k)
theorem nums_some (s : ByteArray) : ∀ (n : Nat) (o : Option Nat) (l : List (List D)), posN s n o ≠ none → numsA s n o l = (l ++ (List.range n).map (fun j => [D.i .i64 (valN s j o)]), posN s n o)
  | 0, o, l, _ => by simp [numsA, posN]
  | n + 1, o, l, h => by
    rw [posN_front] at h
    have h0 : (numA s o).2 ≠ none := by intro e; rw [e, posN_none] at h; exact h rfl
    rw [numsA, if_neg h0, nums_some s n _ _ h, posN_front, List.range_succ_eq_map, List.map_cons, List.map_map, List.append_assoc]
    congr 2
    · simp only [List.singleton_append, List.cons.injEq]
      refine ⟨⟨rfl, trivial⟩, List.map_congr_left fun j _ => ?_⟩
      simp only [Function.comp, valN_front]
theorem nums_none (s : ByteArray) : ∀ (n : Nat) (o : Option Nat) (l : List (List D)), posN s n o = none → (numsA s n o l).2 = none
  | 0, o, l, h => h
  | n + 1, o, l, h => by
    rw [posN_front] at h
    rw [numsA]
    by_cases e : (numA s o).2 = none
    · rw [if_pos e]
    · rw [if_neg e]; exact nums_none s n _ _ h
theorem valN_rng {s : ByteArray} {o : Option Nat} (h : inB s o) (k : Nat) : 0 ≤ valN s k o ∧ valN s k o ≤ 562949953421311 := numA_rng s _ (posN_inB h k)
/-- The same piece of the text, put together. -/
theorem ext_two {s : ByteArray} {p q r : Nat} {x y : ByteArray} (h1 : s.extract p q = x) (h2 : s.extract q r = y) (a : p ≤ q) (b : q ≤ r) (c : r ≤ s.size) : s.extract p r = x ++ y := by
  rw [← h1, ← h2, ext_join s _ _ _ a b c]
theorem ext_nil (s : ByteArray) (p : Nat) : s.extract p p = ⟨#[]⟩ := by
  apply ByteArray.ext
  rw [ByteArray.data_extract]
  simp [Nat.min_le_left]
def manyA (s : ByteArray) (o : Option Nat) (n : Int) : Int × Option Nat := if (numA s o).1 > n then (0, none) else numA s o
theorem many_inB {s : ByteArray} {o : Option Nat} {n : Int} (h : inB s o) : inB s (manyA s o n).2 := by
  unfold manyA; split
  · intro p hp; cases hp
  · exact inB_num s o h
theorem many_rng {s : ByteArray} {o : Option Nat} {n : Int} (h : inB s o) (hn : 0 ≤ n) : 0 ≤ (manyA s o n).1 ∧ (manyA s o n).1 ≤ n := by
  have := numA_rng s o h
  unfold manyA; split <;> omega
theorem many_some {s : ByteArray} {o : Option Nat} {n : Int} (h : inB s o) {q : Nat} (e : (manyA s o n).2 = some q) : ∃ p, o = some p ∧ p < q ∧ q ≤ s.size ∧ s.extract p q = varS (manyA s o n).1 := by
  unfold manyA at e ⊢; split at e
  · cases e
  · rename_i g; simp only [g, if_false]; exact numA_some s o h q e
/-- Rows that were read: right in kind, small. -/
structure OkR (sh : List Sh) (s : ByteArray) (x : LO) : Prop where
  b : inB s x.2
  t : ∀ r ∈ x.1, typL sh r ∧ szdL sh r
theorem OkR.nil {sh : List Sh} {s : ByteArray} {o : Option Nat} (h : inB s o) : OkR sh s ([], o) := ⟨h, by simp⟩
theorem OkR.step {sh : List Sh} {s : ByteArray} {x : LO} {r : List D} {o : Option Nat} (h : OkR sh s x) (ho : inB s o) (h1 : typL sh r) (h2 : szdL sh r) : OkR sh s (x.1 ++ [r], o) := by
  refine ⟨ho, ?_⟩
  intro e he
  rcases List.mem_append.1 he with he | he
  · exact h.t e he
  · simp only [List.mem_singleton] at he; subst he; exact ⟨h1, h2⟩
theorem i64_typ (n : Int) (h : 0 ≤ n ∧ n ≤ 562949953421311) : (Lit.int .i64 n).wf = true := wfN n (by omega)
/-- What was read is shown so again. -/
def BackR (f : List D → ByteArray) (s : ByteArray) (o0 : Option Nat) (x : LO) : Prop := ∀ q, x.2 = some q → ∃ p, o0 = some p ∧ p ≤ q ∧ q ≤ s.size ∧ s.extract p q = catL f x.1
theorem BackR.nil {f : List D → ByteArray} {s : ByteArray} {o : Option Nat} (h : inB s o) : BackR f s o ([], o) := by
  intro q e
  exact ⟨q, e, Nat.le_refl q, h q e, ext_nil s q⟩
theorem BackR.step {f : List D → ByteArray} {s : ByteArray} {o : Option Nat} {x : LO} {r : List D} {o' : Option Nat} (h : BackR f s o x) (hr : ∀ q, o' = some q → ∃ p, x.2 = some p ∧ p ≤ q ∧ q ≤ s.size ∧ s.extract p q = f r) : BackR f s o (x.1 ++ [r], o') := by
  intro q e
  obtain ⟨p1, e1, a1, b1, c1⟩ := hr q e
  obtain ⟨p, e0, a0, b0, c0⟩ := h p1 e1
  refine ⟨p, e0, by omega, b1, ?_⟩
  rw [ext_two c0 c1 a0 a1 b1, catL_app]
  congr 1
  simp only [catL, ap_empty]
theorem posN_some {s : ByteArray} {o : Option Nat} (h : inB s o) (k : Nat) {q : Nat} (e : posN s (k + 1) o = some q) : ∃ p, posN s k o = some p ∧ p < q ∧ q ≤ s.size ∧ s.extract p q = varS (valN s k o) := numA_some s _ (posN_inB h k) q e
theorem lim1 {n : Nat} (h : n ≤ 1000) : decide (n + 1 ≤ lim) = true := decide_eq_true (by unfold lim; omega)
theorem one_len (r : List D) : ([r] : List (List D)).length = 1 := rfl
theorem fo1 (x y z) : asS (outC (some ([.one x], [[.s y, .b z]])) 0 0) = y := rfl
theorem fo2 (x y z) : asB (outC (some ([.one x], [[.s y, .b z]])) 0 1) = z := rfl
theorem fi (x : Int) (y) : asI (resC (some ([.one (.i .i64 x)], y)) 0 0) = x := rfl
theorem fs (x : ByteArray) (y) : asS (resC (some ([.one (.s x)], y)) 0 0) = x := rfl
theorem num_w (x y z) : okR zr95 zo95 (some ([.one (.i .i64 x)], [[.s y, .b z]])) = true := rfl
theorem pie_w (x y z) : okR zr97 zo97 (some ([.one (.s x)], [[.s y, .b z]])) = true := rfl
theorem many_w (x y z) : okR zr99 zo99 (some ([.one (.i .i64 x)], [[.s y, .b z]])) = true := rfl
theorem many_impl (s : ByteArray) (o : Option Nat) (r : ByteArray) (b : Bool) (n : Int) (h : St s o r b) : ∃ r' b', t99 r b n = some ([.one (.i .i64 (manyA s o n).1)], [[.s r', .b b']]) ∧ St s (manyA s o n).2 r' b' := by
  obtain ⟨r1, b1, e1, h1⟩ := num_impl s o r b h
  simp only [t99, ta99, e1, num_w, fi, fo1, fo2, chk_true, manyA]
  by_cases g : (numA s o).1 > n
  · simp only [g, decide_true, if_true]; exact ⟨r1, true, rfl, rfl⟩
  · simp only [g, decide_false, Bool.false_eq_true, if_false]; exact ⟨r1, b1, rfl, h1⟩
theorem lA90 (a0 a1 a2 a3 a4 a5 a6 a7 a8 : Int) : (decide ((0 : Int) ≤ (0 : Int)) && decide ((0 : Int) < (([[D.i .i64 a0], [D.i .i64 a1], [D.i .i64 a2], [D.i .i64 a3], [D.i .i64 a4], [D.i .i64 a5], [D.i .i64 a6], [D.i .i64 a7], [D.i .i64 a8]] : List (List D)).length : Int))) = true := id rfl
theorem lB90 (a0 a1 a2 a3 a4 a5 a6 a7 a8 : Int) : ([[D.i .i64 a0], [D.i .i64 a1], [D.i .i64 a2], [D.i .i64 a3], [D.i .i64 a4], [D.i .i64 a5], [D.i .i64 a6], [D.i .i64 a7], [D.i .i64 a8]] : List (List D)).getD ((0 : Int).toNat) [] = [D.i .i64 a0] := id rfl
theorem lA91 (a0 a1 a2 a3 a4 a5 a6 a7 a8 : Int) : (decide ((0 : Int) ≤ (1 : Int)) && decide ((1 : Int) < (([[D.i .i64 a0], [D.i .i64 a1], [D.i .i64 a2], [D.i .i64 a3], [D.i .i64 a4], [D.i .i64 a5], [D.i .i64 a6], [D.i .i64 a7], [D.i .i64 a8]] : List (List D)).length : Int))) = true := id rfl
theorem lB91 (a0 a1 a2 a3 a4 a5 a6 a7 a8 : Int) : ([[D.i .i64 a0], [D.i .i64 a1], [D.i .i64 a2], [D.i .i64 a3], [D.i .i64 a4], [D.i .i64 a5], [D.i .i64 a6], [D.i .i64 a7], [D.i .i64 a8]] : List (List D)).getD ((1 : Int).toNat) [] = [D.i .i64 a1] := id rfl
theorem lA92 (a0 a1 a2 a3 a4 a5 a6 a7 a8 : Int) : (decide ((0 : Int) ≤ (2 : Int)) && decide ((2 : Int) < (([[D.i .i64 a0], [D.i .i64 a1], [D.i .i64 a2], [D.i .i64 a3], [D.i .i64 a4], [D.i .i64 a5], [D.i .i64 a6], [D.i .i64 a7], [D.i .i64 a8]] : List (List D)).length : Int))) = true := id rfl
theorem lB92 (a0 a1 a2 a3 a4 a5 a6 a7 a8 : Int) : ([[D.i .i64 a0], [D.i .i64 a1], [D.i .i64 a2], [D.i .i64 a3], [D.i .i64 a4], [D.i .i64 a5], [D.i .i64 a6], [D.i .i64 a7], [D.i .i64 a8]] : List (List D)).getD ((2 : Int).toNat) [] = [D.i .i64 a2] := id rfl
theorem lA93 (a0 a1 a2 a3 a4 a5 a6 a7 a8 : Int) : (decide ((0 : Int) ≤ (3 : Int)) && decide ((3 : Int) < (([[D.i .i64 a0], [D.i .i64 a1], [D.i .i64 a2], [D.i .i64 a3], [D.i .i64 a4], [D.i .i64 a5], [D.i .i64 a6], [D.i .i64 a7], [D.i .i64 a8]] : List (List D)).length : Int))) = true := id rfl
theorem lB93 (a0 a1 a2 a3 a4 a5 a6 a7 a8 : Int) : ([[D.i .i64 a0], [D.i .i64 a1], [D.i .i64 a2], [D.i .i64 a3], [D.i .i64 a4], [D.i .i64 a5], [D.i .i64 a6], [D.i .i64 a7], [D.i .i64 a8]] : List (List D)).getD ((3 : Int).toNat) [] = [D.i .i64 a3] := id rfl
theorem lA94 (a0 a1 a2 a3 a4 a5 a6 a7 a8 : Int) : (decide ((0 : Int) ≤ (4 : Int)) && decide ((4 : Int) < (([[D.i .i64 a0], [D.i .i64 a1], [D.i .i64 a2], [D.i .i64 a3], [D.i .i64 a4], [D.i .i64 a5], [D.i .i64 a6], [D.i .i64 a7], [D.i .i64 a8]] : List (List D)).length : Int))) = true := id rfl
theorem lB94 (a0 a1 a2 a3 a4 a5 a6 a7 a8 : Int) : ([[D.i .i64 a0], [D.i .i64 a1], [D.i .i64 a2], [D.i .i64 a3], [D.i .i64 a4], [D.i .i64 a5], [D.i .i64 a6], [D.i .i64 a7], [D.i .i64 a8]] : List (List D)).getD ((4 : Int).toNat) [] = [D.i .i64 a4] := id rfl
theorem lA95 (a0 a1 a2 a3 a4 a5 a6 a7 a8 : Int) : (decide ((0 : Int) ≤ (5 : Int)) && decide ((5 : Int) < (([[D.i .i64 a0], [D.i .i64 a1], [D.i .i64 a2], [D.i .i64 a3], [D.i .i64 a4], [D.i .i64 a5], [D.i .i64 a6], [D.i .i64 a7], [D.i .i64 a8]] : List (List D)).length : Int))) = true := id rfl
theorem lB95 (a0 a1 a2 a3 a4 a5 a6 a7 a8 : Int) : ([[D.i .i64 a0], [D.i .i64 a1], [D.i .i64 a2], [D.i .i64 a3], [D.i .i64 a4], [D.i .i64 a5], [D.i .i64 a6], [D.i .i64 a7], [D.i .i64 a8]] : List (List D)).getD ((5 : Int).toNat) [] = [D.i .i64 a5] := id rfl
theorem lA96 (a0 a1 a2 a3 a4 a5 a6 a7 a8 : Int) : (decide ((0 : Int) ≤ (6 : Int)) && decide ((6 : Int) < (([[D.i .i64 a0], [D.i .i64 a1], [D.i .i64 a2], [D.i .i64 a3], [D.i .i64 a4], [D.i .i64 a5], [D.i .i64 a6], [D.i .i64 a7], [D.i .i64 a8]] : List (List D)).length : Int))) = true := id rfl
theorem lB96 (a0 a1 a2 a3 a4 a5 a6 a7 a8 : Int) : ([[D.i .i64 a0], [D.i .i64 a1], [D.i .i64 a2], [D.i .i64 a3], [D.i .i64 a4], [D.i .i64 a5], [D.i .i64 a6], [D.i .i64 a7], [D.i .i64 a8]] : List (List D)).getD ((6 : Int).toNat) [] = [D.i .i64 a6] := id rfl
theorem lA97 (a0 a1 a2 a3 a4 a5 a6 a7 a8 : Int) : (decide ((0 : Int) ≤ (7 : Int)) && decide ((7 : Int) < (([[D.i .i64 a0], [D.i .i64 a1], [D.i .i64 a2], [D.i .i64 a3], [D.i .i64 a4], [D.i .i64 a5], [D.i .i64 a6], [D.i .i64 a7], [D.i .i64 a8]] : List (List D)).length : Int))) = true := id rfl
theorem lB97 (a0 a1 a2 a3 a4 a5 a6 a7 a8 : Int) : ([[D.i .i64 a0], [D.i .i64 a1], [D.i .i64 a2], [D.i .i64 a3], [D.i .i64 a4], [D.i .i64 a5], [D.i .i64 a6], [D.i .i64 a7], [D.i .i64 a8]] : List (List D)).getD ((7 : Int).toNat) [] = [D.i .i64 a7] := id rfl
theorem lA98 (a0 a1 a2 a3 a4 a5 a6 a7 a8 : Int) : (decide ((0 : Int) ≤ (8 : Int)) && decide ((8 : Int) < (([[D.i .i64 a0], [D.i .i64 a1], [D.i .i64 a2], [D.i .i64 a3], [D.i .i64 a4], [D.i .i64 a5], [D.i .i64 a6], [D.i .i64 a7], [D.i .i64 a8]] : List (List D)).length : Int))) = true := id rfl
theorem lB98 (a0 a1 a2 a3 a4 a5 a6 a7 a8 : Int) : ([[D.i .i64 a0], [D.i .i64 a1], [D.i .i64 a2], [D.i .i64 a3], [D.i .i64 a4], [D.i .i64 a5], [D.i .i64 a6], [D.i .i64 a7], [D.i .i64 a8]] : List (List D)).getD ((8 : Int).toNat) [] = [D.i .i64 a8] := id rfl
theorem isI (a : Int) : (decide (1 ≤ ([D.i .i64 a] : List D).length) && isF z3 0 [D.i .i64 a]) = true := id rfl
theorem asI1 (a : Int) : asI (nthD [D.i .i64 a] 0) = a := id rfl
theorem lA10 (a0 : Int) : (decide ((0 : Int) ≤ (0 : Int)) && decide ((0 : Int) < (([[D.i .i64 a0]] : List (List D)).length : Int))) = true := id rfl
theorem lB10 (a0 : Int) : ([[D.i .i64 a0]] : List (List D)).getD ((0 : Int).toNat) [] = [D.i .i64 a0] := id rfl
theorem vs_w (x y) : okR zr92 zo92 (some ([.one (.l x), .one (.i .i64 y)], [])) = true := id rfl
theorem vs_l (x y) : asL (resC (some ([.one (.l x), .one (.i .i64 y)], [])) 0 0) = x := id rfl
theorem vs_i (x) (y : Int) : asI (resC (some ([.one (.l x), .one (.i .i64 y)], [])) 1 0) = y := id rfl
theorem vars_any {s : ByteArray} (hs : s.size ≤ 1048576) (n : Nat) (hn : n < 1000) {o : Option Nat} (hb : inB s o) :
    (posN s n o = none ∧ ∃ L, t92 s (pos o) (n : Int) = some ([.one (.l L), .one (.i .i64 (-1))], [])) ∨
    ∃ q : Nat, posN s n o = some q ∧ q ≤ s.size ∧ t92 s (pos o) (n : Int) = some ([.one (.l ((List.range n).map fun j => [D.i .i64 (valN s j o)])), .one (.i .i64 (q : Int))], []) := by
  have h := nums_spec s (by omega) n hn o hb
  cases e : posN s n o with
  | none =>
    refine .inl ⟨rfl, (numsA s n o []).1, ?_⟩
    rw [h, nums_none s n o [] e]; rfl
  | some q =>
    refine .inr ⟨q, rfl, posN_inB hb n q e, ?_⟩
    rw [h, nums_some s n o [] (by rw [e]; simp), e]; rfl
theorem ta_w (x y) : okR zr93 zo93 (some ([.one (.s x), .one (.i .i64 y)], [])) = true := id rfl
theorem ta_s (x) (y : Int) : asS (resC (some ([.one (.s x), .one (.i .i64 y)], [])) 0 0) = x := id rfl
theorem ta_i (x) (y : Int) : asI (resC (some ([.one (.s x), .one (.i .i64 y)], [])) 1 0) = y := id rfl
theorem take_any {s : ByteArray} (hs : s.size ≤ 1048576) {o : Option Nat} (hb : inB s o) : t93 s (pos o) = some ([.one (.s (takeA s o).1), .one (.i .i64 (pos (takeA s o).2))], []) := take_spec s (by omega) o hb
theorem neg_pos (q : Nat) : decide ((q : Int) < 0) = false := by simp
theorem neg_one : decide ((-1 : Int) < 0) = true := id rfl
theorem pos_none : pos none = -1 := id rfl
theorem many_of {s : ByteArray} {o : Option Nat} {n : Int} (h : ¬ (numA s o).1 > n) : manyA s o n = numA s o := by unfold manyA; rw [if_neg h]
theorem many_no {s : ByteArray} {o : Option Nat} {n : Int} (h : (numA s o).1 > n) : (manyA s o n).2 = none := by unfold manyA; rw [if_pos h]
theorem itN_end {f : LO → LO} (h : ∀ x, x.2 = none → (f x).2 = none) {k i : Nat} {x : LO} (hi : i < k) (e : (f (itN f i x)).2 = none) : (itN f k x).2 = none := by
  apply Classical.byContradiction
  intro g
  exact itN_back h (i + 1) (k - (i + 1)) x (by rw [show i + 1 + (k - (i + 1)) = k by omega]; exact g) e
end Go.Den.L13

/- Messages read: both sides give the same. -/
namespace Go.Den.L13
open Go
def entStep (s : ByteArray) (x : LO) : LO := (x.1 ++ [[.i .i64 (numA s x.2).1, .s (takeA s (numA s x.2).2).1]], (takeA s (numA s x.2).2).2)
theorem entStep_none (s : ByteArray) : ∀ x : LO, x.2 = none → (entStep s x).2 = none := by
  intro x e; unfold entStep; rw [e]; rfl
theorem entStep_len (s : ByteArray) (x : LO) : (entStep s x).1.length = x.1.length + 1 := by simp [entStep]
theorem entStep_ok {s : ByteArray} (hs : s.size ≤ 1048576) : ∀ x : LO, OkR shEntry s x → OkR shEntry s (entStep s x) := by
  intro x h
  have h1 := inB_num s _ h.b
  have hz := takeA_size s _ h1
  have hm : 1048576 ≤ maxLen := by decide
  exact h.step (inB_take s _ h1) ⟨_, _, rfl, ⟨_, rfl, i64_typ _ (numA_rng s _ h.b)⟩, _, _, rfl, ⟨_, rfl, by omega⟩, rfl⟩ ⟨trivial, by show (takeA s (numA s x.2).2).1.size ≤ 1048576; omega, trivial⟩
def entE (r : List D) : ByteArray := varS (asI (nthD r 0)) ++ pieceS (asS (nthD r 1))
theorem entS_cat (l : List (List D)) : ∀ (k i : Nat) (s : ByteArray), i + k = l.length → entS l k i s = s ++ catL entE (l.drop i)
  | 0, i, s, h => by rw [List.drop_of_length_le (by omega)]; simp only [entS, catL, ap_empty]
  | k + 1, i, s, h => by
    rw [entS, entS_cat l k (i + 1) _ (by omega), List.drop_eq_getElem_cons (show i < l.length by omega), getD_in (show i < l.length by omega)]
    simp only [catL, entE, ByteArray.append_assoc]
theorem ent_back {s : ByteArray} (hs : s.size ≤ 1048576) {o : Option Nat} (h : inB s o) : ∀ k, BackR entE s o (itN (entStep s) k ([], o))
  | 0 => BackR.nil h
  | k + 1 => (ent_back hs h k).step (by
      have hB := (itN_P (P := OkR shEntry s) (entStep_ok hs) k _ (OkR.nil h)).b
      intro q e
      obtain ⟨p1, e1, a1, b1, c1⟩ := takeA_some s _ (inB_num s _ hB) q e
      obtain ⟨p0, e0, a0, b0, c0⟩ := numA_some s _ hB p1 e1
      exact ⟨p0, e0, by omega, b1, ext_two c0 c1 (by omega) (by omega) b1⟩)
/-- Behind the first byte; so laid that nothing unfolds it. -/
noncomputable def ob : Option Nat := Classical.choose (⟨some 1, rfl⟩ : ∃ o : Option Nat, o = some 1)
theorem ob_eq : ob = some 1 := Classical.choose_spec (⟨some 1, rfl⟩ : ∃ o : Option Nat, o = some 1)
theorem inB_ob {s : ByteArray} (h : 1 ≤ s.size) : inB s ob := by rw [ob_eq]; intro p hp; cases hp; exact h
theorem pos_ob : pos ob = 1 := by rw [ob_eq]; rfl
theorem St_ob {s : ByteArray} (h : 1 ≤ s.size) : St s ob (s.extract 1 s.size) false := by rw [ob_eq]; exact ⟨rfl, rfl, h⟩
noncomputable def mX (s : ByteArray) : LO := itN (entStep s) (manyA s (posN s 8 ob) 4).1.toNat ([], (manyA s (posN s 8 ob) 4).2)
noncomputable def mT (s : ByteArray) : ByteArray := s.extract ((mX s).2.getD 0) s.size
noncomputable def mO (s : ByteArray) : Bool := msgOk (valN s 0 ob) (valN s 1 ob) (valN s 2 ob) (valN s 3 ob) (valN s 4 ob) (valN s 5 ob) (valN s 6 ob) (valN s 7 ob == 1) (mX s).1 (mT s)
noncomputable def mB (s : ByteArray) : Bool := (decide (s.size ≠ 0) && decide (((s.get! 0).toNat : Int) = 109)) && ((decide ((mX s).2 ≠ none) && decide (valN s 7 ob ≤ 1)) && mO s)
def zM : List DV := [.agg [.i .i64 0, .i .i64 0, .i .i64 0, .i .i64 0, .i .i64 0, .i .i64 0, .i .i64 0, .b false, .l [], .s ⟨#[]⟩], .one (.b false)]
noncomputable def mD (s : ByteArray) : List DV := if mB s then [.agg [.i .i64 (valN s 0 ob), .i .i64 (valN s 1 ob), .i .i64 (valN s 2 ob), .i .i64 (valN s 3 ob), .i .i64 (valN s 4 ob), .i .i64 (valN s 5 ob), .i .i64 (valN s 6 ob), .b (valN s 7 ob == 1), .l (mX s).1, .s (mT s)], .one (.b true)] else zM
theorem mX_ok {s : ByteArray} (hs : s.size ≤ 1048576) (h : 1 ≤ s.size) : OkR shEntry s (mX s) ∧ (mX s).1.length ≤ 4 := by
  have h8 := posN_inB (inB_ob h) 8
  have hmr := many_rng (n := 4) h8 (by omega)
  have hl := itN_len (entStep_len s) (manyA s (posN s 8 ob) 4).1.toNat ([], (manyA s (posN s 8 ob) 4).2)
  simp only [List.length_nil] at hl
  exact ⟨itN_P (P := OkR shEntry s) (entStep_ok hs) _ _ (OkR.nil (many_inB h8)), by show (itN (entStep s) _ _).1.length ≤ 4; omega⟩
theorem mT_size (s : ByteArray) : (mT s).size ≤ s.size := by unfold mT; rw [ByteArray.size_extract]; omega
theorem mB_bad {s : ByteArray} (h : (mX s).2 = none) : mB s = false := by unfold mB; rw [h]; simp
theorem mD_bad {s : ByteArray} (h : mB s = false) : some (zM, []) = (some (mD s, []) : Rs) := by unfold mD; rw [h]; rfl
theorem ba_right {a b c : ByteArray} (h : a ++ c = b ++ c) : a = b := by
  apply ByteArray.ext
  have := congrArg ByteArray.data h
  rw [ByteArray.data_append, ByteArray.data_append] at this
  exact (Array.append_left_inj c.data).1 this
theorem ba_left {a b c d : ByteArray} (h : a ++ c = b ++ d) (hs : a.size = b.size) : a = b ∧ c = d := by
  have := congrArg ByteArray.data h
  rw [ByteArray.data_append, ByteArray.data_append] at this
  obtain ⟨h1, h2⟩ := Array.append_inj this hs
  exact ⟨ByteArray.ext h1, ByteArray.ext h2⟩
theorem varS_zero {n : Int} (h0 : 0 ≤ n) (h1 : n ≤ 562949953421311) (h : varS n = varS 0) : n = 0 := by
  have e := congrArg ByteArray.toList h
  rw [varS_enc n h0 h1, varS_enc 0 (by omega) (by omega)] at e
  have e0 : enc 6 (0 : Int).toNat = [0] := rfl
  rw [e0] at e
  by_cases g : n.toNat ≥ 128
  · have : enc 6 n.toNat = UInt8.ofNat (128 + n.toNat % 128) :: enc 5 (n.toNat / 128) := by rw [enc, if_pos g]
    rw [this] at e
    have e1 := (List.cons.inj e).1
    have := (ofNat_is (128 + n.toNat % 128) 0 (by omega)).1 e1
    have h0 : (0 : UInt8).toNat = 0 := rfl
    omega
  · have : enc 6 n.toNat = [UInt8.ofNat n.toNat] := by rw [enc, if_neg g]
    rw [this] at e
    have e1 := (List.cons.inj e).1
    have := (ofNat_is n.toNat 0 (by omega)).1 e1
    have h0 : (0 : UInt8).toNat = 0 := rfl
    omega
theorem first_is {s : ByteArray} (h : 1 ≤ s.size) : (⟨#[109]⟩ : ByteArray) = s.extract 0 1 ↔ ((s.get! 0).toNat : Int) = 109 := by
  have e : (s.extract 0 1).toList = [s.get! 0] := by
    rw [extract_is, get_is s 0 h]
    cases hq : s.data.toList with
    | nil => have : s.data.toList.length = s.size := by simp
             rw [hq] at this; simp at this; omega
    | cons b t => simp
  have e2 : (⟨#[109]⟩ : ByteArray).toList = [109] := by rw [ByteArray.toList_eq]
  constructor
  · intro q
    have := congrArg ByteArray.toList q
    rw [e, e2] at this
    have := (List.cons.inj this).1
    rw [← this]; rfl
  · intro q
    have hb : s.get! 0 = 109 := by
      apply UInt8.toNat_inj.1
      have : (109 : UInt8).toNat = 109 := rfl
      omega
    have : ((⟨#[109]⟩ : ByteArray).toList == (s.extract 0 1).toList) = true := by rw [e, e2, hb]; rfl
    exact (toList_inj _ _).1 this
/-- What is shown is what was read. -/
theorem msg_back {s : ByteArray} (hs : s.size ≤ 1048576) (h1 : 1 ≤ s.size) (hok : mO s = true) (hn : (mX s).2 ≠ none) :
    msgS (valN s 0 ob) (valN s 1 ob) (valN s 2 ob) (valN s 3 ob) (valN s 4 ob) (valN s 5 ob) (valN s 6 ob) (valN s 7 ob == 1) (mX s).1 (mT s) = s ↔ ((s.get! 0).toNat : Int) = 109 ∧ valN s 7 ob ≤ 1 := by
  have hB := inB_ob h1
  have h8 := posN_inB hB 8
  have hmr := many_rng (n := 4) h8 (by omega)
  have hl := itN_len (entStep_len s) (manyA s (posN s 8 ob) 4).1.toNat ([], (manyA s (posN s 8 ob) 4).2)
  simp only [List.length_nil] at hl
  have hlen : ((mX s).1.length : Int) = (manyA s (posN s 8 ob) 4).1 := by show (((itN (entStep s) _ _).1.length : Nat) : Int) = _; omega
  cases hq : (mX s).2 with
  | none => exact absurd hq hn
  | some q =>
    obtain ⟨p9, e9, a9, b9, c9⟩ := ent_back hs (many_inB h8) (manyA s (posN s 8 ob) 4).1.toNat q hq
    obtain ⟨p8, e8, a8, b8, c8⟩ := many_some h8 e9
    obtain ⟨p7, e7, a7, b7, c7⟩ := posN_some hB 7 e8
    obtain ⟨p6, e6, a6, b6, c6⟩ := posN_some hB 6 e7
    obtain ⟨p5, e5, a5, b5, c5⟩ := posN_some hB 5 e6
    obtain ⟨p4, e4, a4, b4, c4⟩ := posN_some hB 4 e5
    obtain ⟨p3, e3, a3, b3, c3⟩ := posN_some hB 3 e4
    obtain ⟨p2, e2, a2, b2, c2⟩ := posN_some hB 2 e3
    obtain ⟨p1, e1, a1, b1, c1⟩ := posN_some hB 1 e2
    obtain ⟨p0, e0, a0, b0, c0⟩ := posN_some hB 0 e1
    have e0 : ob = some p0 := e0
    rw [ob_eq] at e0; cases e0
    rw [← hlen] at c8
    have c9 : s.extract p9 q = catL entE (mX s).1 := c9
    have hT : mT s = s.extract q s.size := by unfold mT; rw [hq]; rfl
    have hdec : s = s.extract 0 1 ++ (varS (valN s 0 ob) ++ (varS (valN s 1 ob) ++ (varS (valN s 2 ob) ++ (varS (valN s 3 ob) ++ (varS (valN s 4 ob) ++ (varS (valN s 5 ob) ++ (varS (valN s 6 ob) ++ (varS (valN s 7 ob) ++ (varS ((mX s).1.length : Int) ++ (catL entE (mX s).1 ++ mT s)))))))))) := by
      have z := ext_two (rfl : s.extract 0 1 = _) (ext_two c0 (ext_two c1 (ext_two c2 (ext_two c3 (ext_two c4 (ext_two c5 (ext_two c6 (ext_two c7 (ext_two c8 (ext_two c9 hT.symm (by omega) (by omega) (Nat.le_refl _)) (by omega) (by omega) (Nat.le_refl _)) (by omega) (by omega) (Nat.le_refl _)) (by omega) (by omega) (Nat.le_refl _)) (by omega) (by omega) (Nat.le_refl _)) (by omega) (by omega) (Nat.le_refl _)) (by omega) (by omega) (Nat.le_refl _)) (by omega) (by omega) (Nat.le_refl _)) (by omega) (by omega) (Nat.le_refl _)) (by omega) (by omega) (Nat.le_refl _)) (by omega) (by omega) (Nat.le_refl _)
      rw [extract_all] at z; exact z
    have hmsg : msgS (valN s 0 ob) (valN s 1 ob) (valN s 2 ob) (valN s 3 ob) (valN s 4 ob) (valN s 5 ob) (valN s 6 ob) (valN s 7 ob == 1) (mX s).1 (mT s) = ⟨#[109]⟩ ++ (varS (valN s 0 ob) ++ (varS (valN s 1 ob) ++ (varS (valN s 2 ob) ++ (varS (valN s 3 ob) ++ (varS (valN s 4 ob) ++ (varS (valN s 5 ob) ++ (varS (valN s 6 ob) ++ (varS (yesI (valN s 7 ob == 1)) ++ (varS ((mX s).1.length : Int) ++ (catL entE (mX s).1 ++ mT s)))))))))) := by
      have hok' : msgOk (valN s 0 ob) (valN s 1 ob) (valN s 2 ob) (valN s 3 ob) (valN s 4 ob) (valN s 5 ob) (valN s 6 ob) (valN s 7 ob == 1) (mX s).1 (mT s) = true := hok
      simp only [msgS, hok', if_true]
      rw [entS_cat _ _ 0 _ (by omega), List.drop_zero]
      simp only [ByteArray.append_assoc]
    have hr7 := valN_rng hB 7
    have hsz : (⟨#[109]⟩ : ByteArray).size = (s.extract 0 1).size := by
      have : (⟨#[109]⟩ : ByteArray).size = 1 := rfl
      rw [ByteArray.size_extract, this]; omega
    rw [hmsg]
    constructor
    · intro e
      have e := e.trans hdec
      obtain ⟨f1, f2⟩ := ba_left e hsz
      refine ⟨(first_is h1).1 f1, ?_⟩
      have g0 := (ba_left f2 rfl).2
      have g1 := (ba_left g0 rfl).2
      have g2 := (ba_left g1 rfl).2
      have g3 := (ba_left g2 rfl).2
      have g4 := (ba_left g3 rfl).2
      have g5 := (ba_left g4 rfl).2
      have g6 := (ba_left g5 rfl).2
      have g7 := ba_right g6
      apply Classical.byContradiction
      intro hc
      have hy : (valN s 7 ob == 1) = false := by rw [beq_eq_false_iff_ne]; omega
      rw [hy] at g7
      have := varS_zero hr7.1 hr7.2 g7.symm
      omega
    · rintro ⟨f1, f2⟩
      have hy : yesI (valN s 7 ob == 1) = valN s 7 ob := by
        unfold yesI
        by_cases g : valN s 7 ob = 1
        · rw [g]; rfl
        · have : (valN s 7 ob == 1) = false := by simpa using g
          rw [this]; simp; omega
      rw [hy, (first_is h1).2 f1]
      exact hdec.symm
theorem rdEn_impl {s : ByteArray} (k : Nat) (hk : k ≤ 1000) {o : Option Nat} {r : ByteArray} {b : Bool} (h : St s o r b) (s29 : ByteArray) (b30 : Bool) (n31 : Int) (b32 : Bool) (n36 n37 n38 n39 n40 n41 n42 : Int) (b43 : Bool) (s44 : ByteArray) (n45 n46 n47 n48 n49 n50 n51 : Int) (b52 : Bool) (s53 : ByteArray) (q1 : Int → Bool → ByteArray → Bool → List (List D) → Rs) (v : SV) :
    ∃ a c r' b', la55o1 t39 t95 t97 t99 s29 b30 n31 b32 (k : Int) n36 n37 n38 n39 n40 n41 n42 b43 s44 n45 n46 n47 n48 n49 n50 n51 b52 s53 q1 KK 0 v r b [] = q1 a c r' b' (itN (entStep s) k ([], o)).1 ∧ St s (itN (entStep s) k ([], o)).2 r' b' := by
  refine walkQ (α := ByteArray × Bool × List (List D)) (σ := SV) (fun m i x v => la55o1 t39 t95 t97 t99 s29 b30 n31 b32 (k : Int) n36 n37 n38 n39 n40 n41 n42 b43 s44 n45 n46 n47 n48 n49 n50 n51 b52 s53 q1 m (i : Int) v x.1 x.2.1 x.2.2) k (fun i x => x.2.2 = (itN (entStep s) i ([], o)).1 ∧ St s (itN (entStep s) i ([], o)).2 x.1 x.2.1) (fun y => ∃ a c r' b', y = q1 a c r' b' (itN (entStep s) k ([], o)).1 ∧ St s (itN (entStep s) k ([], o)).2 r' b')
    ?_ ?_ k 0 KK (r, b, []) v (by omega) (by rw [KK_eq]; omega) ⟨rfl, h⟩
  · intro m x v hp
    simp only [la55o1, at_out, Bool.false_eq_true, if_false, hp.1]
    exact ⟨_, _, _, _, rfl, hp.2⟩
  · intro i m x v hi hp
    left
    obtain ⟨r1, b1, e1, h1⟩ := num_impl s _ _ _ hp.2
    obtain ⟨r2, b2, e2, h2⟩ := rdPiece_impl s _ _ _ h1
    have hl := itN_len (entStep_len s) i ([], o)
    have hl : x.2.2.length = i := by rw [hp.1, hl]; simp
    have hf : ∀ a c, flatR 2 [[D.i .i64 a, D.s c]] = true := fun _ _ => rfl
    simp only [la55o1, nat_in hi, e1, e2, pie_w, num_w, fo1, fo2, fi, fs, hf, one_len, hl, lim1 (show i ≤ 1000 by omega), Bool.and_true, chk_true, if_true, w64_succ i (by omega)]
    exact ⟨(r2, b2, _), _, rfl, by rw [hp.1]; rfl, h2⟩
theorem readMsg_impl (s : ByteArray) (hs : s.size ≤ 1048576) : t55 s = some (mD s, []) := by
  by_cases h0 : s.size = 0
  · have hb : mB s = false := by unfold mB; simp [h0]
    have e1 : (s.toList == (⟨#[]⟩ : ByteArray).toList) = true := by rw [nil_toList, beq_iff_eq, toList_nil]; omega
    refine Eq.trans ?_ (mD_bad hb)
    simp only [t55, ta55, e1, Bool.not_true, Bool.not_false, Bool.or_true, Bool.true_or, chk_true, if_true]
    rfl
  have h1 : 1 ≤ s.size := by omega
  have e1 : (s.toList == (⟨#[]⟩ : ByteArray).toList) = false := by rw [nil_toList, beq_eq_false_iff_ne, Ne, toList_nil]; omega
  have e2 : decide (0 ≤ (0 : Int) ∧ (0 : Int) < (s.size : Int)) = true := decide_eq_true (by omega)
  by_cases hm : ((s.get! 0).toNat : Int) = 109
  · have e3 : (((s.get! (0 : Int).toNat).toNat : Int) != 109) = false := by
      rw [show (0 : Int).toNat = 0 from rfl, hm]; rfl
    have e4 : decide (0 ≤ (1 : Int) ∧ (1 : Int) ≤ (s.size : Int)) = true := decide_eq_true (by omega)
    obtain ⟨r1, b1, k1, h1'⟩ := num_impl s _ _ _ (St_ob h1)
    obtain ⟨r2, b2, k2, h2⟩ := num_impl s _ _ _ h1'
    obtain ⟨r3, b3, k3, h3⟩ := num_impl s _ _ _ h2
    obtain ⟨r4, b4, k4, h4⟩ := num_impl s _ _ _ h3
    obtain ⟨r5, b5, k5, h5⟩ := num_impl s _ _ _ h4
    obtain ⟨r6, b6, k6, h6⟩ := num_impl s _ _ _ h5
    obtain ⟨r7, b7, k7, h7⟩ := num_impl s _ _ _ h6
    obtain ⟨r8, b8, k8, h8⟩ := num_impl s _ _ _ h7
    obtain ⟨r9, b9, k9, h9⟩ := many_impl s _ _ _ 4 h8
    have hmr := many_rng (n := 4) (St_inB h8) (by omega)
    have hn : ((manyA s (posN s 8 ob) 4).1.toNat : Int) = (manyA s (posN s 8 ob) 4).1 := Int.toNat_of_nonneg hmr.1
    have hm4 : (manyA s (posN s 8 ob) 4).1 ≤ 4 := hmr.2
    have k1 : t95 (s.extract (1 : Int).toNat s.size) false = _ := k1
    simp only [t55, ta55, e1, e2, e3, e4, k1, k2, k3, k4, k5, k6, k7, k8, k9, num_w, many_w, fo1, fo2, fi, Bool.or_self, Bool.true_or, chk_true, Bool.false_eq_true, if_false]
    obtain ⟨a, c, r', b', e, hS⟩ := rdEn_impl (s := s) (manyA s (posN s 8 ob) 4).1.toNat (by omega) h9 s false (valN s 7 ob) false 0 0 0 0 0 0 0 false ⟨#[]⟩ (valN s 0 ob) (valN s 1 ob) (valN s 2 ob) (valN s 3 ob) (valN s 4 ob) (valN s 5 ob) (valN s 6 ob) (valN s 7 ob == 1) ⟨#[]⟩ (fun (n90 : Int) (b91 : Bool) (s92 : ByteArray) (b93 : Bool) (l94 : List (List D)) =>
      chk ((okR zr39 zo39 (t39 (valN s 0 ob) (valN s 1 ob) (valN s 2 ob) (valN s 3 ob) (valN s 4 ob) (valN s 5 ob) (valN s 6 ob) (valN s 7 ob == 1) l94 s92)) || !(!(b93 || decide (valN s 7 ob > 1)))) <|
      if ((b93 || decide (valN s 7 ob > 1)) || (!(asB (resC (t39 (valN s 0 ob) (valN s 1 ob) (valN s 2 ob) (valN s 3 ob) (valN s 4 ob) (valN s 5 ob) (valN s 6 ob) (valN s 7 ob == 1) l94 s92) 0 0)))) = true then some (zM, []) else some ([.agg [.i .i64 (valN s 0 ob), .i .i64 (valN s 1 ob), .i .i64 (valN s 2 ob), .i .i64 (valN s 3 ob), .i .i64 (valN s 4 ob), .i .i64 (valN s 5 ob), .i .i64 (valN s 6 ob), .b (valN s 7 ob == 1), .l l94, .s s92], .one (.b true)], [])) SV.undef
    rw [hn] at e
    refine Eq.trans e ?_
    generalize hL : (itN (entStep s) (manyA s (posN s 8 ob) 4).1.toNat ([], _)).1 = L
    obtain rfl : (mX s).1 = L := hL
    have hS : St s (mX s).2 r' b' := hS
    obtain ⟨hX, hXl⟩ := mX_ok hs h1
    have ho := msgOk_impl (valN s 0 ob) (valN s 1 ob) (valN s 2 ob) (valN s 3 ob) (valN s 4 ob) (valN s 5 ob) (valN s 6 ob) (valN s 7 ob == 1) (mX s).1 r' (by omega) (fun r hr => (hX.t r hr).1)
    have ew : ∀ x, okR zr39 zo39 (some ([.one (.b x)], [])) = true := fun _ => rfl
    have eB : ∀ x, asB (resC (some ([.one (.b x)], [])) 0 0) = x := fun _ => rfl
    simp only [ho, ew, eB, Bool.true_or, chk_true]
    cases hq : (mX s).2 with
    | none =>
      rw [hq] at hS
      have hS : b' = true := hS
      rw [hS]
      simp only [Bool.true_or, if_true]
      exact mD_bad (mB_bad hq)
    | some q =>
      rw [hq] at hS
      obtain ⟨rfl, rfl, -⟩ := hS
      have hT : mT s = s.extract q s.size := by unfold mT; rw [hq]; rfl
      by_cases g7 : valN s 7 ob > 1
      · have hb : mB s = false := by unfold mB; rw [decide_eq_false (show ¬ valN s 7 ob ≤ 1 by omega)]; simp
        refine Eq.trans ?_ (mD_bad hb)
        simp only [g7, decide_true, Bool.or_true, Bool.true_or, if_true]
      · have hb : mB s = mO s := by unfold mB; rw [decide_eq_true (show valN s 7 ob ≤ 1 by omega), decide_eq_true hm, hq]; simp [h0]
        have hmo : mO s = msgOk (valN s 0 ob) (valN s 1 ob) (valN s 2 ob) (valN s 3 ob) (valN s 4 ob) (valN s 5 ob) (valN s 6 ob) (valN s 7 ob == 1) (mX s).1 (s.extract q s.size) := by unfold mO; rw [hT]
        unfold mD
        rw [hb, hmo, hT]
        simp only [g7, decide_false, Bool.or_self, Bool.false_or]
        cases msgOk (valN s 0 ob) (valN s 1 ob) (valN s 2 ob) (valN s 3 ob) (valN s 4 ob) (valN s 5 ob) (valN s 6 ob) (valN s 7 ob == 1) (mX s).1 (s.extract q s.size) <;> rfl
  · have hb : mB s = false := by unfold mB; rw [decide_eq_false hm]; simp
    have e3 : (((s.get! (0 : Int).toNat).toNat : Int) != 109) = true := by
      rw [show (0 : Int).toNat = 0 from rfl]; simpa using hm
    refine Eq.trans ?_ (mD_bad hb)
    simp only [t55, ta55, e1, e2, e3, Bool.or_true, Bool.true_or, chk_true, if_true]
    rfl
theorem rdEn_spec {s : ByteArray} (hs : s.size ≤ 1048576) (k : Nat) (hk : k ≤ 1000) (p0 : Nat) (hp0 : p0 ≤ s.size) (b28 b34 : Bool) (n38 n39 n40 n41 n42 n43 n44 : Int) (b45 : Bool) (s46 : ByteArray) (n47 n48 n49 n50 n51 n52 n53 : Int) (b54 : Bool) (s55 : ByteArray) (l56 : List (List D)) (q1 : Int → Int → Int → SV → SV → Bool → Bool → SV → ByteArray → List (List D) → List (List D) → Rs) (q2 : Int → Int → Int → ByteArray → Int → Bool → Bool → Bool → ByteArray → List (List D) → List (List D) → Rs) (q3 : Int → Int → SV → SV → SV → Bool → SV → SV → List (List D) → Rs) (E : Rs) (F : Int → List (List D) → Rs) (h1 : ∀ a b c d e f g h j k, q1 a b c d e f g h ⟨#[]⟩ j k = E) (h2 : ∀ a b c d e f g h j k, q2 a b c d e f g h ⟨#[]⟩ j k = E) (h3 : ∀ a b c d e f g h l, q3 a b c d e f g h l = F a l) (v : SV × SV × SV × SV × SV × SV) :
    ((itN (entStep s) k ([], some p0)).2 = none ∧ la54o1 t48 t92 t93 s b28 b34 n38 n39 n40 n41 n42 n43 n44 b45 s46 n47 n48 n49 n50 n51 n52 n53 b54 s55 l56 q1 q2 q3 KK (p0 : Int) (k : Int) v.1 v.2.1 v.2.2.1 v.2.2.2.1 v.2.2.2.2.1 v.2.2.2.2.2 [] = E) ∨
    ∃ q : Nat, (itN (entStep s) k ([], some p0)).2 = some q ∧ la54o1 t48 t92 t93 s b28 b34 n38 n39 n40 n41 n42 n43 n44 b45 s46 n47 n48 n49 n50 n51 n52 n53 b54 s55 l56 q1 q2 q3 KK (p0 : Int) (k : Int) v.1 v.2.1 v.2.2.1 v.2.2.2.1 v.2.2.2.2.1 v.2.2.2.2.2 [] = F (q : Int) (itN (entStep s) k ([], some p0)).1 := by
  have hB0 : inB s (some p0) := by intro x hx; cases hx; exact hp0
  have e0 : (k : Int) = (k : Int) - ((0 : Nat) : Int) := by omega
  rw [e0]
  refine walkQ (α := Nat × List (List D)) (σ := SV × SV × SV × SV × SV × SV) (fun m i x v => la54o1 t48 t92 t93 s b28 b34 n38 n39 n40 n41 n42 n43 n44 b45 s46 n47 n48 n49 n50 n51 n52 n53 b54 s55 l56 q1 q2 q3 m (x.1 : Int) ((k : Int) - (i : Int)) v.1 v.2.1 v.2.2.1 v.2.2.2.1 v.2.2.2.2.1 v.2.2.2.2.2 x.2) k (fun i x => itN (entStep s) i ([], some p0) = (x.2, some x.1)) (fun y => ((itN (entStep s) k ([], some p0)).2 = none ∧ y = E) ∨ ∃ q : Nat, (itN (entStep s) k ([], some p0)).2 = some q ∧ y = F (q : Int) (itN (entStep s) k ([], some p0)).1)
    ?_ ?_ k 0 KK (p0, []) v (by omega) (by rw [KK_eq]; omega) rfl
  · intro m x v hp
    right
    have ez : decide ((k : Int) - (k : Int) > 0) = false := by simp
    refine ⟨x.1, by rw [hp], ?_⟩
    simp only [la54o1, ez, Bool.false_eq_true, if_false, h3, hp]
  · intro i m x v hi hp
    have hB := (itN_P (P := OkR shEntry s) (entStep_ok hs) i _ (OkR.nil hB0)).b
    rw [hp] at hB
    have hl := itN_len (entStep_len s) i ([], some p0)
    rw [hp] at hl
    have hl : x.2.length = i := by simpa using hl
    have hst : entStep s (itN (entStep s) i ([], some p0)) = (x.2 ++ [[.i .i64 (numA s (some x.1)).1, .s (takeA s (numA s (some x.1)).2).1]], (takeA s (numA s (some x.1)).2).2) := by rw [hp]; rfl
    have ez : decide ((k : Int) - (i : Int) > 0) = true := decide_eq_true (by omega)
    have ew : w64 ((k : Int) - (i : Int) - 1) = (k : Int) - ((i + 1 : Nat) : Int) := by rw [w64_in _ (by omega)]; omega
    rcases vars_any hs 1 (by omega) hB with ⟨e, L, hv⟩ | ⟨q, e, _, hv⟩
    · right; left
      have hv : t92 s (x.1 : Int) 1 = _ := hv
      have e : (numA s (some x.1)).2 = none := e
      refine ⟨itN_end (entStep_none s) hi (by rw [hst, e]; rfl), ?_⟩
      simp only [la54o1, ez, hv, vs_w, vs_i, neg_one, chk_true, if_true, h1]
    · have hv : t92 s (x.1 : Int) 1 = some ([.one (.l [[D.i .i64 (numA s (some x.1)).1]]), .one (.i .i64 (q : Int))], []) := hv
      have e : (numA s (some x.1)).2 = some q := e
      have ht := take_any hs (inB_num s _ hB)
      rw [e, pos_some] at ht
      cases e2 : (takeA s (some q)).2 with
      | none =>
        right; left
        rw [e2, pos_none] at ht
        refine ⟨itN_end (entStep_none s) hi (by rw [hst, e]; exact e2), ?_⟩
        simp only [la54o1, ez, hv, vs_w, vs_i, ht, ta_w, ta_i, neg_pos, neg_one, chk_true, if_true, Bool.false_eq_true, if_false, h2]
      | some q' =>
        left
        rw [e2, pos_some] at ht
        have hf : ∀ a c, flatR 2 [[D.i .i64 a, D.s c]] = true := fun _ _ => rfl
        simp only [la54o1, ez, hv, vs_w, vs_l, vs_i, ht, ta_w, ta_s, ta_i, neg_pos, lA10, lB10, isI, asI1, hf, one_len, hl, lim1 (show i ≤ 1000 by omega), Bool.and_true, chk_true, if_true, Bool.false_eq_true, if_false, ew]
        refine ⟨(q', _), (_, _, _, _, _, _), rfl, ?_⟩
        show entStep s (itN (entStep s) i ([], some p0)) = _
        rw [hst, e, e2]
theorem vars0 (s : ByteArray) (h0 : s.size = 0) : t92 s 1 9 = some ([.one (.l []), .one (.i .i64 (-1))], []) := by
  obtain ⟨k, hk⟩ : ∃ k, KK = k + 1 := ⟨KK - 1, by rw [KK_eq]⟩
  unfold t92 ta92
  rw [hk]
  have a3 : decide ((0 : Int) < 9) = true := rfl
  have a1 : (decide ((1 : Int) < 0) || decide ((1 : Int) > (s.size : Int))) = true := by rw [decide_eq_true (show (1 : Int) > (s.size : Int) by omega), Bool.or_true]
  simp only [la92o0, a3, a1, if_true]
theorem readMsg_spec (s : ByteArray) (hs : s.size ≤ 1048576) : t54 s = some (mD s, []) := by
  by_cases h0 : s.size = 0
  · have hb : mB s = false := by unfold mB; simp [h0]
    refine Eq.trans ?_ (mD_bad hb)
    simp only [t54, ta54, vars0 s h0, vs_w, vs_i, neg_one, Bool.not_true, Bool.not_false, Bool.or_true, Bool.true_or, chk_true, if_true]
    rfl
  have h1 : 1 ≤ s.size := by omega
  have hB := inB_ob h1
  have h8 := posN_inB hB 8
  have hmr := numA_rng s _ h8
  have bad : (manyA s (posN s 8 ob) 4).2 = none → some (zM, []) = (some (mD s, []) : Rs) := by
    intro h
    apply mD_bad; apply mB_bad
    unfold mX; rw [h]; exact itN_none (entStep_none s) _ _ rfl
  rcases vars_any hs 9 (by omega) hB with ⟨e, L, hv⟩ | ⟨q9, e, hq9, hv⟩
  · have hv : t92 s (pos ob) 9 = _ := hv
    rw [pos_ob] at hv
    refine Eq.trans ?_ (bad ?_)
    · simp only [t54, ta54, hv, vs_w, vs_i, neg_one, Bool.not_true, Bool.not_false, Bool.or_true, Bool.true_or, chk_true, if_true]; rfl
    · have e : (numA s (posN s 8 ob)).2 = none := e
      unfold manyA; split <;> first | rfl | exact e
  have hv : t92 s (pos ob) 9 = some ([.one (.l [[D.i .i64 (valN s 0 ob)], [D.i .i64 (valN s 1 ob)], [D.i .i64 (valN s 2 ob)], [D.i .i64 (valN s 3 ob)], [D.i .i64 (valN s 4 ob)], [D.i .i64 (valN s 5 ob)], [D.i .i64 (valN s 6 ob)], [D.i .i64 (valN s 7 ob)], [D.i .i64 (numA s (posN s 8 ob)).1]]), .one (.i .i64 (q9 : Int))], []) := hv
  rw [pos_ob] at hv
  have e : (numA s (posN s 8 ob)).2 = some q9 := e
  by_cases g : (numA s (posN s 8 ob)).1 > 4
  · refine Eq.trans ?_ (bad (many_no g))
    simp only [t54, ta54, hv, vs_w, vs_i, vs_l, lA98, lB98, isI, asI1, neg_pos, g, decide_true, Bool.not_true, Bool.not_false, Bool.or_true, Bool.true_or, chk_true, if_true]; rfl
  have hm := many_of g
  have hn : ((numA s (posN s 8 ob)).1.toNat : Int) = (numA s (posN s 8 ob)).1 := Int.toNat_of_nonneg hmr.1
  have hX : mX s = itN (entStep s) (numA s (posN s 8 ob)).1.toNat ([], some q9) := by unfold mX; rw [hm, e]
  simp only [t54, ta54, hv, vs_w, vs_i, vs_l, lA90, lB90, lA91, lB91, lA92, lB92, lA93, lB93, lA94, lB94, lA95, lB95, lA96, lB96, lA97, lB97, lA98, lB98, isI, asI1, neg_pos, g, decide_false, Bool.not_true, Bool.not_false, Bool.or_true, Bool.true_or, Bool.or_self, chk_true, if_true, Bool.false_eq_true, if_false]
  obtain ⟨hXo, hXl⟩ := mX_ok hs h1
  rcases rdEn_spec hs (numA s (posN s 8 ob)).1.toNat (by omega) q9 hq9 false false 0 0 0 0 0 0 0 false ⟨#[]⟩ (valN s 0 ob) (valN s 1 ob) (valN s 2 ob) (valN s 3 ob) (valN s 4 ob) (valN s 5 ob) (valN s 6 ob) (valN s 7 ob == 1) ⟨#[]⟩ [[D.i .i64 (valN s 0 ob)], [D.i .i64 (valN s 1 ob)], [D.i .i64 (valN s 2 ob)], [D.i .i64 (valN s 3 ob)], [D.i .i64 (valN s 4 ob)], [D.i .i64 (valN s 5 ob)], [D.i .i64 (valN s 6 ob)], [D.i .i64 (valN s 7 ob)], [D.i .i64 (numA s (posN s 8 ob)).1]] (fun (n120 : Int) (n121 : Int) (n122 : Int) (v123 : SV) (v124 : SV) (b125 : Bool) (b126 : Bool) (v127 : SV) (s128 : ByteArray) (l129 : List (List D)) (l130 : List (List D)) => some ([.agg [.i .i64 0, .i .i64 0, .i .i64 0, .i .i64 0, .i .i64 0, .i .i64 0, .i .i64 0, .b false, .l [], .s s128], .one (.b false)], [])) (fun (n131 : Int) (n132 : Int) (n133 : Int) (s134 : ByteArray) (n135 : Int) (b136 : Bool) (b137 : Bool) (b138 : Bool) (s128 : ByteArray) (l140 : List (List D)) (l141 : List (List D)) => some ([.agg [.i .i64 0, .i .i64 0, .i .i64 0, .i .i64 0, .i .i64 0, .i .i64 0, .i .i64 0, .b false, .l [], .s s128], .one (.b false)], [])) _ (some (zM, [])) (fun (n142 : Int) (l150 : List (List D)) =>
     chk (decide (0 ≤ n142 ∧ n142 ≤ s.size)) <|
     chk (okR zr48 zo48 (t48 (valN s 0 ob) (valN s 1 ob) (valN s 2 ob) (valN s 3 ob) (valN s 4 ob) (valN s 5 ob) (valN s 6 ob) (valN s 7 ob == 1) l150 (s.extract n142.toNat s.size))) <|
     if (!((asS (resC (t48 (valN s 0 ob) (valN s 1 ob) (valN s 2 ob) (valN s 3 ob) (valN s 4 ob) (valN s 5 ob) (valN s 6 ob) (valN s 7 ob == 1) l150 (s.extract n142.toNat s.size)) 0 0)).toList == s.toList)) = true then some (zM, []) else some ([.agg [.i .i64 (valN s 0 ob), .i .i64 (valN s 1 ob), .i .i64 (valN s 2 ob), .i .i64 (valN s 3 ob), .i .i64 (valN s 4 ob), .i .i64 (valN s 5 ob), .i .i64 (valN s 6 ob), .b (valN s 7 ob == 1), .l l150, .s (s.extract n142.toNat s.size)], .one (.b true)], [])) (fun _ _ _ _ _ _ _ _ _ _ => rfl) (fun _ _ _ _ _ _ _ _ _ _ => rfl) (fun _ _ _ _ _ _ _ _ _ => rfl) (SV.undef, SV.undef, SV.undef, SV.undef, SV.undef, SV.undef) with ⟨f1, f2⟩ | ⟨q, f1, f2⟩
  · rw [hn] at f2
    refine Eq.trans f2 ?_
    apply mD_bad; apply mB_bad; rw [hX]; exact f1
  rw [hn] at f2
  refine Eq.trans f2 ?_
  rw [← hX] at f1 ⊢
  have hqs : q ≤ s.size := hXo.b q f1
  have hT : mT s = s.extract q s.size := by unfold mT; rw [f1]; rfl
  have e4 : decide (0 ≤ (q : Int) ∧ (q : Int) ≤ (s.size : Int)) = true := decide_eq_true (by omega)
  have hts := mT_size s
  have hd : ∀ i, (asS (nthD ((mX s).1.getD i []) 1)).size ≤ 1048576 := by
    intro i
    by_cases hi : i < (mX s).1.length
    · have h9 := hXo.t _ (mem_getD hi)
      obtain ⟨x1, x2, er, -⟩ := Entry_row h9.1
      have := h9.2
      rw [er] at this ⊢
      exact this.2.1
    · rw [show (mX s).1.getD i [] = [] by simp [List.getD, show (mX s).1.length ≤ i by omega]]
      exact Nat.zero_le _
  have hsm := showMsg_spec (valN s 0 ob) (valN s 1 ob) (valN s 2 ob) (valN s 3 ob) (valN s 4 ob) (valN s 5 ob) (valN s 6 ob) (valN s 7 ob == 1) (mX s).1 (mT s) (by omega) (fun r hr => (hXo.t r hr).1) hd (by omega)
  have ew : ∀ x, okR zr48 zo48 (some ([.one (.s x)], [])) = true := fun _ => rfl
  simp only [Int.toNat_natCast, ← hT, hsm, ew, fs, e4, chk_true]
  have hne : (mX s).2 ≠ none := by rw [f1]; simp
  cases hmo : mO s with
  | false =>
    have hb : mB s = false := by unfold mB; rw [hmo]; simp
    have hz : msgS (valN s 0 ob) (valN s 1 ob) (valN s 2 ob) (valN s 3 ob) (valN s 4 ob) (valN s 5 ob) (valN s 6 ob) (valN s 7 ob == 1) (mX s).1 (mT s) = ⟨#[]⟩ := by
      have hmo : msgOk (valN s 0 ob) (valN s 1 ob) (valN s 2 ob) (valN s 3 ob) (valN s 4 ob) (valN s 5 ob) (valN s 6 ob) (valN s 7 ob == 1) (mX s).1 (mT s) = false := hmo
      simp only [msgS, hmo, Bool.false_eq_true, if_false]
    have hs0 : ((⟨#[]⟩ : ByteArray).toList == s.toList) = false := by
      rw [Bool.eq_false_iff]; intro h
      have := congrArg ByteArray.size ((toList_inj _ _).1 h)
      have h00 : (⟨#[]⟩ : ByteArray).size = 0 := rfl
      omega
    refine Eq.trans ?_ (mD_bad hb)
    rw [hz, hs0]; rfl
  | true =>
    have hbk := msg_back hs h1 hmo hne
    by_cases hk : ((s.get! 0).toNat : Int) = 109 ∧ valN s 7 ob ≤ 1
    · have hy := (toList_inj _ _).2 (hbk.2 hk)
      have hb : mB s = true := by unfold mB; rw [hmo, decide_eq_true hk.1, decide_eq_true hk.2, f1]; simp [h0]
      unfold mD
      rw [hy, hb]; rfl
    · have hy : ((msgS (valN s 0 ob) (valN s 1 ob) (valN s 2 ob) (valN s 3 ob) (valN s 4 ob) (valN s 5 ob) (valN s 6 ob) (valN s 7 ob == 1) (mX s).1 (mT s)).toList == s.toList) = false := by
        rw [Bool.eq_false_iff]; intro h; exact hk (hbk.1 ((toList_inj _ _).1 h))
      have hb : mB s = false := by
        rw [Bool.eq_false_iff]; intro h
        simp only [mB, Bool.and_eq_true, decide_eq_true_eq] at h
        exact hk ⟨h.1.2, h.2.1.2⟩
      refine Eq.trans ?_ (mD_bad hb)
      rw [hy]; rfl
theorem both_ReadMsg (x1 : ByteArray) (w1 : x1.size ≤ 1048576) :
    ∃ (r1 r2 r3 r4 r5 r6 r7 : Int) (r8 : Bool) (r9 : List (List D)) (r10 : ByteArray) (r11 : Bool), t54 x1 = some ([.agg [.i .i64 r1, .i .i64 r2, .i .i64 r3, .i .i64 r4, .i .i64 r5, .i .i64 r6, .i .i64 r7, .b r8, .l r9, .s r10], .one (.b r11)], []) ∧ t55 x1 = some ([.agg [.i .i64 r1, .i .i64 r2, .i .i64 r3, .i .i64 r4, .i .i64 r5, .i .i64 r6, .i .i64 r7, .b r8, .l r9, .s r10], .one (.b r11)], []) ∧
    r9.length ≤ 1048576 ∧ (∀ r ∈ r9, typL shEntry r) ∧ True := by
  rw [readMsg_spec x1 w1, readMsg_impl x1 w1]
  unfold mD
  cases hb : mB x1
  · exact ⟨0, 0, 0, 0, 0, 0, 0, false, [], ⟨#[]⟩, false, rfl, rfl, by simp, by simp, trivial⟩
  · have h1 : 1 ≤ x1.size := by
      simp only [mB, Bool.and_eq_true, decide_eq_true_eq] at hb
      have := hb.1.1; omega
    obtain ⟨hX, hXl⟩ := mX_ok w1 h1
    exact ⟨_, _, _, _, _, _, _, _, _, _, true, rfl, rfl, by omega, fun r hr => (hX.t r hr).1, trivial⟩
end Go.Den.L13

/- The law FnExactReadMsg. Printed by lawgen.py. -/
namespace Go.Den.L13
open Go
theorem law13 (x1 : ByteArray) (wx1 : x1.size ≤ maxLen) : t13 x1 = some ([.one (.b true)], []) := by
  by_cases n1 : (x1.size : Int) > 1048576
  · simp only [t13, ta13, n1, zr40, zo40, zr54, zo54, zr55, zo55, zr56, zo56, zr57, zo57, okR, isVs, isV, isD, isDs, isOs, resC, outC, nthR, nthO, cellsDV, nthD, asB, asI, asS, asL, Bool.and_true, Bool.true_and, Bool.true_or, BEq.rfl, chk_true, bne_self_eq_false, Bool.not_true, Bool.not_false, Bool.or_self, Bool.or_false, Bool.false_or, decide_true, decide_false, Bool.false_eq_true, if_false, if_true]
  have sx1 : x1.size ≤ 1048576 := by omega
  obtain ⟨r1, r2, r3, r4, r5, r6, r7, r8, r9, r10, r11, k1, k2, qr9, tr9, _⟩ := both_ReadMsg x1 sx1
  have mr9 : ∀ r ∈ r9, r.length = 2 := fun r hr => typL_len _ r (tr9 r hr)
  have f1 := markMsg_eq r1 r2 r3 r4 r5 r6 r7 r8 r9 r10 mr9 qr9 (1) (by omega) (by omega)
  have f2 : decide (1 + 2 * (r9.length : Int) < 0) = false := decide_eq_false (by omega)
  have f3 := heldMsg_eq r1 r2 r3 r4 r5 r6 r7 r8 r9 r10 mr9 qr9 (1) (by omega) (by omega)
  have f4 : decide (1 + 2 * (r9.length : Int) < 0) = false := decide_eq_false (by omega)
  simp only [t13, ta13, n1, k1, k2, eqMsg_self r1 r2 r3 r4 r5 r6 r7 r8 r9 r10 qr9 tr9, f1, f2, f3, f4, zr40, zo40, zr54, zo54, zr55, zo55, zr56, zo56, zr57, zo57, okR, isVs, isV, isD, isDs, isOs, resC, outC, nthR, nthO, cellsDV, nthD, asB, asI, asS, asL, Bool.and_true, Bool.true_and, Bool.true_or, BEq.rfl, chk_true, bne_self_eq_false, Bool.not_true, Bool.not_false, Bool.or_self, Bool.or_false, Bool.false_or, decide_true, decide_false, Bool.false_eq_true, if_false, if_true]
end Go.Den.L13
