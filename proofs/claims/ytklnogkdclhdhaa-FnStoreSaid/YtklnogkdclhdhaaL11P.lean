/- Plain laws about what the functions compute; no condition. -/
import Derived.Test.YtklnogkdclhdhaaL11Tw
import Derived.IntWalk
set_option linter.unusedVariables false
set_option linter.unusedSimpArgs false
/- How twins are taken apart. -/
namespace Go.Den.L11
open Go Go.IntWalk
theorem chk_true (x : Rs) : chk true x = x := rfl
theorem chk_ok {b : Bool} (h : b = true) (x : Rs) : chk b x = x := by rw [h]; rfl
attribute [simp] chk_true okR isVs isV isD isDs isOs resC outC nthR nthO cellsDV nthD asB asI asS asL
theorem ite_not {α : Type} (a b : Bool) (h : a = !b) (x y : α) : (if a = true then x else y) = (if b = true then y else x) := by
  subst h; cases b <;> rfl
theorem bool_some (a b : Bool) (h : a = b) : (some ([DV.one (.b a)], ([] : List (List D))) : Rs) = some ([.one (.b b)], []) := by rw [h]
theorem nil_toList : (⟨#[]⟩ : ByteArray).toList = [] := by rw [ByteArray.toList_eq]
theorem toList_nil (s : ByteArray) : s.toList = [] ↔ (s.size : Int) = 0 := by
  have e : s.size = s.data.toList.length := by rw [Array.length_toList]; rfl
  rw [ByteArray.toList_eq, e]
  cases s.data.toList <;> simp <;> omega
theorem toList_isEmpty (s : ByteArray) : s.toList.isEmpty = decide ((s.size : Int) = 0) := by
  rw [Bool.eq_iff_iff, List.isEmpty_iff, toList_nil]; simp
attribute [simp] nil_toList toList_nil toList_isEmpty
theorem KK_eq : KK = 18446744073709551616 := Classical.choose_spec (⟨2 ^ 64, rfl⟩ : ∃ n : Nat, n = 2 ^ 64)
theorem w64_in (n : Int) (h : -9223372036854775808 ≤ n ∧ n ≤ 9223372036854775807) : w64 n = n := i64_in n h
theorem getD_in {l : List (List D)} {i : Nat} (hi : i < l.length) : l.getD i [] = l[i] := by simp [List.getD, hi]
theorem getD_row {l : List (List D)} {es : List Sh} (h : ∀ r ∈ l, typL es r) {i : Nat} (hi : i < l.length) : typL es (l.getD i []) := by
  rw [getD_in hi]; exact h _ (List.getElem_mem hi)
theorem w64_succ (i : Nat) (h : i < 4611686018427387904) : w64 ((i : Int) + 1) = ((i + 1 : Nat) : Int) := by
  rw [w64_in _ (by omega)]; rfl
theorem within_eq (a b c : Int) : t76 a b c = some ([.one (.b (decide (b ≤ a) && decide (a ≤ c)))], []) := rfl
theorem in_eq (a b c : Int) : t83 a b c = some ([.one (.b (decide (b ≤ a) && decide (a ≤ c)))], []) := rfl
end Go.Den.L11

/- Sizes; copies of rows. -/
namespace Go.Den.L11
open Go
mutual
/-- What was found small enough. -/
def szdD : Sh → D → Prop
  | .b, _ => True
  | .i _, _ => True
  | .s, d => (asS d).size ≤ 1048576
  | .l es, d => (asL d).length ≤ 1048576 ∧ ∀ r ∈ asL d, szdL es r
def szdL : List Sh → List D → Prop
  | [], _ => True
  | e :: es, ds => szdD e (nthD ds 0) ∧ szdL es ds.tail
end
theorem mem_getD {l : List (List D)} {i : Nat} (h : i < l.length) : l.getD i [] ∈ l := by rw [getD_in h]; exact List.getElem_mem h
theorem nat_in {i n : Nat} (h : i < n) : decide ((i : Int) < (n : Int)) = true := by simp; omega
theorem nat_pos (i : Nat) : decide ((0 : Int) ≤ (i : Int)) = true := by simp
end Go.Den.L11

/- Types Snap Entry EntryS Kept Rec RecS Store Dirent DirentS Inode InodeS Vol IntS Cred Call Result Note NoteS Session SessionS Tenant TenantS Slot SlotS Msg MsgS Core: sizes, copies, likeness (printed by fam.py). -/
namespace Go.Den.L11
open Go
abbrev shEntry : List Sh := [.i .i64, .s]
theorem Entry_row {r : List D} (h : typL shEntry r) : ∃ x1 x2, r = [.i .i64 x1, .s x2] ∧ x2.size ≤ maxLen := by
  obtain ⟨_, _, rfl, ⟨x1, rfl, _⟩, ⟨_, _, rfl, ⟨x2, rfl, wx2⟩, rfl⟩⟩ := h
  exact ⟨x1, x2, rfl, wx2⟩
abbrev shRec : List Sh := [.i .i64, .i .i64, .i .i64, .i .i64, .s]
theorem Rec_row {r : List D} (h : typL shRec r) : ∃ x1 x2 x3 x4 x5, r = [.i .i64 x1, .i .i64 x2, .i .i64 x3, .i .i64 x4, .s x5] ∧ x5.size ≤ maxLen := by
  obtain ⟨_, _, rfl, ⟨x1, rfl, _⟩, ⟨_, _, rfl, ⟨x2, rfl, _⟩, ⟨_, _, rfl, ⟨x3, rfl, _⟩, ⟨_, _, rfl, ⟨x4, rfl, _⟩, ⟨_, _, rfl, ⟨x5, rfl, wx5⟩, rfl⟩⟩⟩⟩⟩ := h
  exact ⟨x1, x2, x3, x4, x5, rfl, wx5⟩
end Go.Den.L11

/- Places, batches. -/
namespace Go.Den.L11
open Go
theorem row_in {sh : List Sh} {l : List (List D)} (h : ∀ r ∈ l, typL sh r) (z : List D) (hz : ∀ r, typL sh r → isRow z r = true) (i : Nat) (hi : i < l.length) : isRow z (l.getD i []) = true := hz _ (getD_row h hi)
theorem entry_row : ∀ r, typL shEntry r → isRow z90 r = true := fun r h => by
  obtain ⟨a, b, rfl, _⟩ := Entry_row h; rfl
/-- A batch: terms that do not fall, up to t; none too long. -/
def runB (l : List (List D)) (t : Int) : Nat → Nat → Int → Bool
  | 0, _, _ => true
  | k + 1, i, p => decide (p ≤ asI (nthD (l.getD i []) 0) ∧ asI (nthD (l.getD i []) 0) ≤ t ∧ ((asS (nthD (l.getD i []) 1)).size : Int) ≤ 1600) && runB l t k (i + 1) (asI (nthD (l.getD i []) 0))
/-- A message that may be. -/
def placeB (a b : Int) : Bool := decide ((a = 0 ∧ b = 0) ∨ (1 ≤ a ∧ a ≤ 100000 ∧ 1 ≤ b ∧ b ≤ 100000))
theorem place_spec (a b : Int) : t84 a b = some ([.one (.b (placeB a b))], []) := by
  simp only [t84, ta84, in_eq, zr83, zo83, okR, isVs, isV, isD, isOs, resC, nthR, cellsDV, nthD, asB, Bool.and_true, Bool.true_or, chk_true]
  split <;> (apply bool_some; unfold placeB; rw [Bool.eq_iff_iff]; simp_all; try omega)
end Go.Den.L11

/- Marks. -/
namespace Go.Den.L11
open Go
end Go.Den.L11

/- Kept ones, cores. -/
namespace Go.Den.L11
open Go
def mx (p : Int) : Int := if p < 1 then 1 else p
theorem flat_of {n : Nat} {l : List (List D)} (h : ∀ r ∈ l, (decide (r.length = n) && allSc r) = true) : flatR n l = true := by
  induction l with
  | nil => rfl
  | cons r l ih => simp only [flatR, h r (by simp), ih (fun r hr => h r (by simp [hr])), Bool.and_true]
theorem entry_flat {l : List (List D)} (h : ∀ r ∈ l, typL shEntry r) : flatR 2 l = true := flat_of fun r hr => by
  obtain ⟨a, b, rfl, _⟩ := Entry_row (h r hr); rfl
theorem kept_loopS (n23 n24 n25 n26 : Int) (s27 : ByteArray) (l28 : List (List D)) (b29 b32 : Bool) (t n36 n37 n38 : Int) (s39 : ByteArray) (q1 : Int → Int → Bool → Bool → Int → ByteArray → Rs) (q2 : Int → Int → Bool → SV → Rs) (h1 : ∀ a b c d e f, q1 a b c d e f = some ([.one (.b false)], [])) (h2 : ∀ a b c d, q2 a b c d = some ([.one (.b true)], [])) (l : List (List D)) (h : ∀ r ∈ l, typL shEntry r) (hl : l.length < 4611686018427387904) : ∀ (k i m : Nat) (p : Int) (v w : SV), i + k = l.length → k < m →
    la51o1 t83 t84 n23 n24 n25 n26 s27 l28 b29 b32 t n36 n37 n38 s39 l q1 q2 m p i v w = some ([.one (.b (runB l t k i (mx p)))], []) := by
  intro k
  induction k with
  | zero =>
    intro i m p v w e hm
    obtain ⟨m, rfl⟩ : ∃ m', m = m' + 1 := ⟨m - 1, by omega⟩
    have ei : decide ((i : Int) < (l.length : Int)) = false := by simp; omega
    simp only [la51o1, ei, h2, runB]
    simp
  | succ k ih =>
    intro i m p v w e hm
    obtain ⟨m, rfl⟩ : ∃ m', m = m' + 1 := ⟨m - 1, by omega⟩
    have e1 := nat_in (i := i) (n := l.length) (by omega)
    have ez := row_in h _ entry_row i (by omega)
    simp only [la51o1, e1, nat_pos, Int.toNat_natCast, ez, Bool.and_true, chk_true, if_true, runB]
    rw [w64_succ i (by omega)]
    have hm1 : mx p = if p < 1 then 1 else p := rfl
    by_cases g : mx p ≤ asI (nthD (l.getD i []) 0) ∧ asI (nthD (l.getD i []) 0) ≤ t ∧ ((asS (nthD (l.getD i []) 1)).size : Int) ≤ 1600
    · have g1 : (((decide (asI (nthD (l.getD i []) 0) < 1) || decide (asI (nthD (l.getD i []) 0) < p)) || decide (asI (nthD (l.getD i []) 0) > t)) || decide (((asS (nthD (l.getD i []) 1)).size : Int) > 1600)) = false := by
        simp only [Bool.or_eq_false_iff, decide_eq_false_iff_not]; rw [hm1] at g; split at g <;> omega
      simp only [g1, decide_eq_true g, Bool.true_and, Bool.false_eq_true, if_false]
      have hmx : mx (asI (nthD (l.getD i []) 0)) = asI (nthD (l.getD i []) 0) := by unfold mx; rw [hm1] at g; split at g <;> (rw [if_neg (by omega)])
      have := ih (i + 1) m (asI (nthD (l.getD i []) 0)) (.d (.b true)) (.d (.b false)) (by omega) (by omega)
      rw [hmx] at this
      exact this
    · have g1 : (((decide (asI (nthD (l.getD i []) 0) < 1) || decide (asI (nthD (l.getD i []) 0) < p)) || decide (asI (nthD (l.getD i []) 0) > t)) || decide (((asS (nthD (l.getD i []) 1)).size : Int) > 1600)) = true := by
        simp only [Bool.or_eq_true, decide_eq_true_eq]; rw [hm1] at g; split at g <;> omega
      simp only [g1, if_true, h1, decide_eq_false g, Bool.false_and]
theorem kept_loopI (n26 n27 n28 n29 : Int) (s30 : ByteArray) (l31 : List (List D)) (b32 b34 b35 : Bool) (t n42 n43 n44 : Int) (s45 : ByteArray) (l46 : List (List D)) (q1 : Int → Int → Bool → Bool → Int → ByteArray → Rs) (q2 : Int → Int → Bool → SV → Rs) (g : Bool) (h1 : ∀ a b c d e f, q1 a b c d e f = some ([.one (.b false)], [])) (h2 : ∀ a b c d, q2 a b c d = some ([.one (.b g)], [])) (l : List (List D)) (h : ∀ r ∈ l, typL shEntry r) (hl : l.length < 4611686018427387904) : ∀ (k i m : Nat) (p : Int) (v w : SV), i + k = l.length → k < m →
    la56o2 t76 n26 n27 n28 n29 s30 l31 b32 b34 b35 l (l.length : Int) t n42 n43 n44 s45 l46 q1 q2 m p i v w = some ([.one (.b (runB l t k i p && g))], []) := by
  intro k
  induction k with
  | zero =>
    intro i m p v w e hm
    obtain ⟨m, rfl⟩ : ∃ m', m = m' + 1 := ⟨m - 1, by omega⟩
    have ei : decide ((i : Int) < (l.length : Int)) = false := by simp; omega
    simp only [la56o2, ei, h2, runB]
    simp
  | succ k ih =>
    intro i m p v w e hm
    obtain ⟨m, rfl⟩ : ∃ m', m = m' + 1 := ⟨m - 1, by omega⟩
    have e1 := nat_in (i := i) (n := l.length) (by omega)
    have ez := row_in h _ entry_row i (by omega)
    have ew : ∀ x, okR zr76 zo76 (some ([.one (.b x)], [])) = true := fun _ => rfl
    have eb : ∀ x, asB (resC (some ([.one (.b x)], [])) 0 0) = x := fun _ => rfl
    simp only [la56o2, e1, nat_pos, Int.toNat_natCast, ez, within_eq, ew, eb, Bool.and_true, Bool.true_or, chk_true, if_true, runB]
    rw [w64_succ i (by omega)]
    by_cases g' : p ≤ asI (nthD (l.getD i []) 0) ∧ asI (nthD (l.getD i []) 0) ≤ t ∧ ((asS (nthD (l.getD i []) 1)).size : Int) ≤ 1600
    · have g1 : (decide (((asS (nthD (l.getD i []) 1)).size : Int) > 1600) || !(decide (p ≤ asI (nthD (l.getD i []) 0)) && decide (asI (nthD (l.getD i []) 0) ≤ t))) = false := by
        simp only [Bool.or_eq_false_iff, Bool.not_eq_false', Bool.and_eq_true, decide_eq_false_iff_not, decide_eq_true_eq]; omega
      simp only [g1, decide_eq_true g', Bool.true_and, Bool.false_eq_true, if_false]
      exact ih (i + 1) m _ _ _ (by omega) (by omega)
    · have g1 : (decide (((asS (nthD (l.getD i []) 1)).size : Int) > 1600) || !(decide (p ≤ asI (nthD (l.getD i []) 0)) && decide (asI (nthD (l.getD i []) 0) ≤ t))) = true := by
        simp only [Bool.or_eq_true, Bool.not_eq_true', Bool.and_eq_false_iff, decide_eq_false_iff_not, decide_eq_true_eq]; omega
      simp only [g1, if_true, h1, decide_eq_false g', Bool.false_and]
def keptA (t v si st : Int) (ss : ByteArray) (l : List (List D)) : Bool :=
  decide (0 ≤ t ∧ t ≤ 100000 ∧ -1 ≤ v ∧ v ≤ 4 ∧ (si = 0 → (ss.size : Int) = 0) ∧ (ss.size : Int) ≤ 20000 ∧ st ≤ t ∧ (l.length : Int) ≤ 60 ∧ w64 (si + (l.length : Int)) ≤ 100000) && placeB si st
def keptB (t v si st : Int) (ss : ByteArray) (l : List (List D)) : Bool := keptA t v si st ss l && runB l t l.length 0 (mx st)
theorem keptOk_spec (t v si st : Int) (ss : ByteArray) (l : List (List D)) (hl : l.length ≤ 1048576) (h : ∀ r ∈ l, typL shEntry r) : t51 t v si st ss l = some ([.one (.b (keptB t v si st ss l))], []) := by
  have ew : ∀ x, okR zr83 zo83 (some ([.one (.b x)], [])) = true := fun _ => rfl
  have ew2 : ∀ x, okR zr84 zo84 (some ([.one (.b x)], [])) = true := fun _ => rfl
  have eb : ∀ x, asB (resC (some ([.one (.b x)], [])) 0 0) = x := fun _ => rfl
  have key := fun b29 b32 => kept_loopS t v si st ss l b29 b32 t v si st ss (fun _ _ _ _ _ _ => some ([.one (.b false)], [])) (fun _ _ _ _ => some ([.one (.b true)], [])) (fun _ _ _ _ _ _ => rfl) (fun _ _ _ _ => rfl) l h (by omega) l.length 0 KK st .undef .undef (by omega) (by rw [KK_eq]; omega)
  simp only [t51, ta51, in_eq, place_spec, ew, ew2, eb, Bool.true_or, chk_true]
  rw [ite_not _ (keptA t v si st ss l)]
  · unfold keptB
    cases keptA t v si st ss l
    · rfl
    · refine Eq.trans (key _ _) ?_; simp
  · unfold keptA
    generalize placeB si st = pl
    rw [Bool.eq_iff_iff]
    cases pl <;> simp [-ByteArray.size_eq_zero_iff] <;> try omega
theorem keptOk_impl (t v si st : Int) (ss : ByteArray) (l : List (List D)) (hl : l.length ≤ 1048576) (h : ∀ r ∈ l, typL shEntry r) : t56 t v si st ss l = some ([.one (.b (keptB t v si st ss l))], []) := by
  have ew : ∀ x, okR zr76 zo76 (some ([.one (.b x)], [])) = true := fun _ => rfl
  have eb : ∀ x, asB (resC (some ([.one (.b x)], [])) 0 0) = x := fun _ => rfl
  have key := fun b32 b34 b35 => kept_loopI t v si st ss l b32 b34 b35 t v si st ss l (fun _ _ _ _ _ _ => some ([.one (.b false)], [])) (fun _ _ _ _ => some ([.one (.b (decide (w64 (si + (l.length : Int)) ≤ 100000)))], [])) _ (fun _ _ _ _ _ _ => rfl) (fun _ _ _ _ => rfl) l h (by omega) l.length 0 KK (mx st) .undef .undef (by omega) (by rw [KK_eq]; omega)
  have e : (if st > 1 then st else 1) = mx st := by unfold mx; split <;> split <;> omega
  simp only [t56, ta56, within_eq, ew, eb, Bool.true_or, chk_true, e]
  unfold keptB keptA placeB
  split
  · rename_i g
    apply bool_some
    symm
    rw [Bool.eq_false_iff]
    simp at g ⊢
    omega
  · rename_i g
    split
    · rename_i g2
      apply bool_some
      symm
      rw [Bool.eq_false_iff]
      simp [-ByteArray.size_eq_zero_iff] at g g2 ⊢
      omega
    · rename_i g2
      refine Eq.trans (key _ _ _) ?_
      apply bool_some
      rw [Bool.eq_iff_iff]
      generalize runB l t l.length 0 (mx st) = r
      cases r
      · simp
      · simp [-ByteArray.size_eq_zero_iff] at g g2 ⊢
        omega
end Go.Den.L11

/- Records: are they right, do they fit, what they lead to. -/
namespace Go.Den.L11
open Go
structure KS where
  (t v si st : Int) (sd : ByteArray) (es : List (List D))
structure RC where
  (k t i v : Int) (d : ByteArray)
def kD (k : KS) : List D := [.i .i64 k.t, .i .i64 k.v, .i .i64 k.si, .i .i64 k.st, .s k.sd, .l k.es]
def recOk (r : RC) : Bool :=
  (decide (r.k = 1) && decide (0 ≤ r.t ∧ r.t ≤ 100000 ∧ -1 ≤ r.v ∧ r.v ≤ 4 ∧ r.i = 0 ∧ (r.d.size : Int) = 0)) ||
  (decide (r.k = 2) && decide (1 ≤ r.t ∧ r.t ≤ 100000 ∧ 1 ≤ r.i ∧ r.i ≤ 100000 ∧ r.v = 0 ∧ (r.d.size : Int) ≤ 1600)) ||
  (decide (r.k = 3) && decide (r.t = 0 ∧ 1 ≤ r.i ∧ r.i ≤ 100000 ∧ r.v = 0 ∧ (r.d.size : Int) = 0)) ||
  (decide (r.k = 4) && decide (1 ≤ r.t ∧ r.t ≤ 100000 ∧ 1 ≤ r.i ∧ r.i ≤ 100000 ∧ r.v = 0 ∧ (r.d.size : Int) ≤ 20000))
def lastT (k : KS) : Int := if k.es.length = 0 then k.st else asI (nthD (k.es.getD (k.es.length - 1) []) 0)
def fitsB (k : KS) (r : RC) : Bool :=
  if r.k = 1 then decide (r.t > k.t ∨ (r.t = k.t ∧ (k.v = -1 ∨ r.v = k.v)))
  else if r.k = 2 then decide (r.i = k.si + (k.es.length : Int) + 1 ∧ k.es.length < 60 ∧ lastT k ≤ r.t ∧ r.t ≤ k.t)
  else if r.k = 3 then decide (k.si < r.i ∧ r.i ≤ k.si + (k.es.length : Int))
  else decide (k.si < r.i ∧ r.t ≤ k.t)
def behindA (k : KS) (i t : Int) : List (List D) :=
  if i - k.si ≤ (k.es.length : Int) ∧ asI (nthD (k.es.getD (i - k.si - 1).toNat []) 0) = t then k.es.drop (i - k.si).toNat else []
def stepK (k : KS) (r : RC) : KS × Bool :=
  if recOk r && fitsB k r then
    if r.k = 1 then (⟨r.t, r.v, k.si, k.st, k.sd, k.es⟩, true)
    else if r.k = 2 then (⟨k.t, k.v, k.si, k.st, k.sd, k.es ++ [[.i .i64 r.t, .s r.d]]⟩, true)
    else if r.k = 3 then (⟨k.t, k.v, k.si, k.st, k.sd, k.es.take (r.i - k.si - 1).toNat⟩, true)
    else (⟨k.t, k.v, r.i, r.t, r.d, behindA k r.i r.t⟩, true)
  else (k, false)
/-- What every kept one that is right fulfils. -/
structure KI (k : KS) : Prop where
  h0 : 0 ≤ k.si
  h1 : k.si ≤ 100000
  h2 : k.es.length ≤ 60
  h3 : ∀ r ∈ k.es, typL shEntry r
theorem wfi64 (n : Int) (h : -9223372036854775808 ≤ n ∧ n ≤ 9223372036854775807) : (Lit.int .i64 n).wf = true := by
  have : IntKind.wrap .i64 n = n := w64_in n h
  simp [Lit.wf, this]
  exact h
theorem KI.step {k : KS} (h : KI k) (r : RC) (g : recOk r = true) : KI (stepK k r).1 := by
  unfold stepK
  split
  · rename_i hc
    simp only [Bool.and_eq_true] at hc
    have hf := hc.2
    have hr := hc.1
    simp only [recOk, Bool.or_eq_true, Bool.and_eq_true, decide_eq_true_eq] at hr
    split
    · exact ⟨h.h0, h.h1, h.h2, h.h3⟩
    split
    · rename_i h2
      simp only [fitsB, h2] at hf
      simp at hf
      refine ⟨h.h0, h.h1, by simp; omega, fun x hx => ?_⟩
      rcases List.mem_append.1 hx with hx | hx
      · exact h.h3 x hx
      · simp at hx; subst hx
        have hm : 1600 ≤ maxLen := by decide
        exact ⟨_, _, rfl, ⟨r.t, rfl, wfi64 _ (by omega)⟩, _, _, rfl, ⟨r.d, rfl, by omega⟩, rfl⟩
    split
    · exact ⟨h.h0, h.h1, by have := h.h2; simp; omega, fun x hx => h.h3 x (List.mem_of_mem_take hx)⟩
    · refine ⟨by simp only; omega, by simp only; omega, ?_, fun x hx => ?_⟩
      · have := h.h2
        unfold behindA; split
        · simp; omega
        · simp
      · unfold behindA at hx; split at hx
        · exact h.h3 x (List.mem_of_mem_drop hx)
        · simp at hx
  · exact h
theorem keptB_KI {t v si st : Int} {ss : ByteArray} {l : List (List D)} (h : ∀ r ∈ l, typL shEntry r) (hb : keptB t v si st ss l = true) : KI ⟨t, v, si, st, ss, l⟩ := by
  simp only [keptB, keptA, placeB, Bool.and_eq_true, decide_eq_true_eq] at hb
  exact ⟨by simp only; omega, by simp only; omega, by simp only; omega, h⟩
theorem recOk_spec (a b c d : Int) (e : ByteArray) : t85 a b c d e = some ([.one (.b (recOk ⟨a, b, c, d, e⟩))], []) := by
  simp [-ByteArray.size_eq_zero_iff, t85, ta85, in_eq, zr83, zo83, recOk]
  (repeat' split) <;> (apply bool_some; rw [Bool.eq_iff_iff]; simp [-ByteArray.size_eq_zero_iff]; omega)
theorem recOk_impl (a b c d : Int) (e : ByteArray) : t45 a b c d e = some ([.one (.b (recOk ⟨a, b, c, d, e⟩))], []) := by
  simp [-ByteArray.size_eq_zero_iff, t45, ta45, within_eq, zr76, zo76, recOk]
  (repeat' split) <;> (apply bool_some; rw [Bool.eq_iff_iff]; simp [-ByteArray.size_eq_zero_iff]; omega)
theorem last_row {k : KS} (h : KI k) (hn : ¬ k.es.length = 0) : w64 ((k.es.length : Int) - 1) = ((k.es.length - 1 : Nat) : Int) ∧ (decide ((0 : Int) ≤ ((k.es.length - 1 : Nat) : Int)) && decide (((k.es.length - 1 : Nat) : Int) < (k.es.length : Int)) && isRow z90 (k.es.getD (k.es.length - 1) [])) = true := by
  have := h.h2
  refine ⟨by rw [w64_in _ (by omega)]; omega, ?_⟩
  rw [nat_pos, nat_in (show k.es.length - 1 < k.es.length by omega), row_in h.h3 _ entry_row _ (by omega)]
  rfl
theorem lastT_spec (k : KS) (h : KI k) : t94 k.t k.v k.si k.st k.sd k.es = some ([.one (.i .i64 (lastT k))], []) := by
  unfold t94 lastT
  by_cases hn : k.es.length = 0
  · have e : ((k.es.length : Int) == 0) = true := by simp [hn]
    simp only [e, if_true, if_pos hn]
  · have e : ((k.es.length : Int) == 0) = false := by rw [beq_eq_false_iff_ne]; omega
    obtain ⟨e1, e2⟩ := last_row h hn
    simp only [e, Bool.false_eq_true, if_false, if_neg hn, e1, Int.toNat_natCast, e2, chk_true]
theorem fits_spec (k : KS) (h : KI k) (r : RC) (hr : recOk r = true) : t86 k.t k.v k.si k.st k.sd k.es r.k r.t r.i r.v r.d = some ([.one (.b (fitsB k r))], []) := by
  have h0 := h.h0; have h1 := h.h1; have h2 := h.h2
  have ew : ∀ x, okR zr94 zo94 (some ([.one (.i .i64 x)], [])) = true := fun _ => rfl
  have eb : ∀ x, asI (resC (some ([.one (.i .i64 x)], [])) 0 0) = x := fun _ => rfl
  have e1 : w64 (k.si + (k.es.length : Int)) = k.si + (k.es.length : Int) := w64_in _ (by omega)
  have e2 : w64 (k.si + (k.es.length : Int) + 1) = k.si + (k.es.length : Int) + 1 := w64_in _ (by omega)
  simp only [t86, ta86, lastT_spec k h, ew, eb, e1, e2, Bool.true_or, chk_true, fitsB]
  have hk : r.k = 1 ∨ r.k = 2 ∨ r.k = 3 ∨ r.k = 4 := by
    simp only [recOk, Bool.or_eq_true, Bool.and_eq_true, decide_eq_true_eq] at hr; omega
  rcases hk with hk | hk | hk | hk <;> (simp [hk]; try (rw [Bool.eq_iff_iff]; simp; try omega))
theorem last_implK (k : KS) (h : KI k) : t95 k.t k.v k.si k.st k.sd k.es = some ([.one (.i .i64 (k.si + (k.es.length : Int))), .one (.i .i64 (lastT k))], []) := by
  have h0 := h.h0; have h1 := h.h1; have h2 := h.h2
  have e1 : w64 (k.si + (k.es.length : Int)) = k.si + (k.es.length : Int) := w64_in _ (by omega)
  unfold t95 lastT
  by_cases hn : k.es.length = 0
  · have e : ((k.es.length : Int) == 0) = true := by simp [hn]
    have e0 : k.si + (k.es.length : Int) = k.si := by omega
    simp only [e, if_true, if_pos hn, e0]
  · have e : ((k.es.length : Int) == 0) = false := by rw [beq_eq_false_iff_ne]; omega
    obtain ⟨e3, e2⟩ := last_row h hn
    simp only [e, Bool.false_eq_true, if_false, if_neg hn, e1, e3, Int.toNat_natCast, e2, chk_true]
theorem fits_impl (k : KS) (h : KI k) (r : RC) (hr : recOk r = true) : t88 k.t k.v k.si k.st k.sd k.es r.k r.t r.i r.v r.d = some ([.one (.b (fitsB k r))], []) := by
  have h0 := h.h0; have h1 := h.h1; have h2 := h.h2
  have ew : ∀ x y, okR zr95 zo95 (some ([.one (.i .i64 x), .one (.i .i64 y)], [])) = true := fun _ _ => rfl
  have eb : ∀ x y, asI (resC (some ([.one (.i .i64 x), .one (.i .i64 y)], [])) 0 0) = x := fun _ _ => rfl
  have ec : ∀ x y, asI (resC (some ([.one (.i .i64 x), .one (.i .i64 y)], [])) 1 0) = y := fun _ _ => rfl
  have ew2 : ∀ x, okR zr76 zo76 (some ([.one (.b x)], [])) = true := fun _ => rfl
  have eb2 : ∀ x, asB (resC (some ([.one (.b x)], [])) 0 0) = x := fun _ => rfl
  have e2 : w64 (k.si + (k.es.length : Int) + 1) = k.si + (k.es.length : Int) + 1 := w64_in _ (by omega)
  have e3 : w64 (k.si + 1) = k.si + 1 := w64_in _ (by omega)
  simp only [t88, ta88, last_implK k h, within_eq, ew, eb, ec, ew2, eb2, e2, e3, Bool.true_or, chk_true, fitsB]
  have hk : r.k = 1 ∨ r.k = 2 ∨ r.k = 3 ∨ r.k = 4 := by
    simp only [recOk, Bool.or_eq_true, Bool.and_eq_true, decide_eq_true_eq] at hr; omega
  rcases hk with hk | hk | hk | hk <;> (simp [hk]; try (rw [Bool.eq_iff_iff]; simp; try omega))
theorem eflat1 (t : Int) (d : ByteArray) (l : List (List D)) (h : l.length ≤ 60) : ((flatR 2 [[.i .i64 t, .s d]]) && decide (l.length + [[D.i .i64 t, D.s d]].length ≤ lim)) = true := by
  have : l.length + 1 ≤ lim := by unfold lim; omega
  simpa [flatR, allSc, isSc] using this
theorem edrop {k : KS} (h : KI k) (n : Nat) : flatR 2 (k.es.drop n) = true := entry_flat fun r hr => h.h3 r (List.mem_of_mem_drop hr)
theorem step_spec (k : KS) (h : KI k) (r : RC) : t52 k.t k.v k.si k.st k.sd k.es r.k r.t r.i r.v r.d = some ([.agg (kD (stepK k r).1), .one (.b (stepK k r).2)], []) := by
  have h0 := h.h0; have h1 := h.h1; have h2 := h.h2
  have ew : ∀ x, okR zr85 zo85 (some ([.one (.b x)], [])) = true := fun _ => rfl
  have ew2 : ∀ x, okR zr86 zo86 (some ([.one (.b x)], [])) = true := fun _ => rfl
  have eb : ∀ x, asB (resC (some ([.one (.b x)], [])) 0 0) = x := fun _ => rfl
  simp only [t52, ta52, recOk_spec, ew, eb, chk_true]
  unfold stepK
  cases hr : recOk r
  · simp only [Bool.not_false, Bool.not_true, Bool.or_true, Bool.true_or, chk_true, if_true, Bool.false_and, Bool.false_eq_true, if_false]
    rfl
  · simp only [fits_spec k h r hr, ew2, eb, Bool.not_true, Bool.not_false, Bool.or_true, Bool.true_or, Bool.false_or, Bool.true_and, chk_true]
    cases hf : fitsB k r
    · simp only [Bool.not_false, if_true, Bool.false_eq_true, if_false]
      rfl
    · simp only [Bool.not_true, Bool.false_eq_true, if_false, if_true]
      have hr' := hr
      simp only [recOk, Bool.or_eq_true, Bool.and_eq_true, decide_eq_true_eq] at hr'
      have hk : r.k = 1 ∨ r.k = 2 ∨ r.k = 3 ∨ r.k = 4 := by omega
      rcases hk with hk | hk | hk | hk
      · simp only [hk]; rfl
      · have g1 : (r.k == 1) = false := by rw [hk]; rfl
        have g2 : (r.k == 2) = true := by rw [hk]; rfl
        simp only [g1, g2, Bool.false_eq_true, if_false, if_true, eflat1 _ _ _ h2, chk_true, if_neg (show ¬ r.k = 1 by omega), if_pos hk]
        rfl
      · have g1 : (r.k == 1) = false := by rw [hk]; rfl
        have g2 : (r.k == 2) = false := by rw [hk]; rfl
        have g3 : (r.k == 3) = true := by rw [hk]; rfl
        have hf' : k.si < r.i ∧ r.i ≤ k.si + (k.es.length : Int) := by simpa [fitsB, hk] using hf
        have e1 : w64 (w64 (r.i - k.si) - 1) = r.i - k.si - 1 := by rw [w64_in (r.i - k.si) (by omega), w64_in _ (by omega)]
        have e2 : decide (0 ≤ r.i - k.si - 1 ∧ r.i - k.si - 1 ≤ (k.es.length : Int)) = true := decide_eq_true (by omega)
        simp only [g1, g2, g3, Bool.false_eq_true, if_false, if_true, e1, e2, chk_true, if_neg (show ¬ r.k = 1 by omega), if_neg (show ¬ r.k = 2 by omega), if_pos hk]
        rfl
      · have g1 : (r.k == 1) = false := by rw [hk]; rfl
        have g2 : (r.k == 2) = false := by rw [hk]; rfl
        have g3 : (r.k == 3) = false := by rw [hk]; rfl
        have hf' : k.si < r.i ∧ r.t ≤ k.t := by simpa [fitsB, hk] using hf
        have eB : t65 k.t k.v k.si k.st k.sd k.es r.i r.t = some ([.one (.l (behindA k r.i r.t))], []) := by
          have e1 : w64 (r.i - k.si) = r.i - k.si := w64_in _ (by omega)
          have e2 : w64 (r.i - k.si - 1) = r.i - k.si - 1 := w64_in _ (by omega)
          have e3 : decide (r.i - k.si ≥ 1) = true := decide_eq_true (by omega)
          simp only [t65, e1, e2, e3, Bool.true_and, behindA]
          by_cases hl : r.i - k.si ≤ (k.es.length : Int)
          · have e4 : decide (r.i - k.si ≤ (k.es.length : Int)) = true := decide_eq_true hl
            have e5 : (decide (0 ≤ r.i - k.si - 1) && decide (r.i - k.si - 1 < (k.es.length : Int)) && isRow z90 (k.es.getD (r.i - k.si - 1).toNat [])) = true := by
              rw [decide_eq_true (by omega), decide_eq_true (by omega), row_in h.h3 _ entry_row _ (by omega)]; rfl
            have e6 : decide (0 ≤ r.i - k.si ∧ r.i - k.si ≤ (k.es.length : Int) ∧ (k.es.getD 0 z90).length = z90.length) = true := by
              refine decide_eq_true ⟨by omega, hl, ?_⟩
              cases hes : k.es with
              | nil => rfl
              | cons x xs =>
                have := h.h3 x (by rw [hes]; simp)
                obtain ⟨a, b, rfl, _⟩ := Entry_row this
                rfl
            have e7 : ((flatR 2 (k.es.drop (r.i - k.si).toNat)) && decide (([] : List (List D)).length + (k.es.drop (r.i - k.si).toNat).length ≤ lim)) = true := by
              rw [edrop h, decide_eq_true (by unfold lim; simp; omega)]; rfl
            simp only [e4, e5, e6, e7, Bool.true_and, Bool.true_or, chk_true, List.nil_append]
            by_cases ht : asI (nthD (k.es.getD (r.i - k.si - 1).toNat []) 0) = r.t
            · rw [if_pos (by simpa using ht), if_pos ⟨hl, ht⟩]
            · rw [if_neg (by simpa using ht), if_neg (fun x => ht x.2)]
          · have e4 : decide (r.i - k.si ≤ (k.es.length : Int)) = false := decide_eq_false hl
            simp only [e4, Bool.not_false, Bool.or_true, chk_true, Bool.false_and, Bool.false_eq_true, if_false]
            rw [if_neg (fun x => hl x.1)]
        have ew3 : ∀ x, okR zr65 zo65 (some ([.one (.l x)], [])) = true := fun _ => rfl
        have eb3 : ∀ x, asL (resC (some ([.one (.l x)], [])) 0 0) = x := fun _ => rfl
        simp only [g1, g2, g3, Bool.false_eq_true, if_false, eB, ew3, eb3, chk_true, if_neg (show ¬ r.k = 1 by omega), if_neg (show ¬ r.k = 2 by omega), if_neg (show ¬ r.k = 3 by omega)]
        rfl
theorem step_impl (k : KS) (h : KI k) (r : RC) : t58 k.t k.v k.si k.st k.sd k.es r.k r.t r.i r.v r.d = some ([.one (.b (stepK k r).2)], [kD (stepK k r).1]) := by
  have h0 := h.h0; have h1 := h.h1; have h2 := h.h2
  have ew : ∀ x, okR zr45 zo45 (some ([.one (.b x)], [])) = true := fun _ => rfl
  have ew2 : ∀ x, okR zr88 zo88 (some ([.one (.b x)], [])) = true := fun _ => rfl
  have eb : ∀ x, asB (resC (some ([.one (.b x)], [])) 0 0) = x := fun _ => rfl
  simp only [t58, ta58, recOk_impl, ew, eb, chk_true]
  unfold stepK
  cases hr : recOk r
  · simp only [Bool.not_false, Bool.not_true, Bool.or_true, Bool.true_or, chk_true, if_true, Bool.false_and, Bool.false_eq_true, if_false]
    rfl
  · simp only [fits_impl k h r hr, ew2, eb, Bool.not_true, Bool.not_false, Bool.or_true, Bool.true_or, Bool.false_or, Bool.true_and, chk_true]
    cases hf : fitsB k r
    · simp only [Bool.not_false, if_true, Bool.false_eq_true, if_false]
      rfl
    · simp only [Bool.not_true, Bool.false_eq_true, if_false, if_true]
      have hr' := hr
      simp only [recOk, Bool.or_eq_true, Bool.and_eq_true, decide_eq_true_eq] at hr'
      have hk : r.k = 1 ∨ r.k = 2 ∨ r.k = 3 ∨ r.k = 4 := by omega
      rcases hk with hk | hk | hk | hk
      · simp only [hk]; rfl
      · have g1 : (r.k == 1) = false := by rw [hk]; rfl
        have g2 : (r.k == 2) = true := by rw [hk]; rfl
        simp only [g1, g2, Bool.false_eq_true, if_false, if_true, eflat1 _ _ _ h2, chk_true, if_neg (show ¬ r.k = 1 by omega), if_pos hk]
        rfl
      · have g1 : (r.k == 1) = false := by rw [hk]; rfl
        have g2 : (r.k == 2) = false := by rw [hk]; rfl
        have g3 : (r.k == 3) = true := by rw [hk]; rfl
        have hf' : k.si < r.i ∧ r.i ≤ k.si + (k.es.length : Int) := by simpa [fitsB, hk] using hf
        have e1 : w64 (w64 (r.i - k.si) - 1) = r.i - k.si - 1 := by rw [w64_in (r.i - k.si) (by omega), w64_in _ (by omega)]
        have e2 : decide (0 ≤ r.i - k.si - 1 ∧ r.i - k.si - 1 ≤ (k.es.length : Int) ∧ True) = true := decide_eq_true ⟨by omega, by omega, trivial⟩
        simp only [g1, g2, g3, Bool.false_eq_true, if_false, if_true, e1, e2, chk_true, if_neg (show ¬ r.k = 1 by omega), if_neg (show ¬ r.k = 2 by omega), if_pos hk]
        rfl
      · have g1 : (r.k == 1) = false := by rw [hk]; rfl
        have g2 : (r.k == 2) = false := by rw [hk]; rfl
        have g3 : (r.k == 3) = false := by rw [hk]; rfl
        have hf' : k.si < r.i ∧ r.t ≤ k.t := by simpa [fitsB, hk] using hf
        have e1 : w64 (r.i - k.si) = r.i - k.si := w64_in _ (by omega)
        have e2 : w64 (r.i - k.si - 1) = r.i - k.si - 1 := w64_in _ (by omega)
        simp only [g1, g2, g3, Bool.false_eq_true, if_false, e1, e2, if_neg (show ¬ r.k = 1 by omega), if_neg (show ¬ r.k = 2 by omega), if_neg (show ¬ r.k = 3 by omega), behindA]
        by_cases hl : r.i - k.si ≤ (k.es.length : Int)
        · have e4 : decide (r.i - k.si ≤ (k.es.length : Int)) = true := decide_eq_true hl
          have e5 : (decide (0 ≤ r.i - k.si - 1) && decide (r.i - k.si - 1 < (k.es.length : Int))) = true := by
            rw [decide_eq_true (by omega), decide_eq_true (by omega)]; rfl
          have e6 : (decide (1 ≤ (k.es.getD (r.i - k.si - 1).toNat []).length) && isF z3 0 (k.es.getD (r.i - k.si - 1).toNat [])) = true := by
            obtain ⟨a, b, he, _⟩ := Entry_row (getD_row h.h3 (i := (r.i - k.si - 1).toNat) (by omega))
            rw [he]; rfl
          have e8 : decide (0 ≤ r.i - k.si ∧ r.i - k.si ≤ (k.es.length : Int)) = true := decide_eq_true (by omega)
          have e7 : ((flatR 2 (k.es.drop (r.i - k.si).toNat)) && decide ((k.es.drop (r.i - k.si).toNat).length ≤ lim)) = true := by
            rw [edrop h, decide_eq_true (by unfold lim; simp; omega)]; rfl
          simp only [e4, e5, e6, e7, e8, Bool.true_and, Bool.true_or, chk_true]
          by_cases ht : asI (nthD (k.es.getD (r.i - k.si - 1).toNat []) 0) = r.t
          · rw [if_pos (by simpa using ht), if_pos ⟨hl, ht⟩]; rfl
          · rw [if_neg (by simpa using ht), if_neg (fun x => ht x.2)]; rfl
        · have e4 : decide (r.i - k.si ≤ (k.es.length : Int)) = false := decide_eq_false hl
          simp only [e4, Bool.not_false, Bool.or_true, chk_true, Bool.false_and, Bool.false_eq_true, if_false]
          rw [if_neg (fun x => hl x.1)]; rfl
end Go.Den.L11

/- A kept one's step. -/
namespace Go.Den.L11
open Go
theorem copy_flat {l : List (List D)} (h : ∀ r ∈ l, typL shEntry r) (hl : l.length ≤ 1048576) : ((flatR 2 l) && decide (([] : List (List D)).length + l.length ≤ lim)) = true ∧ ((flatR 2 l) && decide (l.length ≤ lim)) = true := by
  have e : decide (l.length ≤ lim) = true := decide_eq_true (by unfold lim; omega)
  have e2 : decide (([] : List (List D)).length + l.length ≤ lim) = true := decide_eq_true (by unfold lim; simp; omega)
  rw [entry_flat h, e, e2]; exact ⟨rfl, rfl⟩
theorem l3Copy_eq (t v si st : Int) (sd : ByteArray) (l : List (List D)) (h : ∀ r ∈ l, typL shEntry r) (hl : l.length ≤ 1048576) : t53 t v si st sd l = some ([.agg [.i .i64 t, .i .i64 v, .i .i64 si, .i .i64 st, .s sd, .l l]], []) := by
  simp only [t53, (copy_flat h hl).1, chk_true, List.nil_append]
theorem copyKept_eq (t v si st : Int) (sd : ByteArray) (l : List (List D)) (h : ∀ r ∈ l, typL shEntry r) (hl : l.length ≤ 1048576) : t57 t v si st sd l = some ([.agg [.i .i64 t, .i .i64 v, .i .i64 si, .i .i64 st, .s sd, .l l]], []) := by
  simp only [t57, (copy_flat h hl).2, chk_true]
theorem step_norec (k : KS) (r : RC) (g : recOk r = false) : stepK k r = (k, false) := by
  unfold stepK; rw [g]; rfl
theorem KI.step' {k : KS} (h : KI k) (r : RC) : KI (stepK k r).1 := by
  cases g : recOk r
  · rw [step_norec k r g]; exact h
  · exact h.step r g
end Go.Den.L11

/- Stores: what they come to. -/
namespace Go.Den.L11
open Go
theorem rec_row : ∀ r, typL shRec r → isRow z38 r = true := fun r h => by
  obtain ⟨a, b, c, d, e, rfl, _⟩ := Rec_row h; rfl
theorem rec_flat {l : List (List D)} (h : ∀ r ∈ l, typL shRec r) : flatR 5 l = true := flat_of fun r hr => by
  obtain ⟨a, b, c, d, e, rfl, _⟩ := Rec_row (h r hr); rfl
def rcOf (r : List D) : RC := ⟨asI (nthD r 0), asI (nthD r 1), asI (nthD r 2), asI (nthD r 3), asS (nthD r 4)⟩
/-- c records from number i on, each of them fitting. -/
def foldN (l : List (List D)) : Nat → Nat → KS → Option KS
  | 0, _, k => some k
  | c + 1, i, k => if (stepK k (rcOf (l.getD i []))).2 then foldN l c (i + 1) (stepK k (rcOf (l.getD i []))).1 else none
theorem foldN_KI (l : List (List D)) : ∀ (c i : Nat) (k K : KS), KI k → foldN l c i k = some K → KI K
  | 0, _, k, K, h, e => by cases e; exact h
  | c + 1, i, k, K, h, e => by
    simp only [foldN] at e
    split at e
    · exact foldN_KI l c (i + 1) _ K (h.step' _) e
    · cases e
theorem foldN_add (l : List (List D)) : ∀ (c d i : Nat) (k : KS), foldN l (c + d) i k = (foldN l c i k).bind (foldN l d (i + c))
  | 0, d, i, k => by simp [foldN]
  | c + 1, d, i, k => by
    rw [show c + 1 + d = (c + d) + 1 by omega]
    simp only [foldN]
    split
    · rw [foldN_add l c d (i + 1)]; rw [show i + 1 + c = i + (c + 1) by omega]
    · rfl
theorem foldN_take (l : List (List D)) (n : Nat) : ∀ (c i : Nat) (k : KS), i + c ≤ n → foldN (l.take n) c i k = foldN l c i k
  | 0, _, k, _ => rfl
  | c + 1, i, k, h => by
    have e : (l.take n).getD i [] = l.getD i [] := by simp [List.getD, List.getElem?_take, show i < n by omega]
    simp only [foldN, e]
    split
    · exact foldN_take l n c (i + 1) _ (by omega)
    · rfl
/-- What is to be of a store. -/
def storeV (k : KS) (l : List (List D)) : Option KS := if keptB k.t k.v k.si k.st k.sd k.es && decide (l.length ≤ 80) then foldN l l.length 0 k else none
theorem storeV_KI {k K : KS} {l : List (List D)} (h : ∀ r ∈ k.es, typL shEntry r) (e : storeV k l = some K) : KI k ∧ KI K ∧ l.length ≤ 80 := by
  unfold storeV at e
  split at e
  · rename_i hc
    simp only [Bool.and_eq_true, decide_eq_true_eq] at hc
    have hk : KI k := keptB_KI h hc.1
    exact ⟨hk, foldN_KI l _ _ _ _ hk e, hc.2⟩
  · cases e
theorem storeV_part {k K : KS} {l : List (List D)} (e : storeV k l = some K) (n : Nat) (hn : n ≤ l.length) : ∃ K', foldN l n 0 k = some K' ∧ storeV k (l.take n) = some K' := by
  unfold storeV at e
  split at e
  · rename_i hc
    have h2 := foldN_add l n (l.length - n) 0 k
    rw [show n + (l.length - n) = l.length by omega, e] at h2
    cases hf : foldN l n 0 k with
    | none => rw [hf] at h2; cases h2
    | some K' =>
      refine ⟨K', rfl, ?_⟩
      unfold storeV
      simp only [Bool.and_eq_true, decide_eq_true_eq] at hc
      rw [if_pos (by simp only [Bool.and_eq_true, decide_eq_true_eq]; exact ⟨hc.1, by simp; omega⟩)]
      rw [show (l.take n).length = n by simp; omega, foldN_take l n _ _ _ (by omega), hf]
  · cases e
theorem foldS_loop (n37 n38 n39 n40 : Int) (s41 : ByteArray) (l42 l43 : List (List D)) (n44 : Int) (b45 : Bool) (n50 n51 n52 n53 : Int) (s54 : ByteArray) (l55 l56 : List (List D)) (n57 n58 n59 n60 : Int) (s61 : ByteArray)
    (q1 : Int → Bool → Bool → Bool → Int → Int → Int → Int → ByteArray → Int → Int → Int → Int → ByteArray → List (List D) → Rs) (q2 : Int → SV → Bool → SV → Int → Int → Int → Int → ByteArray → List (List D) → Rs) (X : Rs) (F : KS → Rs)
    (h1 : ∀ a b c d e f g h i j k l m n o, q1 a b c d e f g h i j k l m n o = X) (h2 : ∀ a b c d (k : KS), q2 a b c d k.t k.v k.si k.st k.sd k.es = F k)
    (h : ∀ r ∈ l56, typL shRec r) (hl : l56.length ≤ 1048576) (stop : Nat) (hs : stop ≤ l56.length) (hc : ∀ i : Nat, (decide ((i : Int) < n44) && decide ((i : Int) < (l56.length : Int))) = decide (i < stop)) : ∀ (c i m : Nat) (k : KS) (u v w : SV), KI k → i + c = stop → c < m →
    la63o0 t52 t53 n37 n38 n39 n40 s41 l42 l43 n44 b45 n50 n51 n52 n53 s54 l55 l56 n57 n58 n59 n60 s61 q1 q2 m i u v w k.t k.v k.si k.st k.sd k.es = (match foldN l56 c i k with | some K => F K | none => X) := by
  intro c
  induction c with
  | zero =>
    intro i m k u v w _ e hm
    obtain ⟨m, rfl⟩ : ∃ m', m = m' + 1 := ⟨m - 1, by omega⟩
    have ei : decide (i < stop) = false := by simp; omega
    simp only [la63o0, hc, ei, Bool.false_eq_true, if_false, h2, foldN]
  | succ c ih =>
    intro i m k u v w hk e hm
    obtain ⟨m, rfl⟩ : ∃ m', m = m' + 1 := ⟨m - 1, by omega⟩
    have ei : decide (i < stop) = true := by simp; omega
    have e1 := nat_in (i := i) (n := l56.length) (by omega)
    have ez := row_in h _ rec_row i (by omega)
    have ws : ∀ t v si st sd l b, okR zr52 zo52 (some ([.agg [.i .i64 t, .i .i64 v, .i .i64 si, .i .i64 st, .s sd, .l l], .one (.b b)], [])) = true := fun _ _ _ _ _ _ _ => rfl
    have s1 := step_spec k hk (rcOf (l56.getD i []))
    have hk2 := hk.step' (rcOf (l56.getD i []))
    have ih' := ih (i + 1) m (stepK k (rcOf (l56.getD i []))).1
    rcases hr : stepK k (rcOf (l56.getD i [])) with ⟨⟨t, vv, si, st, sd, es⟩, b⟩
    rw [hr] at s1 hk2 ih'
    simp only [rcOf] at s1
    simp only [la63o0, hc, ei, if_true]
    simp only [e1, nat_pos, Int.toNat_natCast, ez, Bool.and_true, chk_true, foldN, hr]
    simp only [kD] at s1 hk2 ih'
    simp only [s1, ws, chk_true]
    simp only [resC, nthR, cellsDV, nthD, asI, asS, asL, asB]
    cases b
    · simp only [Bool.not_false, if_true, h1, Bool.false_eq_true, if_false]
    · simp only [Bool.not_true, Bool.false_eq_true, if_false, if_true]
      rw [w64_succ i (by omega)]
      exact ih' _ _ _ hk2 (by omega) (by omega)
def foldR (r : Option KS) : Rs := match r with
  | some K => some ([.agg (kD K), .one (.b true)], [])
  | none => some ([.agg [.i .i64 0, .i .i64 0, .i .i64 0, .i .i64 0, .s ⟨#[]⟩, .l []], .one (.b false)], [])
theorem fold_spec (k : KS) (l : List (List D)) (n : Int) (hk : KI k) (h : ∀ r ∈ l, typL shRec r) (hl : l.length ≤ 1048576) (stop : Nat) (hs : stop ≤ l.length) (hn : (stop : Int) = if n ≤ 0 then 0 else if n ≤ (l.length : Int) then n else (l.length : Int)) :
    t63 k.t k.v k.si k.st k.sd k.es l n = foldR (foldN l stop 0 k) := by
  have wc : ∀ t v si st sd l, okR zr53 zo53 (some ([.agg [.i .i64 t, .i .i64 v, .i .i64 si, .i .i64 st, .s sd, .l l]], [])) = true := fun _ _ _ _ _ _ => rfl
  have hk2 := hk.h2
  simp only [t63, ta63, l3Copy_eq k.t k.v k.si k.st k.sd k.es hk.h3 (by omega), wc, chk_true, resC, nthR, cellsDV, nthD, asI, asS, asL]
  refine (foldS_loop k.t k.v k.si k.st k.sd k.es l n false k.t k.v k.si k.st k.sd k.es l 0 0 0 0 ⟨#[]⟩ _ _ (foldR none) (fun K => foldR (some K)) (fun _ _ _ _ _ _ _ _ _ _ _ _ _ _ _ => rfl) (fun _ _ _ _ _ => rfl) h hl stop hs (fun i => ?_) stop 0 KK k .undef .undef .undef hk (by omega) (by rw [KK_eq]; omega)).trans ?_
  · rw [Bool.eq_iff_iff]; simp only [Bool.and_eq_true, decide_eq_true_eq]; split at hn
    · omega
    · split at hn <;> omega
  · cases foldN l stop 0 k <;> rfl
theorem fold_w (r : Option KS) : okR zr63 zo63 (foldR r) = true := by cases r <;> rfl
theorem fold_b (r : Option KS) : asB (resC (foldR r) 1 0) = r.isSome := by cases r <;> rfl
theorem storeOk_spec (k : KS) (l : List (List D)) (hek : ∀ r ∈ k.es, typL shEntry r) (hle : k.es.length ≤ 1048576) (h : ∀ r ∈ l, typL shRec r) (hl : l.length ≤ 1048576) :
    t22 k.t k.v k.si k.st k.sd k.es l = some ([.one (.b (storeV k l).isSome)], []) := by
  have ew : ∀ x, okR zr51 zo51 (some ([.one (.b x)], [])) = true := fun _ => rfl
  have eb : ∀ x, asB (resC (some ([.one (.b x)], [])) 0 0) = x := fun _ => rfl
  simp only [t22, ta22, keptOk_spec k.t k.v k.si k.st k.sd k.es hle hek, ew, eb, chk_true]
  unfold storeV
  cases hb : keptB k.t k.v k.si k.st k.sd k.es
  · simp
  · have hk : KI k := keptB_KI hek hb
    by_cases h80 : l.length ≤ 80
    · have e1 : decide ((l.length : Int) > 80) = false := by simp; omega
      simp only [e1, Bool.not_true, Bool.or_self, Bool.false_eq_true, if_false, fold_spec k l (l.length : Int) hk h hl l.length (by omega) (by (repeat' split) <;> omega), fold_w, fold_b, chk_true, h80, decide_true, Bool.and_self, if_true]
    · have e1 : decide ((l.length : Int) > 80) = true := by simp; omega
      simp only [e1, Bool.or_true, if_true, h80, decide_false, Bool.and_false, Bool.false_eq_true, if_false, Option.isSome_none]
theorem heldI_loop (n31 n32 n33 n34 : Int) (s35 : ByteArray) (l36 l37 : List (List D)) (b38 b39 : Bool) (n45 n46 n47 n48 : Int) (s49 : ByteArray)
    (q1 : Int → Bool → Bool → ByteArray → Int → Int → Int → Int → ByteArray → Int → Int → Int → Int → ByteArray → List (List D) → Rs) (q2 : Int → Bool → SV → Int → Int → Int → Int → ByteArray → List (List D) → Rs) (X : Rs) (F : KS → Rs)
    (h1 : ∀ a b c e f g h i j k l m n o, q1 a b c ⟨#[]⟩ e f g h i j k l m n o = X) (h2 : ∀ a b c (k : KS), q2 a b c k.t k.v k.si k.st k.sd k.es = F k)
    (l : List (List D)) (h : ∀ r ∈ l, typL shRec r) (hl : l.length ≤ 1048576) : ∀ (c i m : Nat) (k : KS) (u v : SV), KI k → i + c = l.length → c < m →
    la64o1 t56 t57 t58 n31 n32 n33 n34 s35 l36 l37 b38 b39 l (l.length : Int) n45 n46 n47 n48 s49 q1 q2 m i u v k.t k.v k.si k.st k.sd k.es = (match foldN l c i k with | some K => F K | none => X) := by
  intro c
  induction c with
  | zero =>
    intro i m k u v _ e hm
    obtain ⟨m, rfl⟩ : ∃ m', m = m' + 1 := ⟨m - 1, by omega⟩
    have ei : decide ((i : Int) < (l.length : Int)) = false := by simp; omega
    simp only [la64o1, ei, Bool.false_eq_true, if_false, h2, foldN]
  | succ c ih =>
    intro i m k u v hk e hm
    obtain ⟨m, rfl⟩ : ∃ m', m = m' + 1 := ⟨m - 1, by omega⟩
    have e1 := nat_in (i := i) (n := l.length) (by omega)
    have ez := row_in h _ rec_row i (by omega)
    have ws : ∀ t v si st sd l b, okR zr58 zo58 (some ([.one (.b b)], [[.i .i64 t, .i .i64 v, .i .i64 si, .i .i64 st, .s sd, .l l]])) = true := fun _ _ _ _ _ _ _ => rfl
    have s1 := step_impl k hk (rcOf (l.getD i []))
    have hk2 := hk.step' (rcOf (l.getD i []))
    have ih' := ih (i + 1) m (stepK k (rcOf (l.getD i []))).1
    rcases hr : stepK k (rcOf (l.getD i [])) with ⟨⟨t, vv, si, st, sd, es⟩, b⟩
    rw [hr] at s1 hk2 ih'
    simp only [rcOf] at s1
    simp only [la64o1, e1, nat_pos, Int.toNat_natCast, ez, Bool.and_true, chk_true, if_true, foldN, hr]
    simp only [kD] at s1 hk2 ih'
    simp only [s1, ws, chk_true]
    simp only [resC, outC, nthR, nthO, cellsDV, nthD, asI, asS, asL, asB]
    cases b
    · simp only [Bool.not_false, if_true, h1, Bool.false_eq_true, if_false]
    · simp only [Bool.not_true, Bool.false_eq_true, if_false, if_true]
      rw [w64_succ i (by omega)]
      exact ih' _ _ hk2 (by omega) (by omega)
def heldR (r : Option KS) : Rs := match r with
  | some K => some ([.agg (kD K), .one (.b true)], [])
  | none => some ([.agg [.i .i64 0, .i .i64 0, .i .i64 0, .i .i64 0, .s ⟨#[]⟩, .l []], .one (.b false)], [])
theorem held_impl (k : KS) (l : List (List D)) (hek : ∀ r ∈ k.es, typL shEntry r) (hle : k.es.length ≤ 1048576) (h : ∀ r ∈ l, typL shRec r) (hl : l.length ≤ 1048576) :
    t64 k.t k.v k.si k.st k.sd k.es l = heldR (storeV k l) := by
  have ew : ∀ x, okR zr56 zo56 (some ([.one (.b x)], [])) = true := fun _ => rfl
  have eb : ∀ x, asB (resC (some ([.one (.b x)], [])) 0 0) = x := fun _ => rfl
  have wc : ∀ t v si st sd l, okR zr57 zo57 (some ([.agg [.i .i64 t, .i .i64 v, .i .i64 si, .i .i64 st, .s sd, .l l]], [])) = true := fun _ _ _ _ _ _ => rfl
  simp only [t64, ta64, keptOk_impl k.t k.v k.si k.st k.sd k.es hle hek, ew, eb, chk_true]
  unfold storeV
  cases hb : keptB k.t k.v k.si k.st k.sd k.es
  · simp only [Bool.not_false, Bool.true_or, if_true, Bool.false_and, Bool.false_eq_true, if_false, heldR]
  · have hk : KI k := keptB_KI hek hb
    by_cases h80 : l.length ≤ 80
    · have e1 : decide ((l.length : Int) > 80) = false := by simp; omega
      simp only [e1, Bool.not_true, Bool.or_self, Bool.false_eq_true, if_false, h80, decide_true, Bool.and_self, if_true, copyKept_eq k.t k.v k.si k.st k.sd k.es hek hle, wc, chk_true, resC, nthR, cellsDV, nthD, asI, asS, asL]
      refine (heldI_loop k.t k.v k.si k.st k.sd k.es l false false 0 0 0 0 ⟨#[]⟩ _ _ (heldR none) (fun K => heldR (some K)) (fun _ _ _ _ _ _ _ _ _ _ _ _ _ _ => rfl) (fun _ _ _ _ => rfl) l h hl l.length 0 KK k .undef .undef hk (by omega) (by rw [KK_eq]; omega)).trans ?_
      cases foldN l l.length 0 k <;> rfl
    · have e1 : decide ((l.length : Int) > 80) = true := by simp; omega
      simp only [e1, Bool.or_true, if_true, h80, decide_false, Bool.and_false, Bool.false_eq_true, if_false, heldR]
theorem held_w (r : Option KS) : okR zr64 zo64 (heldR r) = true := by cases r <;> rfl
theorem held_b (r : Option KS) : asB (resC (heldR r) 1 0) = r.isSome := by cases r <;> rfl
theorem storeOk_impl (k : KS) (l : List (List D)) (hek : ∀ r ∈ k.es, typL shEntry r) (hle : k.es.length ≤ 1048576) (h : ∀ r ∈ l, typL shRec r) (hl : l.length ≤ 1048576) :
    t24 k.t k.v k.si k.st k.sd k.es l = some ([.one (.b (storeV k l).isSome)], []) := by
  simp only [t24, ta24, held_impl k l hek hle h hl, held_w, held_b, chk_true]
end Go.Den.L11

/- What is written into stores. -/
namespace Go.Den.L11
open Go
/-- c of the records from number i on are written behind L: what is there then, and how many came. -/
def writeN (l : List (List D)) : Nat → Nat → KS → List (List D) → List (List D) × Nat
  | 0, i, _, L => (L, i)
  | c + 1, i, k, L => if 80 ≤ L.length then (L, i) else if (stepK k (rcOf (l.getD i []))).2 then writeN l c (i + 1) (stepK k (rcOf (l.getD i []))).1 (L ++ [l.getD i []]) else (L, i)
theorem writeN_take (l : List (List D)) (n : Nat) : ∀ (c i : Nat) (k : KS) (L : List (List D)), i + c ≤ n → writeN (l.take n) c i k L = writeN l c i k L
  | 0, _, _, _, _ => rfl
  | c + 1, i, k, L, h => by
    have e : (l.take n).getD i [] = l.getD i [] := by simp [List.getD, List.getElem?_take, show i < n by omega]
    simp only [writeN, e]
    split
    · rfl
    · split
      · exact writeN_take l n c (i + 1) _ _ (by omega)
      · rfl
theorem rec_eta {r : List D} (h : typL shRec r) : [D.i .i64 (asI (nthD r 0)), .i .i64 (asI (nthD r 1)), .i .i64 (asI (nthD r 2)), .i .i64 (asI (nthD r 3)), .s (asS (nthD r 4))] = r := by
  obtain ⟨a, b, c, d, e, rfl, _⟩ := Rec_row h; rfl
theorem rec_one {L : List (List D)} (hL : L.length ≤ 80) (a b c d : Int) (e : ByteArray) : ((flatR 5 [[D.i .i64 a, .i .i64 b, .i .i64 c, .i .i64 d, .s e]]) && decide (L.length + [[D.i .i64 a, .i .i64 b, .i .i64 c, .i .i64 d, .s e]].length ≤ lim)) = true := by
  have e2 : decide (L.length + [[D.i .i64 a, .i .i64 b, .i .i64 c, .i .i64 d, .s e]].length ≤ lim) = true := decide_eq_true (by unfold lim; simp; omega)
  rw [e2]; rfl
theorem rec_chk {L : List (List D)} {r : List D} (h : typL shRec r) (hL : L.length ≤ 80) : ((flatR 5 [r]) && decide (L.length + [r].length ≤ lim)) = true := by
  obtain ⟨a, b, c, d, e, rfl, _⟩ := Rec_row h
  exact rec_one hL a b c d e
theorem writeI_loop (n51 n52 n53 n54 : Int) (s55 : ByteArray) (l56 l57 l58 : List (List D)) (n59 n60 : Int) (b61 b63 : Bool) (n69 n70 n71 n72 : Int) (s73 : ByteArray) (l74 l75 : List (List D)) (n76 n77 n78 n79 : Int) (s80 : ByteArray) (n86 n87 n88 n89 : Int) (s90 : ByteArray) (l92 : List (List D))
    (q1 : Int → Int → Bool → Bool → Int → Int → Int → Int → ByteArray → List (List D) → List (List D) → Rs) (q2 : Int → Int → Bool → SV → Int → Int → Int → Int → ByteArray → List (List D) → List (List D) → Rs) (G : List (List D) → Int → Rs)
    (h1 : ∀ a b c d e f g h i j k, q1 a b c d e f g h i j k = G k a) (h2 : ∀ a b c d e f g h i j k, q2 a b c d e f g h i j k = G k a)
    (l : List (List D)) (h : ∀ r ∈ l, typL shRec r) (hl : l.length ≤ 1048576) : ∀ (c i m : Nat) (k : KS) (L : List (List D)) (u v : SV), KI k → L.length ≤ 80 → i + c = l.length → c < m →
    la42o1 t58 t64 t71 n51 n52 n53 n54 s55 l56 l57 l58 n59 n60 b61 b63 l (l.length : Int) n69 n70 n71 n72 s73 l74 l75 n76 n77 n78 n79 s80 n86 n87 n88 n89 s90 l92 q1 q2 m i i u v k.t k.v k.si k.st k.sd k.es L = G (writeN l c i k L).1 ((writeN l c i k L).2 : Int) := by
  intro c
  induction c with
  | zero =>
    intro i m k L u v _ hL e hm
    obtain ⟨m, rfl⟩ : ∃ m', m = m' + 1 := ⟨m - 1, by omega⟩
    have e1 : decide ((i : Int) < (l.length : Int)) = false := by simp; omega
    simp only [la42o1, e1, Bool.false_eq_true, if_false, h2, writeN]
  | succ c ih =>
    intro i m k L u v hk hL e hm
    obtain ⟨m, rfl⟩ : ∃ m', m = m' + 1 := ⟨m - 1, by omega⟩
    have hi : i < l.length := by omega
    have e1 := nat_in hi
    have ez := row_in h _ rec_row i hi
    have ws : ∀ t v si st sd l b, okR zr58 zo58 (some ([.one (.b b)], [[.i .i64 t, .i .i64 v, .i .i64 si, .i .i64 st, .s sd, .l l]])) = true := fun _ _ _ _ _ _ _ => rfl
    by_cases h80 : 80 ≤ L.length
    · have e3 : ((L.length : Int) == 80) = true := by rw [beq_iff_eq]; omega
      simp only [la42o1, e1, e3, nat_pos, Int.toNat_natCast, ez, Bool.and_true, chk_true, Bool.not_true, Bool.false_eq_true, if_true, if_false, h1, writeN, if_pos h80]
    · have e3 : ((L.length : Int) == 80) = false := by rw [beq_eq_false_iff_ne]; omega
      have s1 := step_impl k hk (rcOf (l.getD i []))
      have hk2 := hk.step' (rcOf (l.getD i []))
      have ih' := ih (i + 1) m (stepK k (rcOf (l.getD i []))).1 (L ++ [l.getD i []])
      rcases hr : stepK k (rcOf (l.getD i [])) with ⟨⟨t, vv, si, st, sd, es⟩, b⟩
      rw [hr] at s1 hk2 ih'
      simp only [rcOf] at s1
      simp only [la42o1, e1, e3, Bool.not_false, Bool.false_or, Bool.false_eq_true, if_true, if_false, nat_pos, Int.toNat_natCast, ez, Bool.and_true, chk_true, writeN, if_neg h80, hr]
      simp only [kD] at s1 hk2 ih'
      simp only [s1, ws, chk_true]
      simp only [resC, outC, nthR, nthO, cellsDV]
      cases b
      · simp only [nthD, asB, Bool.not_false, if_true, h1, Bool.false_eq_true, if_false]
      · simp only [rec_eta (getD_row h hi), rec_chk (getD_row h hi) hL, chk_true]
        simp only [nthD, asI, asS, asL, asB, Bool.not_true, Bool.false_eq_true, if_false, if_true]
        rw [w64_succ i (by omega)]
        exact ih' _ _ hk2 (by simp; omega) (by omega) (by omega)
theorem recs_flat {l : List (List D)} (h : ∀ r ∈ l, typL shRec r) (hl : l.length ≤ 1048576) : ((flatR 5 l) && decide (([] : List (List D)).length + l.length ≤ lim)) = true ∧ ((flatR 5 l) && decide (l.length ≤ lim)) = true := by
  have e : decide (l.length ≤ lim) = true := decide_eq_true (by unfold lim; omega)
  have e2 : decide (([] : List (List D)).length + l.length ≤ lim) = true := decide_eq_true (by unfold lim; simp; omega)
  rw [rec_flat h, e, e2]; exact ⟨rfl, rfl⟩
theorem copyStore_eq (x1 x2 x3 x4 : Int) (x5 : ByteArray) (x6 x7 : List (List D)) (w6 : x6.length ≤ 1048576) (t6 : ∀ r ∈ x6, typL shEntry r) (w7 : x7.length ≤ 1048576) (t7 : ∀ r ∈ x7, typL shRec r) : t71 x1 x2 x3 x4 x5 x6 x7 = some ([.agg [.i .i64 x1, .i .i64 x2, .i .i64 x3, .i .i64 x4, .s x5, .l x6, .l x7]], []) := by
  have wc : ∀ t v si st sd l, okR zr57 zo57 (some ([.agg [.i .i64 t, .i .i64 v, .i .i64 si, .i .i64 st, .s sd, .l l]], [])) = true := fun _ _ _ _ _ _ => rfl
  simp only [t71, ta71, copyKept_eq x1 x2 x3 x4 x5 x6 t6 w6, wc, (recs_flat t7 w7).2, chk_true, resC, nthR, cellsDV, nthD, asI, asS, asL]
end Go.Den.L11

/- Draws: the cursor. -/
namespace Go.Den.L11
open Go
/-- A cursor over the bytes l, at i. -/
def Cu (l : List (List D)) (i : Int) : Prop := (l.length ≤ 1048576 ∧ ∀ r ∈ l, typL [.i .u8] r) ∧ 0 ≤ i ∧ i ≤ l.length
def PQ (zr : List DV) (zo : List (List D)) (P : Rs → Prop) (o : Rs) : Prop := okR zr zo o = true ∧ P o
theorem pq_chk {zr : List DV} {zo : List (List D)} {P : Rs → Prop} {b : Bool} {x : Rs} (h : b = true) (hx : PQ zr zo P x) : PQ zr zo P (chk b x) := by rw [chk_ok h]; exact hx
theorem pq_ite {zr : List DV} {zo : List (List D)} {P : Rs → Prop} {c : Bool} {x y : Rs} (h1 : c = true → PQ zr zo P x) (h2 : c = false → PQ zr zo P y) : PQ zr zo P (if c = true then x else y) := by
  cases c
  · exact h2 rfl
  · exact h1 rfl
theorem pq_mono {zr : List DV} {zo : List (List D)} {P Q : Rs → Prop} {o : Rs} (h : PQ zr zo P o) (hp : P o → Q o) : PQ zr zo Q o := ⟨h.1, hp h.2⟩
theorem wrap_in (n : Int) (h : 0 ≤ n ∧ n ≤ 255) : IntKind.wrap .i64 n = n := Go.IntWalk.i64_in n (by omega)
theorem and255 (x : Int) : 0 ≤ bitAnd .i64 x 255 ∧ bitAnd .i64 x 255 ≤ 255 := by
  have h : (BitVec.ofInt (IntKind.bits .i64) x &&& BitVec.ofInt (IntKind.bits .i64) 255).toNat ≤ 255 := by
    rw [BitVec.toNat_and]
    exact Nat.le_trans Nat.and_le_right (by decide)
  unfold bitAnd
  generalize (BitVec.ofInt (IntKind.bits .i64) x &&& BitVec.ofInt (IntKind.bits .i64) 255).toNat = k at h
  rw [wrap_in _ (by omega)]
  omega
theorem code_row {l : List (List D)} {i : Int} (C : Cu l i) (h : i < l.length) : isRow z5 (l.getD i.toNat []) = true := by
  have := getD_row C.1.2 (i := i.toNat) (by have := C.2.1; omega)
  obtain ⟨d, r, e, ⟨n, rfl, _⟩, rfl⟩ := this
  rw [e]; rfl
theorem Cu.step {l : List (List D)} {i : Int} (C : Cu l i) (h : i < l.length) : Cu l (w64 (i + 1)) := by
  have := C.1.1; have := C.2.1
  rw [w64_in _ (by omega)]
  exact ⟨C.1, by omega, by omega⟩
theorem d93 {l : List (List D)} {i : Int} (C : Cu l i) (h : Int) : PQ zr93 zo93 (fun o => Cu l (asI (outC o 0 1)) ∧ (0 ≤ asI (resC o 0 0) ∧ asI (resC o 0 0) ≤ 255) ∧ True) (t93 l i h) := by
  unfold t93
  extract_lets +onlyGivenNames -underBinder k1
  refine pq_ite (fun g => ?_) (fun g => ?_)
  · have hi : i < l.length := by simpa using g
    refine pq_chk (by rw [code_row C hi]; have := C.2.1; simp; omega) ?_
    exact ⟨rfl, C.step hi, and255 _, trivial⟩
  · exact ⟨rfl, C, and255 _, trivial⟩
theorem emod_le0 {x n : Int} (h : 0 ≤ x) (hn : 0 < n) : x % n ≤ x := by
  have h1 := Int.emod_add_mul_ediv x n
  have h2 := Int.mul_nonneg (Int.le_of_lt hn) (Int.ediv_nonneg h (Int.le_of_lt hn))
  omega
theorem d79 {l : List (List D)} {i : Int} (C : Cu l i) (h n : Int) : PQ zr79 zo79 (fun o => Cu l (asI (outC o 0 1)) ∧ (0 ≤ asI (resC o 0 0) ∧ asI (resC o 0 0) ≤ 4294967295 ∧ (0 < n → asI (resC o 0 0) < n)) ∧ True) (t79 l i h n) := by
  unfold t79 ta79
  refine pq_ite (fun g => ?_) (fun g => ?_)
  · have : n ≤ 0 := by simpa using g
    exact ⟨rfl, C, ⟨Int.le_refl 0, by show (0 : Int) ≤ _; decide, fun h => by omega⟩, trivial⟩
  have hn : 0 < n := by simpa using g
  have hz : (n != 0) = true := by simp; omega
  refine pq_ite (fun g2 => ?_) (fun g2 => ?_)
  · extract_lets +onlyGivenNames -underBinder y1
    obtain ⟨a1, c1, b1, -⟩ : PQ zr93 zo93 _ y1 := d93 C _
    clear_value y1
    refine pq_chk a1 (pq_chk hz ⟨rfl, c1, ?_, trivial⟩)
    have h1 := Int.tmod_nonneg n b1.1
    have h2 := Int.tmod_lt_of_pos (asI (resC y1 0 0)) hn
    have h3 : n ≤ 256 := by simpa using g2
    show 0 ≤ (asI (resC y1 0 0)).tmod n ∧ (asI (resC y1 0 0)).tmod n ≤ 4294967295 ∧ (0 < n → (asI (resC y1 0 0)).tmod n < n)
    omega
  · extract_lets +onlyGivenNames -underBinder y2
    obtain ⟨a2, c2, b2, -⟩ : PQ zr93 zo93 _ y2 := d93 C _
    clear_value y2
    refine pq_chk a2 ?_
    extract_lets +onlyGivenNames -underBinder y3
    obtain ⟨a3, c3, b3, -⟩ : PQ zr93 zo93 _ y3 := d93 c2 _
    clear_value y3
    refine pq_chk a3 ?_
    extract_lets +onlyGivenNames -underBinder y4
    obtain ⟨a4, c4, b4, -⟩ : PQ zr93 zo93 _ y4 := d93 c3 _
    clear_value y4
    refine pq_chk a4 ?_
    extract_lets +onlyGivenNames -underBinder y5
    obtain ⟨a5, c5, b5, -⟩ : PQ zr93 zo93 _ y5 := d93 c4 _
    clear_value y5
    refine pq_chk a5 (pq_chk hz ⟨rfl, c5, ?_, trivial⟩)
    show 0 ≤ Int.tmod _ n ∧ Int.tmod _ n ≤ 4294967295 ∧ (0 < n → Int.tmod _ n < n)
    rw [w64_in (asI (resC y2 0 0) * 16777216) (by omega), w64_in (asI (resC y3 0 0) * 65536) (by omega), w64_in (asI (resC y2 0 0) * 16777216 + asI (resC y3 0 0) * 65536) (by omega), w64_in (asI (resC y4 0 0) * 256) (by omega), w64_in (asI (resC y2 0 0) * 16777216 + asI (resC y3 0 0) * 65536 + asI (resC y4 0 0) * 256) (by omega), w64_in (asI (resC y2 0 0) * 16777216 + asI (resC y3 0 0) * 65536 + asI (resC y4 0 0) * 256 + asI (resC y5 0 0)) (by omega)]
    have hx : 0 ≤ asI (resC y2 0 0) * 16777216 + asI (resC y3 0 0) * 65536 + asI (resC y4 0 0) * 256 + asI (resC y5 0 0) ∧ asI (resC y2 0 0) * 16777216 + asI (resC y3 0 0) * 65536 + asI (resC y4 0 0) * 256 + asI (resC y5 0 0) ≤ 4294967295 := by omega
    have h1 := Int.tmod_nonneg n hx.1
    have h2 := Int.tmod_lt_of_pos (asI (resC y2 0 0) * 16777216 + asI (resC y3 0 0) * 65536 + asI (resC y4 0 0) * 256 + asI (resC y5 0 0)) hn
    have h3 : (asI (resC y2 0 0) * 16777216 + asI (resC y3 0 0) * 65536 + asI (resC y4 0 0) * 256 + asI (resC y5 0 0)).tmod n ≤ asI (resC y2 0 0) * 16777216 + asI (resC y3 0 0) * 65536 + asI (resC y4 0 0) * 256 + asI (resC y5 0 0) := by
      rw [Int.tmod_eq_emod_of_nonneg hx.1]; exact emod_le0 hx.1 hn
    omega
theorem d74 {l : List (List D)} {i : Int} (C : Cu l i) (h n : Int) : PQ zr74 zo74 (fun o => Cu l (asI (outC o 0 1)) ∧ True) (t74 l i h n) := by
  unfold t74 ta74
  extract_lets +onlyGivenNames -underBinder y1
  obtain ⟨a1, c1, -⟩ : PQ zr79 zo79 _ y1 := d79 C _ _
  clear_value y1
  exact pq_chk a1 ⟨rfl, c1, trivial⟩
/-- A list to pick from. -/
def okL (z : List D) (x : List (List D)) : Bool := !x.isEmpty && x.all (isRow z)
theorem okL_at {z : List D} {x : List (List D)} (h : okL z x = true) {y : Int} (h0 : 0 ≤ y) (h1 : 0 < (x.length : Int) → y < x.length) : (decide (0 ≤ y) && decide (y < x.length) && isRow z (x.getD y.toNat [])) = true := by
  simp only [okL, Bool.and_eq_true, Bool.not_eq_true', List.all_eq_true] at h
  have hl : 0 < x.length := by cases x with | nil => simp at h | cons _ _ => simp
  have h2 := h1 (by omega)
  simp only [Bool.and_eq_true, decide_eq_true_eq]
  exact ⟨⟨h0, h2⟩, h.2 _ (mem_getD (by omega))⟩
theorem d81 {l : List (List D)} {i : Int} (C : Cu l i) (h : Int) (x : List (List D)) (hx : okL z3 x = true) : PQ zr81 zo81 (fun o => Cu l (asI (outC o 0 1)) ∧ (asI (resC o 0 0)) ∈ x.map (fun r => asI (nthD r 0)) ∧ True) (t81 l i h x) := by
  unfold t81 ta81
  extract_lets +onlyGivenNames -underBinder y1
  obtain ⟨a1, c1, b1, -⟩ : PQ zr79 zo79 _ y1 := d79 C _ _
  clear_value y1
  refine pq_chk a1 ?_
  extract_lets +onlyGivenNames -underBinder y2 y3
  have hc : (decide (0 ≤ y2) && decide (y2 < x.length) && isRow z3 (x.getD y2.toNat [])) = true := okL_at hx b1.1 b1.2.2
  refine pq_chk hc ⟨rfl, c1, ?_, trivial⟩
  simp only [Bool.and_eq_true, decide_eq_true_eq] at hc
  exact List.mem_map.2 ⟨_, mem_getD (by omega), rfl⟩
theorem new_loop (l : List (List D)) (q : Int → Int → Bool → Rs) (hl : l.length ≤ 1048576) (ht : ∀ r ∈ l, typL [.i .u8] r) (Q : Rs → Prop) (hq : ∀ a b c, Q (q a b c)) :
    ∀ (k i m : Nat) (n6 : Int) (v : SV), i + k = l.length → k < m → Q (l72o0 l q m n6 (i : Int) v) := by
  intro k
  induction k with
  | zero =>
    intro i m n6 v e hm
    obtain ⟨m, rfl⟩ : ∃ m', m = m' + 1 := ⟨m - 1, by omega⟩
    unfold l72o0
    have : decide ((i : Int) < (l.length : Int)) = false := by simp; omega
    simp only [this, Bool.false_and, Bool.false_eq_true, if_false]
    exact hq _ _ _
  | succ k ih =>
    intro i m n6 v e hm
    obtain ⟨m, rfl⟩ : ∃ m', m = m' + 1 := ⟨m - 1, by omega⟩
    unfold l72o0
    have h1 : decide ((i : Int) < (l.length : Int)) = true := by simp; omega
    by_cases h2 : (i : Int) < 4000
    · have C : Cu l (i : Int) := ⟨⟨hl, ht⟩, by omega, by omega⟩
      have h3 := code_row C (by omega)
      have h4 : (decide ((0 : Int) ≤ (i : Int)) && true && isRow z5 (l.getD (i : Int).toNat [])) = true := by rw [h3]; simp
      simp only [h1, h2, decide_true, Bool.and_self, if_true]
      rw [chk_ok h4, w64_succ _ (by omega)]
      exact ih (i + 1) m _ _ (by omega) (by omega)
    · simp only [h1, h2, decide_false, Bool.and_false, Bool.false_eq_true, if_false]
      exact hq _ _ _
theorem d72 (l : List (List D)) (hl : l.length ≤ 1048576) (ht : ∀ r ∈ l, typL [.i .u8] r) : PQ zr72 zo72 (fun o => asL (resC o 0 0) = l ∧ Cu l (asI (resC o 0 1)) ∧ True) (t72 l) := by
  unfold t72
  refine new_loop l _ hl ht _ (fun a b c => ?_) l.length 0 KK _ _ (by omega) (by rw [KK_eq]; omega)
  exact ⟨rfl, rfl, ⟨⟨hl, ht⟩, Int.le_refl 0, by show (0 : Int) ≤ _; omega⟩, trivial⟩
theorem n72 (l : List (List D)) (hl : l.length ≤ 1048576) (ht : ∀ r ∈ l, typL [.i .u8] r) : PQ zr72 zo72 (fun o => Cu (asL (resC o 0 0)) (asI (resC o 0 1)) ∧ True) (t72 l) :=
  pq_mono (d72 l hl ht) fun ⟨h1, h2, _⟩ => ⟨by rw [h1]; exact h2, trivial⟩
end Go.Den.L11

/- Draws: texts, names, paths. -/
namespace Go.Den.L11
open Go
theorem bytesD_le : ∀ (l : List (List D)), (bytesD l).length ≤ l.length
  | [] => Nat.le_refl 0
  | r :: l => by
    have := bytesD_le l
    unfold bytesD
    split <;> simp_all <;> omega
theorem isBytes_app {a b : List (List D)} (ha : isBytes a = true) (hb : isBytes b = true) : isBytes (a ++ b) = true := by
  induction a with
  | nil => exact hb
  | cons r a ih =>
    match r, ha with
    | [.i .u8 n], ha => exact ih ha
theorem text_loop {n15 : Int} {s16 : ByteArray} (n17 : Int) (l : List (List D)) (q1 : Int → SV → Bool → SV → SV → Int → Int → List (List D) → Rs) (Q : Rs → Prop) (B : Nat) (hB : B ≤ 1048576)
    (hq : ∀ a b c d e i h (x : List (List D)), Cu l i → x.length ≤ B → isBytes x = true → Q (q1 a b c d e i h x)) :
    ∀ (k m : Nat) (v19 v20 v21 v22 : SV) (i h : Int) (x : List (List D)), Cu l i → x.length + k ≤ B → isBytes x = true → k < m → Q (la92o0 t79 t93 n15 s16 n17 l q1 m (k : Int) v19 v20 v21 v22 i h x) := by
  intro k
  induction k with
  | zero =>
    intro m v19 v20 v21 v22 i h x C hx hb hm
    obtain ⟨m, rfl⟩ : ∃ m', m = m' + 1 := ⟨m - 1, by omega⟩
    unfold la92o0
    exact hq _ _ _ _ _ _ _ _ C (by omega) hb
  | succ k ih =>
    intro m v19 v20 v21 v22 i h x C hx hb hm
    obtain ⟨m, rfl⟩ : ∃ m', m = m' + 1 := ⟨m - 1, by omega⟩
    unfold la92o0
    have h1 : decide (((k + 1 : Nat) : Int) > 0) = true := decide_eq_true (by omega)
    have h2 : w64 (((k + 1 : Nat) : Int) - 1) = (k : Int) := by rw [w64_in _ (by omega)]; omega
    obtain ⟨a, c, -⟩ := d93 C h
    have step : ∀ (n28 : Int) (v19 v20 v21 v22 : SV), Q (chk ((flatR 1 [[D.i .u8 (IntKind.wrap .u8 n28)]]) && decide (x.length + [[D.i .u8 (IntKind.wrap .u8 n28)]].length ≤ lim)) (la92o0 t79 t93 n15 s16 n17 l q1 m (k : Int) v19 v20 v21 v22 (asI (outC (t93 l i h) 0 1)) (asI (outC (t93 l i h) 0 2)) (x ++ [[D.i .u8 (IntKind.wrap .u8 n28)]]))) := by
      intro n28 v19 v20 v21 v22
      rw [chk_ok (by rw [Bool.and_eq_true]; exact ⟨rfl, decide_eq_true (by simp only [List.length_cons, List.length_nil]; unfold lim; omega)⟩)]
      exact ih m _ _ _ _ _ _ _ c (by simp; omega) (isBytes_app hb rfl) (by omega)
    simp only [h1, if_true, h2, chk_ok a]
    split <;> split <;> exact step _ _ _ _ _
theorem d92 {l : List (List D)} {i : Int} (C : Cu l i) (h n : Int) (hn : 0 ≤ n ∧ n ≤ 1000) : PQ zr92 zo92 (fun o => Cu l (asI (outC o 0 1)) ∧ (asS (resC o 0 0)).size ≤ 1000 ∧ True) (t92 l i h n) := by
  unfold t92 ta92
  extract_lets +onlyGivenNames -underBinder y1
  obtain ⟨a1, c1, b1, -⟩ : PQ zr79 zo79 _ y1 := d79 C _ _
  clear_value y1
  refine pq_chk a1 ?_
  extract_lets +onlyGivenNames -underBinder y2
  obtain ⟨a2, c2, b2, -⟩ : PQ zr79 zo79 _ y2 := d79 c1 _ _
  clear_value y2
  refine pq_chk a2 ?_
  obtain ⟨k, hk, hk2⟩ : ∃ k : Nat, asI (resC y2 0 0) = (k : Int) ∧ k ≤ 1000 := by
    refine ⟨(asI (resC y2 0 0)).toNat, by omega, ?_⟩
    have e := w64_in (n + 1) (by omega)
    rw [e] at b2
    omega
  rw [hk]
  refine text_loop _ l _ _ 1000 (by omega) (fun a b c d e i' h' x C' hx hb => ?_) k KK _ _ _ _ _ _ _ c2 (by simpa using hk2) rfl (by rw [KK_eq]; omega)
  refine pq_chk hb ⟨rfl, C', ?_, trivial⟩
  have := bytesD_le x
  show (bytesD x).toArray.size ≤ 1000
  simp; omega
end Go.Den.L11

/- Draws: facts of what is drawn; kept states. -/
namespace Go.Den.L11
open Go
def I64 (n : Int) : Prop := -9223372036854775808 ≤ n ∧ n ≤ 9223372036854775807
/-- Rows of a kind, not too many. -/
def EL (sh : List Sh) (N : Nat) (l : List (List D)) : Prop := l.length ≤ N ∧ ∀ r ∈ l, typL sh r
theorem i64_w64 (x : Int) : I64 (w64 x) := by unfold I64 w64; rw [IntKind.wrap_i64]; omega
theorem i64_b {v n : Int} (h : 0 ≤ v ∧ v ≤ 4294967295 ∧ (0 < n → v < n)) : I64 v := by unfold I64; omega
theorem i64_pick {v : Int} {x : List (List D)} (h : v ∈ x.map (fun r => asI (nthD r 0))) (hx : (x.all fun r => decide (-9223372036854775808 ≤ asI (nthD r 0) ∧ asI (nthD r 0) ≤ 9223372036854775807)) = true) : I64 v := by
  obtain ⟨r, hr, rfl⟩ := List.mem_map.1 h
  have h := List.all_eq_true.1 hx r hr
  exact of_decide_eq_true (p := _ ∧ _) h
theorem wfI {n : Int} (h : I64 n) : (Lit.int .i64 n).wf = true := by
  have e := w64_in n h
  unfold w64 at e
  simp [Lit.wf, e]
  exact h
theorem el_nil (sh : List Sh) : EL sh 0 [] := ⟨Nat.le_refl 0, fun r h => by cases h⟩
theorem el_one {sh : List Sh} {r : List D} (h : typL sh r) : EL sh 1 [r] := ⟨Nat.le_refl 1, fun q hq => by rw [List.mem_singleton.1 hq]; exact h⟩
theorem el_app {sh : List Sh} {a b : Nat} {x y : List (List D)} (hx : EL sh a x) (hy : EL sh b y) : EL sh (a + b) (x ++ y) := ⟨by rw [List.length_append]; have := hx.1; have := hy.1; omega, fun r h => by
  rcases List.mem_append.1 h with h | h
  · exact hx.2 r h
  · exact hy.2 r h⟩
theorem el_mono {sh : List Sh} {a b : Nat} {x : List (List D)} (h : a ≤ b) (hx : EL sh a x) : EL sh b x := ⟨Nat.le_trans hx.1 h, hx.2⟩
theorem el_take {sh : List Sh} {a n : Nat} {x : List (List D)} (hx : EL sh a x) : EL sh a (x.take n) := ⟨by rw [List.length_take]; have := hx.1; omega, fun r h => hx.2 r (List.mem_of_mem_take h)⟩
theorem el_drop {sh : List Sh} {a n : Nat} {x : List (List D)} (hx : EL sh a x) : EL sh a (x.drop n) := ⟨by rw [List.length_drop]; have := hx.1; omega, fun r h => hx.2 r (List.mem_of_mem_drop h)⟩
theorem sz_app {a b : Nat} {x y : ByteArray} (hx : x.size ≤ a) (hy : y.size ≤ b) : (x ++ y).size ≤ a + b := by rw [ByteArray.size_append]; omega
theorem typ_getD {sh : List Sh} {a i : Nat} {x : List (List D)} (hx : EL sh a x) (h : i < x.length) : typL sh (x.getD i []) := hx.2 _ (mem_getD h)
theorem ent_loop (n17 n19 : Int) (l24 : List (List D)) (q1 : Int → Int → Bool → Bool → Bool → Int → Int → List (List D) → Rs) (q2 : Int → Int → Bool → SV → SV → Int → Int → List (List D) → Rs) (Q : Rs → Prop)
    (h1 : ∀ a b c d e i h x, Cu l24 i → EL [.i .i64, .s] 60 x → Q (q1 a b c d e i h x)) (h2 : ∀ a b c d e i h x, Cu l24 i → EL [.i .i64, .s] 60 x → Q (q2 a b c d e i h x)) :
    ∀ (k m : Nat) (n18 : Int) (v1 v2 v3 : SV) (i h : Int) (x : List (List D)), I64 n18 → Cu l24 i → EL [.i .i64, .s] (60 - k) x → k ≤ 60 → k < m → Q (la96o0 t74 t79 t92 n17 n19 l24 q1 q2 m n18 (k : Int) v1 v2 v3 i h x) := by
  intro k
  induction k with
  | zero =>
    intro m n18 v1 v2 v3 i h x hi C hx hk hm
    obtain ⟨m, rfl⟩ : ∃ m', m = m' + 1 := ⟨m - 1, by omega⟩
    unfold la96o0
    exact h2 _ _ _ _ _ _ _ _ C (el_mono (by omega) hx)
  | succ k ih =>
    intro m n18 v1 v2 v3 i h x hi C hx hk hm
    obtain ⟨m, rfl⟩ : ∃ m', m = m' + 1 := ⟨m - 1, by omega⟩
    unfold la96o0
    have g1 : decide (((k + 1 : Nat) : Int) > 0) = true := decide_eq_true (by omega)
    have g2 : w64 (((k + 1 : Nat) : Int) - 1) = (k : Int) := by rw [w64_in _ (by omega)]; omega
    -- a round: one more
    have step : ∀ (n : Int) (i h : Int) (b1 b2 : Bool), I64 n → Cu l24 i → Q (if b1 = true then q1 n ((k + 1 : Nat) : Int) true b2 b1 i h x else
        (chk (okR zr92 zo92 (t92 l24 i h 8)) (chk ((flatR 2 [[D.i .i64 n, .s (asS (resC (t92 l24 i h 8) 0 0))]]) && decide (x.length + [[D.i .i64 n, .s (asS (resC (t92 l24 i h 8) 0 0))]].length ≤ lim))
          (la96o0 t74 t79 t92 n17 n19 l24 q1 q2 m n (k : Int) (.d (.b true)) (.d (.b b2)) (.d (.b b1)) (asI (outC (t92 l24 i h 8) 0 1)) (asI (outC (t92 l24 i h 8) 0 2)) (x ++ [[D.i .i64 n, .s (asS (resC (t92 l24 i h 8) 0 0))]]))))) := by
      intro n i h b1 b2 hn C
      cases b1 with
      | true => simp only [if_true]; exact h1 _ _ _ _ _ _ _ _ C (el_mono (by omega) hx)
      | false =>
        obtain ⟨a, c, p, -⟩ := d92 C h 8 (by decide)
        have hx1 := hx.1
        have el := el_app hx (el_one (sh := [.i .i64, .s]) (r := [D.i .i64 n, .s (asS (resC (t92 l24 i h 8) 0 0))]) ⟨_, _, rfl, ⟨_, rfl, wfI hn⟩, _, _, rfl, ⟨_, rfl, Nat.le_trans p (by decide)⟩, rfl⟩)
        simp only [Bool.false_eq_true, if_false]
        rw [chk_ok a, chk_ok (by rw [Bool.and_eq_true]; exact ⟨rfl, decide_eq_true (by simp only [List.length_cons, List.length_nil]; unfold lim; omega)⟩)]
        exact ih m _ _ _ _ _ _ _ hn c (el_mono (by omega) el) (by omega) (by omega)
    simp only [g1, if_true, g2]
    split
    · obtain ⟨a4, c4, -⟩ := d74 C h 3
      rw [chk_ok a4]
      split
      · exact step _ _ _ _ _ (i64_w64 _) c4
      · exact step _ _ _ _ _ hi c4
    · rename_i hg
      rw [chk_ok (by revert hg; generalize decide (n18 < 1) = u; generalize decide (n18 < n19) = v; revert u v; decide)]
      split
      · exact step _ _ _ _ _ (i64_w64 _) C
      · exact step _ _ _ _ _ hi C
theorem d96 {l : List (List D)} {i : Int} (C : Cu l i) (h n4 n5 n6 : Int) (h4 : 0 ≤ n4 ∧ n4 ≤ 50) (h5 : I64 n5) : PQ zr96 zo96 (fun o => Cu l (asI (outC o 0 1)) ∧ EL [.i .i64, .s] 60 (asL (resC o 0 0)) ∧ True) (t96 l i h n4 n5 n6) := by
  unfold t96 ta96
  extract_lets +onlyGivenNames -underBinder y1
  obtain ⟨a1, c1, b1, -⟩ : PQ zr79 zo79 _ y1 := d79 C _ _
  clear_value y1
  refine pq_chk a1 ?_
  rw [w64_in (n4 + 1) (by omega)] at b1
  obtain ⟨k, hk, hk2⟩ : ∃ k : Nat, asI (resC y1 0 0) = (k : Int) ∧ k ≤ 50 := ⟨(asI (resC y1 0 0)).toNat, by omega, by omega⟩
  rw [hk]
  refine ent_loop _ _ l _ _ _ (fun a b c d e i' h' x C' hx => ?_) (fun a b c d e i' h' x C' hx => ?_) k KK _ _ _ _ _ _ _ h5 c1 (el_mono (by omega) (el_nil _)) (by omega) (by rw [KK_eq]; omega)
  · exact ⟨rfl, C', hx, trivial⟩
  · exact ⟨rfl, C', hx, trivial⟩
theorem n53 (t v si st : Int) (sd : ByteArray) (l : List (List D)) (h0 : I64 t) (h1 : I64 v) (h2 : I64 si) (h3 : I64 st) (h4 : sd.size ≤ 5000) (h5 : EL [.i .i64, .s] 6200 l) : PQ zr53 zo53 (fun o => I64 (asI (resC o 0 0)) ∧ I64 (asI (resC o 0 1)) ∧ I64 (asI (resC o 0 2)) ∧ I64 (asI (resC o 0 3)) ∧ (asS (resC o 0 4)).size ≤ 5000 ∧ EL [.i .i64, .s] 6200 (asL (resC o 0 5)) ∧ True) (t53 t v si st sd l) := by
  rw [l3Copy_eq t v si st sd l h5.2 (Nat.le_trans h5.1 (by decide))]
  exact ⟨rfl, h0, h1, h2, h3, h4, h5, trivial⟩
end Go.Den.L11

/- Draws of stores: a record's step on any kept state. -/
namespace Go.Den.L11
open Go
theorem bytes_sz {x : List (List D)} {B : Nat} (h : isBytes x = true ∧ x.length ≤ B) : (⟨(bytesD x).toArray⟩ : ByteArray).size ≤ B := by
  show (bytesD x).toArray.size ≤ B
  rw [List.size_toArray]
  have := bytesD_le x
  omega
theorem row_i64 {r : List D} (h : typL [.i .i64, .s] r) : I64 (asI (nthD r 0)) := by
  obtain ⟨_, _, rfl, ⟨x, rfl, hx⟩, _⟩ := h
  simp only [Lit.wf, Bool.and_eq_true, decide_eq_true_eq] at hx
  exact hx
theorem ent_is {r : List D} (h : typL [.i .i64, .s] r) : isRow z90 r = true := entry_row r h
theorem n94 (t v si st : Int) (sd : ByteArray) (l : List (List D)) (h5 : EL [.i .i64, .s] 6200 l) : okR zr94 zo94 (t94 t v si st sd l) = true := by
  unfold t94
  have hl := h5.1
  by_cases hn : l.length = 0
  · have e : ((l.length : Int) == 0) = true := by simp [hn]
    rw [if_pos e]; rfl
  · have e : ¬ ((l.length : Int) == 0) = true := by rw [beq_iff_eq]; omega
    have e1 : w64 ((l.length : Int) - 1) = ((l.length - 1 : Nat) : Int) := by rw [w64_in _ (by omega)]; omega
    rw [if_neg e]
    simp only [e1, Int.toNat_natCast]
    rw [chk_ok (by rw [decide_eq_true (by omega), decide_eq_true (by omega), ent_is (typ_getD h5 (by omega))]; rfl)]
    rfl
theorem n65 (t v si st : Int) (sd : ByteArray) (l : List (List D)) (i u : Int) (h5 : EL [.i .i64, .s] 6200 l) : PQ zr65 zo65 (fun o => EL [.i .i64, .s] 6200 (asL (resC o 0 0)) ∧ True) (t65 t v si st sd l i u) := by
  unfold t65
  have hl := h5.1
  generalize w64 (i - si) = n
  by_cases g : 1 ≤ n ∧ n ≤ (l.length : Int)
  · have e : w64 (n - 1) = n - 1 := w64_in _ (by omega)
    have e4 : (decide (n ≥ 1) && decide (n ≤ (l.length : Int))) = true := by rw [decide_eq_true (by omega), decide_eq_true (by omega)]; rfl
    have e5 : (decide (0 ≤ n - 1) && decide (n - 1 < (l.length : Int)) && isRow z90 (l.getD (n - 1).toNat [])) = true := by
      rw [decide_eq_true (by omega), decide_eq_true (by omega), ent_is (typ_getD h5 (by omega))]; rfl
    have e6 : decide (0 ≤ n ∧ n ≤ (l.length : Int) ∧ (l.getD 0 z90).length = z90.length) = true := by
      refine decide_eq_true ⟨by omega, g.2, ?_⟩
      cases hes : l with
      | nil => rfl
      | cons x xs =>
        obtain ⟨a, b, rfl, _⟩ := Entry_row (h5.2 x (by rw [hes]; simp))
        rfl
    have e7 : ((flatR 2 (l.drop n.toNat)) && decide (([] : List (List D)).length + (l.drop n.toNat).length ≤ lim)) = true := by
      rw [entry_flat fun r hr => h5.2 r (List.mem_of_mem_drop hr), decide_eq_true (by unfold lim; simp; omega)]; rfl
    simp only [e, e4, e5, e6, e7, Bool.true_and, Bool.true_or, chk_true]
    refine pq_ite (fun _ => ⟨rfl, ?_, trivial⟩) (fun _ => ⟨rfl, el_mono (by decide) (el_nil _), trivial⟩)
    exact el_drop h5
  · have e4 : (decide (n ≥ 1) && decide (n ≤ (l.length : Int))) = false := by
      rw [Bool.eq_false_iff]; intro hc
      simp only [Bool.and_eq_true, decide_eq_true_eq] at hc
      exact g hc
    simp only [e4, Bool.not_false, Bool.or_true, chk_true, Bool.false_and, Bool.false_eq_true, if_false]
    exact ⟨rfl, el_mono (by decide) (el_nil _), trivial⟩
theorem n52 (n1 n2 n3 n4 : Int) (s5 : ByteArray) (l6 : List (List D)) (n7 n8 n9 n10 : Int) (s11 : ByteArray) (h0 : I64 n1) (h1 : I64 n2) (h2 : I64 n3) (h3 : I64 n4) (h4 : s5.size ≤ 5000) (h5 : EL [.i .i64, .s] 6200 l6) (k0 : I64 n8) (k1 : I64 n9) (k2 : I64 n10) (k4 : s11.size ≤ 5000) :
    PQ zr52 zo52 (fun o => I64 (asI (resC o 0 0)) ∧ I64 (asI (resC o 0 1)) ∧ I64 (asI (resC o 0 2)) ∧ I64 (asI (resC o 0 3)) ∧ (asS (resC o 0 4)).size ≤ 5000 ∧ EL [.i .i64, .s] 6200 (asL (resC o 0 5)) ∧ True) (t52 n1 n2 n3 n4 s5 l6 n7 n8 n9 n10 s11) := by
  have ew : ∀ x, okR zr85 zo85 (some ([.one (.b x)], [])) = true := fun _ => rfl
  have ew2 : ∀ x, okR zr86 zo86 (some ([.one (.b x)], [])) = true := fun _ => rfl
  have eb : ∀ x, asB (resC (some ([.one (.b x)], [])) 0 0) = x := fun _ => rfl
  have hl := h5.1
  -- what fits
  have hF : ∃ b, t86 n1 n2 n3 n4 s5 l6 n7 n8 n9 n10 s11 = some ([.one (.b b)], []) ∧ (b = true → n7 = 2 → l6.length < 60) ∧ (b = true → n7 = 3 → n3 < n9 ∧ n9 ≤ w64 (n3 + (l6.length : Int))) := by
    unfold t86 ta86
    by_cases g1 : n7 = 1
    · rw [if_pos (by simp [g1])]
      exact ⟨_, rfl, fun _ h => by omega, fun _ h => by omega⟩
    rw [if_neg (by simpa using g1)]
    by_cases g2 : n7 = 2
    · rw [if_pos (by simp [g2])]
      simp only [n94 n1 n2 n3 n4 s5 l6 h5, Bool.true_or, chk_true]
      refine ⟨_, rfl, fun h _ => ?_, fun _ h => by omega⟩
      simp only [Bool.and_eq_true, decide_eq_true_eq] at h
      omega
    rw [if_neg (by simpa using g2)]
    by_cases g3 : n7 = 3
    · rw [if_pos (by simp [g3])]
      refine ⟨_, rfl, fun _ h => by omega, fun h _ => ?_⟩
      simp only [Bool.and_eq_true, decide_eq_true_eq] at h
      exact ⟨h.1, h.2⟩
    rw [if_neg (by simpa using g3)]
    by_cases g4 : n7 = 4
    · rw [if_pos (by simp [g4])]
      exact ⟨_, rfl, fun _ h => by omega, fun _ h => by omega⟩
    rw [if_neg (by simpa using g4)]
    exact ⟨_, rfl, fun _ h => by omega, fun _ h => by omega⟩
  obtain ⟨b, hb, hb2, hb3⟩ := hF
  have same : PQ zr52 zo52 (fun o => I64 (asI (resC o 0 0)) ∧ I64 (asI (resC o 0 1)) ∧ I64 (asI (resC o 0 2)) ∧ I64 (asI (resC o 0 3)) ∧ (asS (resC o 0 4)).size ≤ 5000 ∧ EL [.i .i64, .s] 6200 (asL (resC o 0 5)) ∧ True) (some ([.agg [.i .i64 n1, .i .i64 n2, .i .i64 n3, .i .i64 n4, .s s5, .l l6], .one (.b false)], [])) := ⟨rfl, h0, h1, h2, h3, h4, h5, trivial⟩
  simp only [t52, ta52, recOk_spec, ew, eb, chk_true, hb, ew2, Bool.true_or]
  cases hr : recOk ⟨n7, n8, n9, n10, s11⟩
  · exact same
  cases b
  · exact same
  simp only [Bool.not_true, Bool.or_self, Bool.false_eq_true, if_false]
  have hr' := hr
  simp only [recOk, Bool.or_eq_true, Bool.and_eq_true, decide_eq_true_eq] at hr'
  refine pq_ite (fun _ => ⟨rfl, k0, k2, h2, h3, h4, h5, trivial⟩) (fun g1 => ?_)
  refine pq_ite (fun g2 => ?_) (fun g2 => ?_)
  · have g2' : n7 = 2 := by simpa using g2
    have h60 := hb2 rfl g2'
    have e1 : decide (l6.length + [[D.i .i64 n8, D.s s11]].length ≤ lim) = true := decide_eq_true (by simp only [List.length_singleton]; unfold lim; omega)
    refine pq_chk (by rw [e1]; rfl) ⟨rfl, h0, h1, h2, h3, h4, ⟨?_, ?_⟩, trivial⟩
    · show (l6 ++ [[D.i .i64 n8, D.s s11]]).length ≤ 6200
      rw [List.length_append, List.length_singleton]; omega
    · intro r hr
      rcases List.mem_append.1 hr with hr | hr
      · exact h5.2 r hr
      · rw [List.mem_singleton.1 hr]
        exact ⟨_, _, rfl, ⟨_, rfl, wfI k0⟩, _, _, rfl, ⟨_, rfl, Nat.le_trans k4 (by decide)⟩, rfl⟩
  refine pq_ite (fun g3 => ?_) (fun g3 => ?_)
  · have g3' : n7 = 3 := by simpa using g3
    have hb4 := hb3 rfl g3'
    have hi : 1 ≤ n9 ∧ n9 ≤ 100000 := by omega
    have hs : n3 ≤ 100000 := by omega
    unfold I64 at h2
    have e0 : w64 (n3 + (l6.length : Int)) = n3 + (l6.length : Int) := w64_in _ (by omega)
    rw [e0] at hb4
    have e1 : w64 (n9 - n3) = n9 - n3 := w64_in _ (by omega)
    have e2 : w64 (n9 - n3 - 1) = n9 - n3 - 1 := w64_in _ (by omega)
    simp only [e1, e2]
    refine pq_chk (decide_eq_true (by omega)) ⟨rfl, h0, h1, h2, h3, h4, ?_, trivial⟩
    exact el_take h5
  · obtain ⟨a, p, -⟩ := n65 n1 n2 n3 n4 s5 l6 n9 n8 h5
    exact pq_chk a ⟨rfl, h0, h1, k1, k0, k4, p, trivial⟩
end Go.Den.L11

namespace Go.Den.L11
open Go
theorem lp91_3 (n32 : Int) (b33 : Bool) (b34 : Bool) (b35 : Bool) (l37 : List (List D)) (n38 : Int) (n39 : Int) (n40 : Int) (n41 : Int) (n42 : Int) (n43 : Int) (s44 : ByteArray) (n45 : Int) (n46 : Int) (n47 : Int) (n48 : Int) (s49 : ByteArray) (q1 : Bool → List (List D) → Rs) (Q : Rs → Prop) (I_n45 : I64 n45) (hn : n32 ≤ 2000) (hq : ∀ a x, EL [.i .i64, .s] 6000 x → Q (q1 a x)) : ∀ (k m : Nat) (v : SV) (x : List (List D)), 2000 - x.length ≤ k → k < m → EL [.i .i64, .s] 6000 x → Q (la91o3 t74 t79 t92 t96 n32 b33 b34 b35 l37 n38 n39 n40 n41 n42 n43 s44 n45 n46 n47 n48 s49 q1 m v x) := by
  intro k
  induction k with
  | zero =>
    intro m v x hk hm hx
    obtain ⟨m, rfl⟩ : ∃ m', m = m' + 1 := ⟨m - 1, by omega⟩
    unfold la91o3
    have : decide ((x.length : Int) < n32) = false := decide_eq_false (by omega)
    simp only [this, Bool.false_eq_true, if_false]
    exact hq _ _ hx
  | succ k ih =>
    intro m v x hk hm hx
    obtain ⟨m, rfl⟩ : ∃ m', m = m' + 1 := ⟨m - 1, by omega⟩
    unfold la91o3
    by_cases g : (x.length : Int) < n32
    · simp only [decide_eq_true g, if_true]
      have hx1 := hx.1
      have el := el_app hx (el_one (sh := [.i .i64, .s]) (by exact ⟨_, _, rfl, ⟨_, rfl, wfI I_n45⟩, ⟨_, _, rfl, ⟨_, rfl, Nat.le_trans (show (⟨#[]⟩ : ByteArray).size ≤ 0 from Nat.le_of_eq rfl) (by decide)⟩, rfl⟩⟩))
      rw [chk_ok (by rw [Bool.and_eq_true]; exact ⟨rfl, decide_eq_true (by simp only [List.length_cons, List.length_nil]; unfold lim; omega)⟩)]
      exact ih m _ _ (by simp; omega) (by omega) ⟨by simp; omega, el.2⟩
    · simp only [decide_eq_false g, Bool.false_eq_true, if_false]
      exact hq _ _ hx

theorem d91 {l1 : List (List D)} {n2 : Int} (C : Cu l1 n2) (n3 : Int)  : PQ zr91 zo91 (fun o => Cu l1 (asI (outC o 0 1)) ∧ I64 (asI (resC o 0 0)) ∧ I64 (asI (resC o 0 1)) ∧ I64 (asI (resC o 0 2)) ∧ I64 (asI (resC o 0 3)) ∧ (asS (resC o 0 4)).size ≤ 1000 ∧ EL [.i .i64, .s] 6000 (asL (resC o 0 5)) ∧ True) (t91 l1 n2 n3) := by
  unfold t91 ta91
  extract_lets -merge -useContext +onlyGivenNames -underBinder y1
  obtain ⟨a_y1, c_y1, b_y1, -⟩ : PQ zr79 zo79 _ y1 := d79 C _ _
  clear_value y1
  refine pq_chk a_y1 ?_
  extract_lets -merge -useContext +onlyGivenNames -underBinder y2
  obtain ⟨a_y2, c_y2, b_y2, -⟩ : PQ zr79 zo79 _ y2 := d79 c_y1 _ _
  clear_value y2
  refine pq_chk a_y2 ?_
  extract_lets -merge -useContext +onlyGivenNames -underBinder y3
  extract_lets -merge -useContext +onlyGivenNames -underBinder y4
  refine pq_ite (fun g1 => ?_) (fun g1 => ?_)
  ·
    extract_lets -merge -useContext +onlyGivenNames -underBinder y5
    extract_lets -merge -useContext +onlyGivenNames -underBinder y6
    extract_lets -merge -useContext +onlyGivenNames -underBinder y7
    obtain ⟨a_y7, c_y7, -⟩ : PQ zr74 zo74 _ y7 := d74 c_y2 _ _
    clear_value y7
    refine pq_chk a_y7 ?_
    extract_lets -merge -useContext +onlyGivenNames -underBinder k1
    have h_k1 : ∀ (n4 : Int) (n5 : Int) (n6 : Int) (n7 : Int) (s8 : ByteArray) (C_k1_n4 : Cu l1 n4) (I_k1_n6 : I64 n6) (I_k1_n7 : I64 n7) (S_k1_s8 : s8.size ≤ 1000), PQ zr91 zo91 (fun o => Cu l1 (asI (outC o 0 1)) ∧ I64 (asI (resC o 0 0)) ∧ I64 (asI (resC o 0 1)) ∧ I64 (asI (resC o 0 2)) ∧ I64 (asI (resC o 0 3)) ∧ (asS (resC o 0 4)).size ≤ 1000 ∧ EL [.i .i64, .s] 6000 (asL (resC o 0 5)) ∧ True) (k1 n4 n5 n6 n7 s8) := by
      intro n4 n5 n6 n7 s8 C_k1_n4 I_k1_n6 I_k1_n7 S_k1_s8
      dsimp -zeta only [k1]
      extract_lets -merge -useContext +onlyGivenNames -underBinder y8
      obtain ⟨a_y8, c_y8, p_y8, -⟩ : PQ zr96 zo96 _ y8 := d96 C_k1_n4 _ _ _ _ (by decide) I_k1_n7
      clear_value y8
      refine pq_chk a_y8 ?_
      extract_lets -merge -useContext +onlyGivenNames -underBinder y9
      refine pq_ite (fun g2 => ?_) (fun g2 => ?_)
      ·
        extract_lets -merge -useContext +onlyGivenNames -underBinder y10
        extract_lets -merge -useContext +onlyGivenNames -underBinder y11
        extract_lets -merge -useContext +onlyGivenNames -underBinder y12
        obtain ⟨a_y12, c_y12, -⟩ : PQ zr74 zo74 _ y12 := d74 c_y8 _ _
        clear_value y12
        refine pq_chk a_y12 ?_
        extract_lets -merge -useContext +onlyGivenNames -underBinder k2
        have h_k2 : ∀ (n9 : Int) (n10 : Int) (n11 : Int) (n12 : Int) (s13 : ByteArray) (C_k2_n9 : Cu l1 n9) (I_k2_n11 : I64 n11) (I_k2_n12 : I64 n12) (S_k2_s13 : s13.size ≤ 1000), PQ zr91 zo91 (fun o => Cu l1 (asI (outC o 0 1)) ∧ I64 (asI (resC o 0 0)) ∧ I64 (asI (resC o 0 1)) ∧ I64 (asI (resC o 0 2)) ∧ I64 (asI (resC o 0 3)) ∧ (asS (resC o 0 4)).size ≤ 1000 ∧ EL [.i .i64, .s] 6000 (asL (resC o 0 5)) ∧ True) (k2 n9 n10 n11 n12 s13) := by
          intro n9 n10 n11 n12 s13 C_k2_n9 I_k2_n11 I_k2_n12 S_k2_s13
          dsimp -zeta only [k2]
          extract_lets -merge -useContext +onlyGivenNames -underBinder y13
          refine pq_ite (fun g3 => ?_) (fun g3 => ?_)
          ·
            extract_lets -merge -useContext +onlyGivenNames -underBinder y14
            obtain ⟨a_y14, c_y14, -⟩ : PQ zr74 zo74 _ y14 := d74 C_k2_n9 _ _
            clear_value y14
            refine pq_chk a_y14 ?_
            extract_lets -merge -useContext +onlyGivenNames -underBinder y15
            refine pq_ite (fun g4 => ?_) (fun g4 => ?_)
            ·
              extract_lets -merge -useContext +onlyGivenNames -underBinder y16
              extract_lets -merge -useContext +onlyGivenNames -underBinder y17
              extract_lets -merge -useContext +onlyGivenNames -underBinder y18
              obtain ⟨a_y18, c_y18, b_y18, -⟩ : PQ zr79 zo79 _ y18 := d79 c_y14 _ _
              clear_value y18
              refine pq_chk a_y18 ?_
              extract_lets -merge -useContext +onlyGivenNames -underBinder y19
              extract_lets -merge -useContext +onlyGivenNames -underBinder y20
              extract_lets -merge -useContext +onlyGivenNames -underBinder y21
              extract_lets -merge -useContext +onlyGivenNames -underBinder y22
              extract_lets -merge -useContext +onlyGivenNames -underBinder y23
              extract_lets -merge -useContext +onlyGivenNames -underBinder y24
              refine lp91_3 _ _ _ _ _ _ _ _ _ _ _ _ _ _ _ _ _ _ _ (show I64 y3 from (show I64 (asI (resC y1 0 0)) from (i64_b b_y1))) (by have n0 : ([] : List (List D)).length = 0 := rfl; have q_y18 := b_y18; rw [w64_in _ (by omega)]; omega) (fun b72 l73 F_l73 => ?_) 2000 KK _ _ (by omega) (by rw [KK_eq]; omega) (el_mono (by decide) (show EL [.i .i64, .s] 60 y24 from (show EL [.i .i64, .s] 60 (asL (resC y8 0 0)) from p_y8)))
              exact ⟨rfl, c_y18, (show I64 y3 from (show I64 (asI (resC y1 0 0)) from (i64_b b_y1))), (show I64 y23 from (i64_w64 _)), I_k2_n11, I_k2_n12, (Nat.le_trans S_k2_s13 (by decide)), (el_mono (by decide) F_l73), trivial⟩
            ·
              extract_lets -merge -useContext +onlyGivenNames -underBinder y25
              extract_lets -merge -useContext +onlyGivenNames -underBinder y26
              extract_lets -merge -useContext +onlyGivenNames -underBinder y27
              extract_lets -merge -useContext +onlyGivenNames -underBinder y28
              exact ⟨rfl, c_y14, (show I64 y3 from (show I64 (asI (resC y1 0 0)) from (i64_b b_y1))), (show I64 y25 from (i64_w64 _)), I_k2_n11, I_k2_n12, (Nat.le_trans S_k2_s13 (by decide)), (el_mono (by decide) (show EL [.i .i64, .s] 60 y26 from (show EL [.i .i64, .s] 60 (asL (resC y8 0 0)) from p_y8))), trivial⟩
          ·
            refine pq_chk (by revert g3; generalize y13 = u_y13; revert u_y13; decide) ?_
            extract_lets -merge -useContext +onlyGivenNames -underBinder y29
            extract_lets -merge -useContext +onlyGivenNames -underBinder y30
            exact ⟨rfl, C_k2_n9, (show I64 y3 from (show I64 (asI (resC y1 0 0)) from (i64_b b_y1))), (show I64 y29 from (i64_w64 _)), I_k2_n11, I_k2_n12, (Nat.le_trans S_k2_s13 (by decide)), (el_mono (by decide) (show EL [.i .i64, .s] 60 y30 from (show EL [.i .i64, .s] 60 (asL (resC y8 0 0)) from p_y8))), trivial⟩
        extract_lets -merge -useContext +onlyGivenNames -underBinder y31
        refine pq_ite (fun g5 => ?_) (fun g5 => ?_)
        ·
          extract_lets -merge -useContext +onlyGivenNames -underBinder y32
          extract_lets -merge -useContext +onlyGivenNames -underBinder y33
          extract_lets -merge -useContext +onlyGivenNames -underBinder y34
          obtain ⟨a_y34, c_y34, b_y34, -⟩ : PQ zr79 zo79 _ y34 := d79 c_y12 _ _
          clear_value y34
          refine pq_chk a_y34 ?_
          extract_lets -merge -useContext +onlyGivenNames -underBinder y35
          exact h_k2 (asI (outC y34 0 1)) (asI (outC y34 0 2)) (w64 ((w64 ((100000 : Int) - (y35.length : Int))) + (asI (resC y34 0 0)))) (1 : Int) (⟨#[]⟩ : ByteArray) c_y34 (i64_w64 _) (show I64 (1) by unfold I64; omega) (Nat.le_trans (show (⟨#[]⟩ : ByteArray).size ≤ 0 from Nat.le_of_eq rfl) (by decide))
        ·
          extract_lets -merge -useContext +onlyGivenNames -underBinder y36
          extract_lets -merge -useContext +onlyGivenNames -underBinder y37
          exact h_k2 y36 y37 n6 n7 s8 c_y12 I_k1_n6 I_k1_n7 (Nat.le_trans S_k1_s8 (by decide))
      ·
        refine pq_chk (by revert g2; generalize y9 = u_y9; revert u_y9; decide) ?_
        extract_lets -merge -useContext +onlyGivenNames -underBinder y38
        refine pq_ite (fun g6 => ?_) (fun g6 => ?_)
        ·
          extract_lets -merge -useContext +onlyGivenNames -underBinder y39
          extract_lets -merge -useContext +onlyGivenNames -underBinder y40
          extract_lets -merge -useContext +onlyGivenNames -underBinder y41
          obtain ⟨a_y41, c_y41, -⟩ : PQ zr74 zo74 _ y41 := d74 c_y8 _ _
          clear_value y41
          refine pq_chk a_y41 ?_
          extract_lets -merge -useContext +onlyGivenNames -underBinder y42
          refine pq_ite (fun g7 => ?_) (fun g7 => ?_)
          ·
            extract_lets -merge -useContext +onlyGivenNames -underBinder y43
            extract_lets -merge -useContext +onlyGivenNames -underBinder y44
            extract_lets -merge -useContext +onlyGivenNames -underBinder y45
            obtain ⟨a_y45, c_y45, b_y45, -⟩ : PQ zr79 zo79 _ y45 := d79 c_y41 _ _
            clear_value y45
            refine pq_chk a_y45 ?_
            extract_lets -merge -useContext +onlyGivenNames -underBinder y46
            extract_lets -merge -useContext +onlyGivenNames -underBinder y47
            extract_lets -merge -useContext +onlyGivenNames -underBinder y48
            extract_lets -merge -useContext +onlyGivenNames -underBinder y49
            extract_lets -merge -useContext +onlyGivenNames -underBinder y50
            refine lp91_3 _ _ _ _ _ _ _ _ _ _ _ _ _ _ _ _ _ _ _ (show I64 y3 from (show I64 (asI (resC y1 0 0)) from (i64_b b_y1))) (by have n0 : ([] : List (List D)).length = 0 := rfl; have q_y45 := b_y45; rw [w64_in _ (by omega)]; omega) (fun b132 l133 F_l133 => ?_) 2000 KK _ _ (by omega) (by rw [KK_eq]; omega) (el_mono (by decide) (show EL [.i .i64, .s] 60 y50 from (show EL [.i .i64, .s] 60 (asL (resC y8 0 0)) from p_y8)))
            exact ⟨rfl, c_y45, (show I64 y3 from (show I64 (asI (resC y1 0 0)) from (i64_b b_y1))), (show I64 y49 from (i64_w64 _)), I_k1_n6, I_k1_n7, (Nat.le_trans S_k1_s8 (by decide)), (el_mono (by decide) F_l133), trivial⟩
          ·
            extract_lets -merge -useContext +onlyGivenNames -underBinder y51
            extract_lets -merge -useContext +onlyGivenNames -underBinder y52
            extract_lets -merge -useContext +onlyGivenNames -underBinder y53
            extract_lets -merge -useContext +onlyGivenNames -underBinder y54
            exact ⟨rfl, c_y41, (show I64 y3 from (show I64 (asI (resC y1 0 0)) from (i64_b b_y1))), (show I64 y51 from (i64_w64 _)), I_k1_n6, I_k1_n7, (Nat.le_trans S_k1_s8 (by decide)), (el_mono (by decide) (show EL [.i .i64, .s] 60 y52 from (show EL [.i .i64, .s] 60 (asL (resC y8 0 0)) from p_y8))), trivial⟩
        ·
          refine pq_chk (by revert g6; generalize y38 = u_y38; revert u_y38; decide) ?_
          extract_lets -merge -useContext +onlyGivenNames -underBinder y55
          extract_lets -merge -useContext +onlyGivenNames -underBinder y56
          extract_lets -merge -useContext +onlyGivenNames -underBinder y57
          extract_lets -merge -useContext +onlyGivenNames -underBinder y58
          exact ⟨rfl, c_y8, (show I64 y3 from (show I64 (asI (resC y1 0 0)) from (i64_b b_y1))), (show I64 y55 from (i64_w64 _)), I_k1_n6, I_k1_n7, (Nat.le_trans S_k1_s8 (by decide)), (el_mono (by decide) (show EL [.i .i64, .s] 60 y56 from (show EL [.i .i64, .s] 60 (asL (resC y8 0 0)) from p_y8))), trivial⟩
    extract_lets -merge -useContext +onlyGivenNames -underBinder y59
    refine pq_ite (fun g8 => ?_) (fun g8 => ?_)
    ·
      extract_lets -merge -useContext +onlyGivenNames -underBinder y60
      extract_lets -merge -useContext +onlyGivenNames -underBinder y61
      extract_lets -merge -useContext +onlyGivenNames -underBinder y62
      obtain ⟨a_y62, c_y62, b_y62, -⟩ : PQ zr79 zo79 _ y62 := d79 c_y7 _ _
      clear_value y62
      refine pq_chk a_y62 ?_
      extract_lets -merge -useContext +onlyGivenNames -underBinder y63
      obtain ⟨a_y63, c_y63, b_y63, -⟩ : PQ zr79 zo79 _ y63 := d79 c_y62 _ _
      clear_value y63
      refine pq_chk a_y63 ?_
      extract_lets -merge -useContext +onlyGivenNames -underBinder y64
      obtain ⟨a_y64, c_y64, p_y64, -⟩ : PQ zr92 zo92 _ y64 := d92 c_y63 _ _ (by decide)
      clear_value y64
      refine pq_chk a_y64 ?_
      exact h_k1 (asI (outC y64 0 1)) (asI (outC y64 0 2)) (w64 ((1 : Int) + (asI (resC y62 0 0)))) (w64 ((1 : Int) + (asI (resC y63 0 0)))) (asS (resC y64 0 0)) c_y64 (i64_w64 _) (i64_w64 _) (Nat.le_trans (show (asS (resC y64 0 0)).size ≤ 1000 from p_y64) (by decide))
    ·
      extract_lets -merge -useContext +onlyGivenNames -underBinder y65
      extract_lets -merge -useContext +onlyGivenNames -underBinder y66
      exact h_k1 y65 y66 (0 : Int) (0 : Int) (⟨#[]⟩ : ByteArray) c_y7 (show I64 (0) by unfold I64; omega) (show I64 (0) by unfold I64; omega) (Nat.le_trans (show (⟨#[]⟩ : ByteArray).size ≤ 0 from Nat.le_of_eq rfl) (by decide))
  ·
    refine pq_chk (by revert g1; generalize y4 = u_y4; revert u_y4; decide) ?_
    extract_lets -merge -useContext +onlyGivenNames -underBinder y67
    extract_lets -merge -useContext +onlyGivenNames -underBinder y68
    extract_lets -merge -useContext +onlyGivenNames -underBinder y69
    obtain ⟨a_y69, c_y69, p_y69, -⟩ : PQ zr96 zo96 _ y69 := d96 c_y2 _ _ _ _ (by decide) (show I64 (0) by unfold I64; omega)
    clear_value y69
    refine pq_chk a_y69 ?_
    extract_lets -merge -useContext +onlyGivenNames -underBinder y70
    refine pq_ite (fun g9 => ?_) (fun g9 => ?_)
    ·
      extract_lets -merge -useContext +onlyGivenNames -underBinder y71
      extract_lets -merge -useContext +onlyGivenNames -underBinder y72
      extract_lets -merge -useContext +onlyGivenNames -underBinder y73
      obtain ⟨a_y73, c_y73, -⟩ : PQ zr74 zo74 _ y73 := d74 c_y69 _ _
      clear_value y73
      refine pq_chk a_y73 ?_
      extract_lets -merge -useContext +onlyGivenNames -underBinder k3
      have h_k3 : ∀ (n134 : Int) (n135 : Int) (n136 : Int) (n137 : Int) (C_k3_n134 : Cu l1 n134) (I_k3_n136 : I64 n136) (I_k3_n137 : I64 n137), PQ zr91 zo91 (fun o => Cu l1 (asI (outC o 0 1)) ∧ I64 (asI (resC o 0 0)) ∧ I64 (asI (resC o 0 1)) ∧ I64 (asI (resC o 0 2)) ∧ I64 (asI (resC o 0 3)) ∧ (asS (resC o 0 4)).size ≤ 1000 ∧ EL [.i .i64, .s] 6000 (asL (resC o 0 5)) ∧ True) (k3 n134 n135 n136 n137) := by
        intro n134 n135 n136 n137 C_k3_n134 I_k3_n136 I_k3_n137
        dsimp -zeta only [k3]
        extract_lets -merge -useContext +onlyGivenNames -underBinder y74
        refine pq_ite (fun g10 => ?_) (fun g10 => ?_)
        ·
          extract_lets -merge -useContext +onlyGivenNames -underBinder y75
          obtain ⟨a_y75, c_y75, -⟩ : PQ zr74 zo74 _ y75 := d74 C_k3_n134 _ _
          clear_value y75
          refine pq_chk a_y75 ?_
          extract_lets -merge -useContext +onlyGivenNames -underBinder y76
          refine pq_ite (fun g11 => ?_) (fun g11 => ?_)
          ·
            extract_lets -merge -useContext +onlyGivenNames -underBinder y77
            extract_lets -merge -useContext +onlyGivenNames -underBinder y78
            extract_lets -merge -useContext +onlyGivenNames -underBinder y79
            obtain ⟨a_y79, c_y79, b_y79, -⟩ : PQ zr79 zo79 _ y79 := d79 c_y75 _ _
            clear_value y79
            refine pq_chk a_y79 ?_
            extract_lets -merge -useContext +onlyGivenNames -underBinder y80
            extract_lets -merge -useContext +onlyGivenNames -underBinder y81
            extract_lets -merge -useContext +onlyGivenNames -underBinder y82
            extract_lets -merge -useContext +onlyGivenNames -underBinder y83
            extract_lets -merge -useContext +onlyGivenNames -underBinder y84
            refine lp91_3 _ _ _ _ _ _ _ _ _ _ _ _ _ _ _ _ _ _ _ (show I64 y3 from (show I64 (asI (resC y1 0 0)) from (i64_b b_y1))) (by have n0 : ([] : List (List D)).length = 0 := rfl; have q_y79 := b_y79; rw [w64_in _ (by omega)]; omega) (fun b196 l197 F_l197 => ?_) 2000 KK _ _ (by omega) (by rw [KK_eq]; omega) (el_mono (by decide) (show EL [.i .i64, .s] 60 y84 from (show EL [.i .i64, .s] 60 (asL (resC y69 0 0)) from p_y69)))
            exact ⟨rfl, c_y79, (show I64 y3 from (show I64 (asI (resC y1 0 0)) from (i64_b b_y1))), (show I64 y83 from (i64_w64 _)), I_k3_n136, I_k3_n137, (Nat.le_trans (show (⟨#[]⟩ : ByteArray).size ≤ 0 from Nat.le_of_eq rfl) (by decide)), (el_mono (by decide) F_l197), trivial⟩
          ·
            extract_lets -merge -useContext +onlyGivenNames -underBinder y85
            extract_lets -merge -useContext +onlyGivenNames -underBinder y86
            extract_lets -merge -useContext +onlyGivenNames -underBinder y87
            extract_lets -merge -useContext +onlyGivenNames -underBinder y88
            exact ⟨rfl, c_y75, (show I64 y3 from (show I64 (asI (resC y1 0 0)) from (i64_b b_y1))), (show I64 y85 from (i64_w64 _)), I_k3_n136, I_k3_n137, (Nat.le_trans (show (⟨#[]⟩ : ByteArray).size ≤ 0 from Nat.le_of_eq rfl) (by decide)), (el_mono (by decide) (show EL [.i .i64, .s] 60 y86 from (show EL [.i .i64, .s] 60 (asL (resC y69 0 0)) from p_y69))), trivial⟩
        ·
          refine pq_chk (by revert g10; generalize y74 = u_y74; revert u_y74; decide) ?_
          extract_lets -merge -useContext +onlyGivenNames -underBinder y89
          extract_lets -merge -useContext +onlyGivenNames -underBinder y90
          exact ⟨rfl, C_k3_n134, (show I64 y3 from (show I64 (asI (resC y1 0 0)) from (i64_b b_y1))), (show I64 y89 from (i64_w64 _)), I_k3_n136, I_k3_n137, (Nat.le_trans (show (⟨#[]⟩ : ByteArray).size ≤ 0 from Nat.le_of_eq rfl) (by decide)), (el_mono (by decide) (show EL [.i .i64, .s] 60 y90 from (show EL [.i .i64, .s] 60 (asL (resC y69 0 0)) from p_y69))), trivial⟩
      extract_lets -merge -useContext +onlyGivenNames -underBinder y91
      refine pq_ite (fun g12 => ?_) (fun g12 => ?_)
      ·
        extract_lets -merge -useContext +onlyGivenNames -underBinder y92
        extract_lets -merge -useContext +onlyGivenNames -underBinder y93
        extract_lets -merge -useContext +onlyGivenNames -underBinder y94
        obtain ⟨a_y94, c_y94, b_y94, -⟩ : PQ zr79 zo79 _ y94 := d79 c_y73 _ _
        clear_value y94
        refine pq_chk a_y94 ?_
        extract_lets -merge -useContext +onlyGivenNames -underBinder y95
        exact h_k3 (asI (outC y94 0 1)) (asI (outC y94 0 2)) (w64 ((w64 ((100000 : Int) - (y95.length : Int))) + (asI (resC y94 0 0)))) (1 : Int) c_y94 (i64_w64 _) (show I64 (1) by unfold I64; omega)
      ·
        extract_lets -merge -useContext +onlyGivenNames -underBinder y96
        extract_lets -merge -useContext +onlyGivenNames -underBinder y97
        exact h_k3 y96 y97 (0 : Int) (0 : Int) c_y73 (show I64 (0) by unfold I64; omega) (show I64 (0) by unfold I64; omega)
    ·
      refine pq_chk (by revert g9; generalize y70 = u_y70; revert u_y70; decide) ?_
      extract_lets -merge -useContext +onlyGivenNames -underBinder y98
      refine pq_ite (fun g13 => ?_) (fun g13 => ?_)
      ·
        extract_lets -merge -useContext +onlyGivenNames -underBinder y99
        extract_lets -merge -useContext +onlyGivenNames -underBinder y100
        extract_lets -merge -useContext +onlyGivenNames -underBinder y101
        obtain ⟨a_y101, c_y101, -⟩ : PQ zr74 zo74 _ y101 := d74 c_y69 _ _
        clear_value y101
        refine pq_chk a_y101 ?_
        extract_lets -merge -useContext +onlyGivenNames -underBinder y102
        refine pq_ite (fun g14 => ?_) (fun g14 => ?_)
        ·
          extract_lets -merge -useContext +onlyGivenNames -underBinder y103
          extract_lets -merge -useContext +onlyGivenNames -underBinder y104
          extract_lets -merge -useContext +onlyGivenNames -underBinder y105
          obtain ⟨a_y105, c_y105, b_y105, -⟩ : PQ zr79 zo79 _ y105 := d79 c_y101 _ _
          clear_value y105
          refine pq_chk a_y105 ?_
          extract_lets -merge -useContext +onlyGivenNames -underBinder y106
          extract_lets -merge -useContext +onlyGivenNames -underBinder y107
          extract_lets -merge -useContext +onlyGivenNames -underBinder y108
          extract_lets -merge -useContext +onlyGivenNames -underBinder y109
          refine lp91_3 _ _ _ _ _ _ _ _ _ _ _ _ _ _ _ _ _ _ _ (show I64 y3 from (show I64 (asI (resC y1 0 0)) from (i64_b b_y1))) (by have n0 : ([] : List (List D)).length = 0 := rfl; have q_y105 := b_y105; rw [w64_in _ (by omega)]; omega) (fun b256 l257 F_l257 => ?_) 2000 KK _ _ (by omega) (by rw [KK_eq]; omega) (el_mono (by decide) (show EL [.i .i64, .s] 60 y109 from (show EL [.i .i64, .s] 60 (asL (resC y69 0 0)) from p_y69)))
          exact ⟨rfl, c_y105, (show I64 y3 from (show I64 (asI (resC y1 0 0)) from (i64_b b_y1))), (show I64 y108 from (i64_w64 _)), (show I64 (0) by unfold I64; omega), (show I64 (0) by unfold I64; omega), (Nat.le_trans (show (⟨#[]⟩ : ByteArray).size ≤ 0 from Nat.le_of_eq rfl) (by decide)), (el_mono (by decide) F_l257), trivial⟩
        ·
          extract_lets -merge -useContext +onlyGivenNames -underBinder y110
          extract_lets -merge -useContext +onlyGivenNames -underBinder y111
          extract_lets -merge -useContext +onlyGivenNames -underBinder y112
          extract_lets -merge -useContext +onlyGivenNames -underBinder y113
          exact ⟨rfl, c_y101, (show I64 y3 from (show I64 (asI (resC y1 0 0)) from (i64_b b_y1))), (show I64 y110 from (i64_w64 _)), (show I64 (0) by unfold I64; omega), (show I64 (0) by unfold I64; omega), (Nat.le_trans (show (⟨#[]⟩ : ByteArray).size ≤ 0 from Nat.le_of_eq rfl) (by decide)), (el_mono (by decide) (show EL [.i .i64, .s] 60 y111 from (show EL [.i .i64, .s] 60 (asL (resC y69 0 0)) from p_y69))), trivial⟩
      ·
        refine pq_chk (by revert g13; generalize y98 = u_y98; revert u_y98; decide) ?_
        extract_lets -merge -useContext +onlyGivenNames -underBinder y114
        extract_lets -merge -useContext +onlyGivenNames -underBinder y115
        extract_lets -merge -useContext +onlyGivenNames -underBinder y116
        extract_lets -merge -useContext +onlyGivenNames -underBinder y117
        exact ⟨rfl, c_y69, (show I64 y3 from (show I64 (asI (resC y1 0 0)) from (i64_b b_y1))), (show I64 y114 from (i64_w64 _)), (show I64 (0) by unfold I64; omega), (show I64 (0) by unfold I64; omega), (Nat.le_trans (show (⟨#[]⟩ : ByteArray).size ≤ 0 from Nat.le_of_eq rfl) (by decide)), (el_mono (by decide) (show EL [.i .i64, .s] 60 y115 from (show EL [.i .i64, .s] 60 (asL (resC y69 0 0)) from p_y69))), trivial⟩

theorem d73 {l1 : List (List D)} {n2 : Int} (C : Cu l1 n2) (n3 : Int)  : PQ zr73 zo73 (fun o => Cu l1 (asI (outC o 0 1)) ∧ I64 (asI (resC o 0 0)) ∧ I64 (asI (resC o 0 1)) ∧ I64 (asI (resC o 0 2)) ∧ I64 (asI (resC o 0 3)) ∧ (asS (resC o 0 4)).size ≤ 1001 ∧ EL [.i .i64, .s] 6001 (asL (resC o 0 5)) ∧ True) (t73 l1 n2 n3) := by
  unfold t73 ta73
  extract_lets -merge -useContext +onlyGivenNames -underBinder y1
  obtain ⟨a_y1, c_y1, p0_0_y1, p0_1_y1, p0_2_y1, p0_3_y1, p0_4_y1, p0_5_y1, -⟩ : PQ zr91 zo91 _ y1 := d91 C _
  clear_value y1
  refine pq_chk a_y1 ?_
  extract_lets -merge -useContext +onlyGivenNames -underBinder y2
  obtain ⟨a_y2, c_y2, -⟩ : PQ zr74 zo74 _ y2 := d74 c_y1 _ _
  clear_value y2
  refine pq_chk a_y2 ?_
  refine pq_ite (fun g1 => ?_) (fun g1 => ?_)
  ·
    extract_lets -merge -useContext +onlyGivenNames -underBinder y3
    extract_lets -merge -useContext +onlyGivenNames -underBinder y4
    extract_lets -merge -useContext +onlyGivenNames -underBinder y5
    obtain ⟨a_y5, c_y5, b_y5, -⟩ : PQ zr79 zo79 _ y5 := d79 c_y2 _ _
    clear_value y5
    refine pq_chk a_y5 ?_
    extract_lets -merge -useContext +onlyGivenNames -underBinder y6
    refine pq_ite (fun g2 => ?_) (fun g2 => ?_)
    ·
      extract_lets -merge -useContext +onlyGivenNames -underBinder y7
      extract_lets -merge -useContext +onlyGivenNames -underBinder y8
      extract_lets -merge -useContext +onlyGivenNames -underBinder y9
      obtain ⟨a_y9, c_y9, m_y9, -⟩ : PQ zr81 zo81 _ y9 := d81 c_y5 _ _ rfl
      clear_value y9
      refine pq_chk a_y9 ?_
      extract_lets -merge -useContext +onlyGivenNames -underBinder y10
      extract_lets -merge -useContext +onlyGivenNames -underBinder y11
      extract_lets -merge -useContext +onlyGivenNames -underBinder y12
      extract_lets -merge -useContext +onlyGivenNames -underBinder y13
      extract_lets -merge -useContext +onlyGivenNames -underBinder y14
      exact ⟨rfl, c_y9, (show I64 (asI (resC y9 0 0)) from (i64_pick m_y9 (by decide))), (show I64 y10 from (show I64 (asI (resC y1 0 1)) from p0_1_y1)), (show I64 y11 from (show I64 (asI (resC y1 0 2)) from p0_2_y1)), (show I64 y12 from (show I64 (asI (resC y1 0 3)) from p0_3_y1)), (Nat.le_trans (show y13.size ≤ 1000 from (show (asS (resC y1 0 4)).size ≤ 1000 from p0_4_y1)) (by decide)), (el_mono (by decide) (show EL [.i .i64, .s] 6000 y14 from (show EL [.i .i64, .s] 6000 (asL (resC y1 0 5)) from p0_5_y1))), trivial⟩
    ·
      refine pq_ite (fun g3 => ?_) (fun g3 => ?_)
      ·
        extract_lets -merge -useContext +onlyGivenNames -underBinder y15
        extract_lets -merge -useContext +onlyGivenNames -underBinder y16
        extract_lets -merge -useContext +onlyGivenNames -underBinder y17
        obtain ⟨a_y17, c_y17, m_y17, -⟩ : PQ zr81 zo81 _ y17 := d81 c_y5 _ _ rfl
        clear_value y17
        refine pq_chk a_y17 ?_
        extract_lets -merge -useContext +onlyGivenNames -underBinder y18
        extract_lets -merge -useContext +onlyGivenNames -underBinder y19
        extract_lets -merge -useContext +onlyGivenNames -underBinder y20
        extract_lets -merge -useContext +onlyGivenNames -underBinder y21
        extract_lets -merge -useContext +onlyGivenNames -underBinder y22
        exact ⟨rfl, c_y17, (show I64 y18 from (show I64 (asI (resC y1 0 0)) from p0_0_y1)), (show I64 (asI (resC y17 0 0)) from (i64_pick m_y17 (by decide))), (show I64 y19 from (show I64 (asI (resC y1 0 2)) from p0_2_y1)), (show I64 y20 from (show I64 (asI (resC y1 0 3)) from p0_3_y1)), (Nat.le_trans (show y21.size ≤ 1000 from (show (asS (resC y1 0 4)).size ≤ 1000 from p0_4_y1)) (by decide)), (el_mono (by decide) (show EL [.i .i64, .s] 6000 y22 from (show EL [.i .i64, .s] 6000 (asL (resC y1 0 5)) from p0_5_y1))), trivial⟩
      ·
        refine pq_ite (fun g4 => ?_) (fun g4 => ?_)
        ·
          extract_lets -merge -useContext +onlyGivenNames -underBinder y23
          extract_lets -merge -useContext +onlyGivenNames -underBinder y24
          extract_lets -merge -useContext +onlyGivenNames -underBinder y25
          obtain ⟨a_y25, c_y25, m_y25, -⟩ : PQ zr81 zo81 _ y25 := d81 c_y5 _ _ rfl
          clear_value y25
          refine pq_chk a_y25 ?_
          extract_lets -merge -useContext +onlyGivenNames -underBinder y26
          extract_lets -merge -useContext +onlyGivenNames -underBinder y27
          extract_lets -merge -useContext +onlyGivenNames -underBinder y28
          extract_lets -merge -useContext +onlyGivenNames -underBinder y29
          extract_lets -merge -useContext +onlyGivenNames -underBinder y30
          exact ⟨rfl, c_y25, (show I64 y26 from (show I64 (asI (resC y1 0 0)) from p0_0_y1)), (show I64 y27 from (show I64 (asI (resC y1 0 1)) from p0_1_y1)), (show I64 (asI (resC y25 0 0)) from (i64_pick m_y25 (by decide))), (show I64 y28 from (show I64 (asI (resC y1 0 3)) from p0_3_y1)), (Nat.le_trans (show y29.size ≤ 1000 from (show (asS (resC y1 0 4)).size ≤ 1000 from p0_4_y1)) (by decide)), (el_mono (by decide) (show EL [.i .i64, .s] 6000 y30 from (show EL [.i .i64, .s] 6000 (asL (resC y1 0 5)) from p0_5_y1))), trivial⟩
        ·
          refine pq_ite (fun g5 => ?_) (fun g5 => ?_)
          ·
            extract_lets -merge -useContext +onlyGivenNames -underBinder y31
            extract_lets -merge -useContext +onlyGivenNames -underBinder y32
            extract_lets -merge -useContext +onlyGivenNames -underBinder y33
            obtain ⟨a_y33, c_y33, b_y33, -⟩ : PQ zr79 zo79 _ y33 := d79 c_y5 _ _
            clear_value y33
            refine pq_chk a_y33 ?_
            extract_lets -merge -useContext +onlyGivenNames -underBinder y34
            extract_lets -merge -useContext +onlyGivenNames -underBinder y35
            extract_lets -merge -useContext +onlyGivenNames -underBinder y36
            extract_lets -merge -useContext +onlyGivenNames -underBinder y37
            extract_lets -merge -useContext +onlyGivenNames -underBinder y38
            exact ⟨rfl, c_y33, (show I64 y34 from (show I64 (asI (resC y1 0 0)) from p0_0_y1)), (show I64 y35 from (show I64 (asI (resC y1 0 1)) from p0_1_y1)), (show I64 y36 from (show I64 (asI (resC y1 0 2)) from p0_2_y1)), (i64_w64 _), (Nat.le_trans (show y37.size ≤ 1000 from (show (asS (resC y1 0 4)).size ≤ 1000 from p0_4_y1)) (by decide)), (el_mono (by decide) (show EL [.i .i64, .s] 6000 y38 from (show EL [.i .i64, .s] 6000 (asL (resC y1 0 5)) from p0_5_y1))), trivial⟩
          ·
            extract_lets -merge -useContext +onlyGivenNames -underBinder k1
            have h_k1 : ∀ (n4 : Int) (n5 : Int) (s6 : ByteArray) (l7 : List (List D)) (C_k1_n4 : Cu l1 n4) (S_k1_s6 : s6.size ≤ 1001) (L_k1_l7 : EL [.i .i64, .s] 6001 l7), PQ zr73 zo73 (fun o => Cu l1 (asI (outC o 0 1)) ∧ I64 (asI (resC o 0 0)) ∧ I64 (asI (resC o 0 1)) ∧ I64 (asI (resC o 0 2)) ∧ I64 (asI (resC o 0 3)) ∧ (asS (resC o 0 4)).size ≤ 1001 ∧ EL [.i .i64, .s] 6001 (asL (resC o 0 5)) ∧ True) (k1 n4 n5 s6 l7) := by
              intro n4 n5 s6 l7 C_k1_n4 S_k1_s6 L_k1_l7
              dsimp -zeta only [k1]
              extract_lets -merge -useContext +onlyGivenNames -underBinder y39
              extract_lets -merge -useContext +onlyGivenNames -underBinder y40
              extract_lets -merge -useContext +onlyGivenNames -underBinder y41
              extract_lets -merge -useContext +onlyGivenNames -underBinder y42
              exact ⟨rfl, C_k1_n4, (show I64 y39 from (show I64 (asI (resC y1 0 0)) from p0_0_y1)), (show I64 y40 from (show I64 (asI (resC y1 0 1)) from p0_1_y1)), (show I64 y41 from (show I64 (asI (resC y1 0 2)) from p0_2_y1)), (show I64 y42 from (show I64 (asI (resC y1 0 3)) from p0_3_y1)), (Nat.le_trans S_k1_s6 (by decide)), (el_mono (by decide) L_k1_l7), trivial⟩
            refine pq_ite (fun g6 => ?_) (fun g6 => ?_)
            ·
              extract_lets -merge -useContext +onlyGivenNames -underBinder y43
              extract_lets -merge -useContext +onlyGivenNames -underBinder y44
              extract_lets -merge -useContext +onlyGivenNames -underBinder y45
              obtain ⟨a_y45, c_y45, b_y45, -⟩ : PQ zr79 zo79 _ y45 := d79 c_y5 _ _
              clear_value y45
              refine pq_chk a_y45 ?_
              extract_lets -merge -useContext +onlyGivenNames -underBinder y46
              extract_lets -merge -useContext +onlyGivenNames -underBinder y47
              refine pq_chk (by rw [Bool.and_eq_true]; exact ⟨rfl, decide_eq_true (by have q1 := ((show EL [.i .i64, .s] 6000 y47 from (show EL [.i .i64, .s] 6000 (asL (resC y1 0 5)) from p0_5_y1))).1; have q2 := ((show EL [.i .i64, .s] 1 y46 from (el_one (sh := [.i .i64, .s]) (by exact ⟨_, _, rfl, ⟨_, rfl, wfI (i64_w64 _)⟩, ⟨_, _, rfl, ⟨_, rfl, Nat.le_trans (show (⟨#[]⟩ : ByteArray).size ≤ 0 from Nat.le_of_eq rfl) (by decide)⟩, rfl⟩⟩)))).1; unfold lim; omega)⟩) ?_
              extract_lets -merge -useContext +onlyGivenNames -underBinder y48
              exact h_k1 (asI (outC y45 0 1)) (asI (outC y45 0 2)) y48 (y47 ++ y46) c_y45 (Nat.le_trans (show y48.size ≤ 1000 from (show (asS (resC y1 0 4)).size ≤ 1000 from p0_4_y1)) (by decide)) (el_mono (by decide) (el_app (show EL [.i .i64, .s] 6000 y47 from (show EL [.i .i64, .s] 6000 (asL (resC y1 0 5)) from p0_5_y1)) (show EL [.i .i64, .s] 1 y46 from (el_one (sh := [.i .i64, .s]) (by exact ⟨_, _, rfl, ⟨_, rfl, wfI (i64_w64 _)⟩, ⟨_, _, rfl, ⟨_, rfl, Nat.le_trans (show (⟨#[]⟩ : ByteArray).size ≤ 0 from Nat.le_of_eq rfl) (by decide)⟩, rfl⟩⟩)))))
            ·
              extract_lets -merge -useContext +onlyGivenNames -underBinder y49
              refine pq_chk (decide_eq_true (by have q1 := (show y49.size ≤ 1000 from (show (asS (resC y1 0 4)).size ≤ 1000 from p0_4_y1)); have q2 := (show (⟨#[120]⟩ : ByteArray).size ≤ 1 from Nat.le_of_eq rfl); unfold lim; omega)) ?_
              extract_lets -merge -useContext +onlyGivenNames -underBinder y50
              extract_lets -merge -useContext +onlyGivenNames -underBinder y51
              extract_lets -merge -useContext +onlyGivenNames -underBinder y52
              exact h_k1 y50 y51 (y49 ++ (⟨#[120]⟩ : ByteArray)) y52 c_y5 (Nat.le_trans (sz_app (show y49.size ≤ 1000 from (show (asS (resC y1 0 4)).size ≤ 1000 from p0_4_y1)) (show (⟨#[120]⟩ : ByteArray).size ≤ 1 from Nat.le_of_eq rfl)) (by decide)) (el_mono (by decide) (show EL [.i .i64, .s] 6000 y52 from (show EL [.i .i64, .s] 6000 (asL (resC y1 0 5)) from p0_5_y1)))
  ·
    extract_lets -merge -useContext +onlyGivenNames -underBinder y53
    extract_lets -merge -useContext +onlyGivenNames -underBinder y54
    extract_lets -merge -useContext +onlyGivenNames -underBinder y55
    extract_lets -merge -useContext +onlyGivenNames -underBinder y56
    extract_lets -merge -useContext +onlyGivenNames -underBinder y57
    extract_lets -merge -useContext +onlyGivenNames -underBinder y58
    extract_lets -merge -useContext +onlyGivenNames -underBinder y59
    extract_lets -merge -useContext +onlyGivenNames -underBinder y60
    exact ⟨rfl, c_y2, (show I64 y53 from (show I64 (asI (resC y1 0 0)) from p0_0_y1)), (show I64 y54 from (show I64 (asI (resC y1 0 1)) from p0_1_y1)), (show I64 y55 from (show I64 (asI (resC y1 0 2)) from p0_2_y1)), (show I64 y56 from (show I64 (asI (resC y1 0 3)) from p0_3_y1)), (Nat.le_trans (show y57.size ≤ 1000 from (show (asS (resC y1 0 4)).size ≤ 1000 from p0_4_y1)) (by decide)), (el_mono (by decide) (show EL [.i .i64, .s] 6000 y58 from (show EL [.i .i64, .s] 6000 (asL (resC y1 0 5)) from p0_5_y1))), trivial⟩

theorem lp80_9 (n52 : Int) (n53 : Int) (n54 : Int) (n55 : Int) (s56 : ByteArray) (l57 : List (List D)) (n58 : Int) (n59 : Int) (n60 : Int) (b61 : Bool) (b62 : Bool) (n63 : Int) (b65 : Bool) (b66 : Bool) (b67 : Bool) (b68 : Bool) (l69 : List (List D)) (n70 : Int) (n71 : Int) (n72 : Int) (n73 : Int) (n74 : Int) (n75 : Int) (s76 : ByteArray) (l77 : List (List D)) (n78 : Int) (n79 : Int) (n80 : Int) (n81 : Int) (s82 : ByteArray) (n83 : Int) (n84 : Int) (n85 : Int) (n86 : Int) (s87 : ByteArray) (q1 : Bool → List (List D) → Rs) (Q : Rs → Prop) (hn : n59 ≤ 2000) (hq : ∀ a x, (isBytes x = true ∧ x.length ≤ 2000) → Q (q1 a x)) : ∀ (k m : Nat) (v : SV) (x : List (List D)), 2000 - x.length ≤ k → k < m → (isBytes x = true ∧ x.length ≤ 2000) → Q (la80o9 t74 t79 t81 t92 n52 n53 n54 n55 s56 l57 n58 n59 n60 b61 b62 n63 b65 b66 b67 b68 l69 n70 n71 n72 n73 n74 n75 s76 l77 n78 n79 n80 n81 s82 n83 n84 n85 n86 s87 q1 m v x) := by
  intro k
  induction k with
  | zero =>
    intro m v x hk hm hx
    obtain ⟨m, rfl⟩ : ∃ m', m = m' + 1 := ⟨m - 1, by omega⟩
    unfold la80o9
    have : decide ((x.length : Int) < n59) = false := decide_eq_false (by omega)
    simp only [this, Bool.false_eq_true, if_false]
    exact hq _ _ hx
  | succ k ih =>
    intro m v x hk hm hx
    obtain ⟨m, rfl⟩ : ∃ m', m = m' + 1 := ⟨m - 1, by omega⟩
    unfold la80o9
    by_cases g : (x.length : Int) < n59
    · simp only [decide_eq_true g, if_true]
      rw [chk_ok (by rw [Bool.and_eq_true]; exact ⟨rfl, decide_eq_true (by simp only [List.length_cons, List.length_nil]; unfold lim; omega)⟩)]
      exact ih m _ _ (by simp; omega) (by omega) ⟨isBytes_app hx.1 rfl, by simp; omega⟩
    · simp only [decide_eq_false g, Bool.false_eq_true, if_false]
      exact hq _ _ hx

theorem lp80_100009 (n167 : Int) (n168 : Int) (n169 : Int) (n170 : Int) (s171 : ByteArray) (l172 : List (List D)) (n173 : Int) (n174 : Int) (n175 : Int) (b176 : Bool) (b177 : Bool) (b178 : Bool) (n179 : Int) (b181 : Bool) (b182 : Bool) (b183 : Bool) (b184 : Bool) (l185 : List (List D)) (n186 : Int) (n187 : Int) (n188 : Int) (n189 : Int) (n190 : Int) (n191 : Int) (s192 : ByteArray) (l193 : List (List D)) (n194 : Int) (n195 : Int) (n196 : Int) (n197 : Int) (s198 : ByteArray) (n199 : Int) (n200 : Int) (n201 : Int) (n202 : Int) (s203 : ByteArray) (q1 : Bool → List (List D) → Rs) (Q : Rs → Prop) (hn : n174 ≤ 2000) (hq : ∀ a x, (isBytes x = true ∧ x.length ≤ 2000) → Q (q1 a x)) : ∀ (k m : Nat) (v : SV) (x : List (List D)), 2000 - x.length ≤ k → k < m → (isBytes x = true ∧ x.length ≤ 2000) → Q (la80o100009 t74 t79 t81 t92 n167 n168 n169 n170 s171 l172 n173 n174 n175 b176 b177 b178 n179 b181 b182 b183 b184 l185 n186 n187 n188 n189 n190 n191 s192 l193 n194 n195 n196 n197 s198 n199 n200 n201 n202 s203 q1 m v x) := by
  intro k
  induction k with
  | zero =>
    intro m v x hk hm hx
    obtain ⟨m, rfl⟩ : ∃ m', m = m' + 1 := ⟨m - 1, by omega⟩
    unfold la80o100009
    have : decide ((x.length : Int) < n174) = false := decide_eq_false (by omega)
    simp only [this, Bool.false_eq_true, if_false]
    exact hq _ _ hx
  | succ k ih =>
    intro m v x hk hm hx
    obtain ⟨m, rfl⟩ : ∃ m', m = m' + 1 := ⟨m - 1, by omega⟩
    unfold la80o100009
    by_cases g : (x.length : Int) < n174
    · simp only [decide_eq_true g, if_true]
      rw [chk_ok (by rw [Bool.and_eq_true]; exact ⟨rfl, decide_eq_true (by simp only [List.length_cons, List.length_nil]; unfold lim; omega)⟩)]
      exact ih m _ _ (by simp; omega) (by omega) ⟨isBytes_app hx.1 rfl, by simp; omega⟩
    · simp only [decide_eq_false g, Bool.false_eq_true, if_false]
      exact hq _ _ hx

theorem lp80_300009 (n411 : Int) (n412 : Int) (n413 : Int) (n414 : Int) (s415 : ByteArray) (l416 : List (List D)) (n417 : Int) (n418 : Int) (n419 : Int) (b420 : Bool) (b421 : Bool) (b422 : Bool) (b423 : Bool) (n424 : Int) (b426 : Bool) (b427 : Bool) (b428 : Bool) (b429 : Bool) (l430 : List (List D)) (n431 : Int) (n432 : Int) (n433 : Int) (n434 : Int) (n435 : Int) (n436 : Int) (s437 : ByteArray) (l438 : List (List D)) (n439 : Int) (n440 : Int) (n441 : Int) (n442 : Int) (s443 : ByteArray) (n444 : Int) (n445 : Int) (n446 : Int) (n447 : Int) (s448 : ByteArray) (q1 : Bool → List (List D) → Rs) (Q : Rs → Prop) (hn : n418 ≤ 2000) (hq : ∀ a x, (isBytes x = true ∧ x.length ≤ 2000) → Q (q1 a x)) : ∀ (k m : Nat) (v : SV) (x : List (List D)), 2000 - x.length ≤ k → k < m → (isBytes x = true ∧ x.length ≤ 2000) → Q (la80o300009 t74 t79 t81 t92 n411 n412 n413 n414 s415 l416 n417 n418 n419 b420 b421 b422 b423 n424 b426 b427 b428 b429 l430 n431 n432 n433 n434 n435 n436 s437 l438 n439 n440 n441 n442 s443 n444 n445 n446 n447 s448 q1 m v x) := by
  intro k
  induction k with
  | zero =>
    intro m v x hk hm hx
    obtain ⟨m, rfl⟩ : ∃ m', m = m' + 1 := ⟨m - 1, by omega⟩
    unfold la80o300009
    have : decide ((x.length : Int) < n418) = false := decide_eq_false (by omega)
    simp only [this, Bool.false_eq_true, if_false]
    exact hq _ _ hx
  | succ k ih =>
    intro m v x hk hm hx
    obtain ⟨m, rfl⟩ : ∃ m', m = m' + 1 := ⟨m - 1, by omega⟩
    unfold la80o300009
    by_cases g : (x.length : Int) < n418
    · simp only [decide_eq_true g, if_true]
      rw [chk_ok (by rw [Bool.and_eq_true]; exact ⟨rfl, decide_eq_true (by simp only [List.length_cons, List.length_nil]; unfold lim; omega)⟩)]
      exact ih m _ _ (by simp; omega) (by omega) ⟨isBytes_app hx.1 rfl, by simp; omega⟩
    · simp only [decide_eq_false g, Bool.false_eq_true, if_false]
      exact hq _ _ hx

theorem lp80_200009 (n287 : Int) (n288 : Int) (n289 : Int) (n290 : Int) (s291 : ByteArray) (l292 : List (List D)) (n293 : Int) (n294 : Int) (n295 : Int) (n296 : Int) (b297 : Bool) (b298 : Bool) (b299 : Bool) (b300 : Bool) (b301 : Bool) (n302 : Int) (b304 : Bool) (b305 : Bool) (b306 : Bool) (b307 : Bool) (l308 : List (List D)) (n309 : Int) (n310 : Int) (n311 : Int) (n312 : Int) (n313 : Int) (n314 : Int) (s315 : ByteArray) (l316 : List (List D)) (n317 : Int) (n318 : Int) (n319 : Int) (n320 : Int) (s321 : ByteArray) (n322 : Int) (n323 : Int) (n324 : Int) (n325 : Int) (s326 : ByteArray) (q1 : Bool → List (List D) → Rs) (Q : Rs → Prop) (hn : n295 ≤ 2000) (hq : ∀ a x, (isBytes x = true ∧ x.length ≤ 2000) → Q (q1 a x)) : ∀ (k m : Nat) (v : SV) (x : List (List D)), 2000 - x.length ≤ k → k < m → (isBytes x = true ∧ x.length ≤ 2000) → Q (la80o200009 t74 t79 t81 t92 n287 n288 n289 n290 s291 l292 n293 n294 n295 n296 b297 b298 b299 b300 b301 n302 b304 b305 b306 b307 l308 n309 n310 n311 n312 n313 n314 s315 l316 n317 n318 n319 n320 s321 n322 n323 n324 n325 s326 q1 m v x) := by
  intro k
  induction k with
  | zero =>
    intro m v x hk hm hx
    obtain ⟨m, rfl⟩ : ∃ m', m = m' + 1 := ⟨m - 1, by omega⟩
    unfold la80o200009
    have : decide ((x.length : Int) < n295) = false := decide_eq_false (by omega)
    simp only [this, Bool.false_eq_true, if_false]
    exact hq _ _ hx
  | succ k ih =>
    intro m v x hk hm hx
    obtain ⟨m, rfl⟩ : ∃ m', m = m' + 1 := ⟨m - 1, by omega⟩
    unfold la80o200009
    by_cases g : (x.length : Int) < n295
    · simp only [decide_eq_true g, if_true]
      rw [chk_ok (by rw [Bool.and_eq_true]; exact ⟨rfl, decide_eq_true (by simp only [List.length_cons, List.length_nil]; unfold lim; omega)⟩)]
      exact ih m _ _ (by simp; omega) (by omega) ⟨isBytes_app hx.1 rfl, by simp; omega⟩
    · simp only [decide_eq_false g, Bool.false_eq_true, if_false]
      exact hq _ _ hx

theorem d80 {l1 : List (List D)} {n2 : Int} (C : Cu l1 n2) (n3 : Int) (n4 : Int) (n5 : Int) (n6 : Int) (n7 : Int) (s8 : ByteArray) (l9 : List (List D)) (H4 : I64 n4) (H5 : I64 n5) (H6 : I64 n6) (H7 : I64 n7) (H8 : s8.size ≤ 5000) (H9 : EL [.i .i64, .s] 6200 l9) : PQ zr80 zo80 (fun o => Cu l1 (asI (outC o 0 1)) ∧ I64 (asI (resC o 0 0)) ∧ I64 (asI (resC o 0 1)) ∧ I64 (asI (resC o 0 2)) ∧ I64 (asI (resC o 0 3)) ∧ (asS (resC o 0 4)).size ≤ 2000 ∧ True) (t80 l1 n2 n3 n4 n5 n6 n7 s8 l9) := by
  unfold t80 ta80
  extract_lets -merge -useContext +onlyGivenNames -underBinder y1
  obtain ⟨a_y1, c_y1, b_y1, -⟩ : PQ zr79 zo79 _ y1 := d79 C _ _
  clear_value y1
  refine pq_chk a_y1 ?_
  extract_lets -merge -useContext +onlyGivenNames -underBinder y2
  extract_lets -merge -useContext +onlyGivenNames -underBinder y3
  refine pq_ite (fun g1 => ?_) (fun g1 => ?_)
  ·
    extract_lets -merge -useContext +onlyGivenNames -underBinder y4
    extract_lets -merge -useContext +onlyGivenNames -underBinder y5
    extract_lets -merge -useContext +onlyGivenNames -underBinder y6
    obtain ⟨a_y6, c_y6, b_y6, -⟩ : PQ zr79 zo79 _ y6 := d79 c_y1 _ _
    clear_value y6
    refine pq_chk a_y6 ?_
    extract_lets -merge -useContext +onlyGivenNames -underBinder y7
    obtain ⟨a_y7, c_y7, b_y7, -⟩ : PQ zr79 zo79 _ y7 := d79 c_y6 _ _
    clear_value y7
    refine pq_chk a_y7 ?_
    extract_lets -merge -useContext +onlyGivenNames -underBinder y8
    obtain ⟨a_y8, c_y8, -⟩ : PQ zr74 zo74 _ y8 := d74 c_y7 _ _
    clear_value y8
    refine pq_chk a_y8 ?_
    extract_lets -merge -useContext +onlyGivenNames -underBinder y9
    refine pq_ite (fun g2 => ?_) (fun g2 => ?_)
    ·
      extract_lets -merge -useContext +onlyGivenNames -underBinder y10
      extract_lets -merge -useContext +onlyGivenNames -underBinder y11
      extract_lets -merge -useContext +onlyGivenNames -underBinder y12
      obtain ⟨a_y12, c_y12, b_y12, -⟩ : PQ zr79 zo79 _ y12 := d79 c_y8 _ _
      clear_value y12
      refine pq_chk a_y12 ?_
      extract_lets -merge -useContext +onlyGivenNames -underBinder y13
      extract_lets -merge -useContext +onlyGivenNames -underBinder y14
      refine pq_ite (fun g3 => ?_) (fun g3 => ?_)
      ·
        extract_lets -merge -useContext +onlyGivenNames -underBinder y15
        extract_lets -merge -useContext +onlyGivenNames -underBinder y16
        extract_lets -merge -useContext +onlyGivenNames -underBinder y17
        obtain ⟨a_y17, c_y17, b_y17, -⟩ : PQ zr79 zo79 _ y17 := d79 c_y12 _ _
        clear_value y17
        refine pq_chk a_y17 ?_
        extract_lets -merge -useContext +onlyGivenNames -underBinder y18
        extract_lets -merge -useContext +onlyGivenNames -underBinder y19
        exact ⟨rfl, c_y17, (i64_w64 _), (show I64 y18 from (i64_w64 _)), (show I64 (0) by unfold I64; omega), (show I64 y19 from (i64_w64 _)), (Nat.le_trans (show (⟨#[]⟩ : ByteArray).size ≤ 0 from Nat.le_of_eq rfl) (by decide)), trivial⟩
      ·
        extract_lets -merge -useContext +onlyGivenNames -underBinder y20
        refine pq_ite (fun g4 => ?_) (fun g4 => ?_)
        ·
          extract_lets -merge -useContext +onlyGivenNames -underBinder y21
          extract_lets -merge -useContext +onlyGivenNames -underBinder y22
          extract_lets -merge -useContext +onlyGivenNames -underBinder y23
          obtain ⟨a_y23, c_y23, m_y23, -⟩ : PQ zr81 zo81 _ y23 := d81 c_y12 _ _ rfl
          clear_value y23
          refine pq_chk a_y23 ?_
          extract_lets -merge -useContext +onlyGivenNames -underBinder y24
          exact ⟨rfl, c_y23, (show I64 y2 from (i64_w64 _)), (show I64 (asI (resC y23 0 0)) from (i64_pick m_y23 (by decide))), (show I64 (0) by unfold I64; omega), (show I64 y24 from (i64_w64 _)), (Nat.le_trans (show (⟨#[]⟩ : ByteArray).size ≤ 0 from Nat.le_of_eq rfl) (by decide)), trivial⟩
        ·
          extract_lets -merge -useContext +onlyGivenNames -underBinder y25
          refine pq_ite (fun g5 => ?_) (fun g5 => ?_)
          ·
            extract_lets -merge -useContext +onlyGivenNames -underBinder y26
            extract_lets -merge -useContext +onlyGivenNames -underBinder y27
            extract_lets -merge -useContext +onlyGivenNames -underBinder y28
            obtain ⟨a_y28, c_y28, m_y28, -⟩ : PQ zr81 zo81 _ y28 := d81 c_y12 _ _ rfl
            clear_value y28
            refine pq_chk a_y28 ?_
            extract_lets -merge -useContext +onlyGivenNames -underBinder y29
            extract_lets -merge -useContext +onlyGivenNames -underBinder y30
            exact ⟨rfl, c_y28, (show I64 y2 from (i64_w64 _)), (show I64 y29 from (i64_w64 _)), (show I64 (asI (resC y28 0 0)) from (i64_pick m_y28 (by decide))), (show I64 y30 from (i64_w64 _)), (Nat.le_trans (show (⟨#[]⟩ : ByteArray).size ≤ 0 from Nat.le_of_eq rfl) (by decide)), trivial⟩
          ·
            extract_lets -merge -useContext +onlyGivenNames -underBinder y31
            refine pq_ite (fun g6 => ?_) (fun g6 => ?_)
            ·
              extract_lets -merge -useContext +onlyGivenNames -underBinder y32
              extract_lets -merge -useContext +onlyGivenNames -underBinder y33
              extract_lets -merge -useContext +onlyGivenNames -underBinder y34
              obtain ⟨a_y34, c_y34, m_y34, -⟩ : PQ zr81 zo81 _ y34 := d81 c_y12 _ _ rfl
              clear_value y34
              refine pq_chk a_y34 ?_
              extract_lets -merge -useContext +onlyGivenNames -underBinder y35
              exact ⟨rfl, c_y34, (show I64 y2 from (i64_w64 _)), (show I64 y35 from (i64_w64 _)), (show I64 (0) by unfold I64; omega), (show I64 (asI (resC y34 0 0)) from (i64_pick m_y34 (by decide))), (Nat.le_trans (show (⟨#[]⟩ : ByteArray).size ≤ 0 from Nat.le_of_eq rfl) (by decide)), trivial⟩
            ·
              extract_lets -merge -useContext +onlyGivenNames -underBinder y36
              extract_lets -merge -useContext +onlyGivenNames -underBinder y37
              extract_lets -merge -useContext +onlyGivenNames -underBinder y38
              obtain ⟨a_y38, c_y38, b_y38, -⟩ : PQ zr79 zo79 _ y38 := d79 c_y12 _ _
              clear_value y38
              refine pq_chk a_y38 ?_
              extract_lets -merge -useContext +onlyGivenNames -underBinder y39
              extract_lets -merge -useContext +onlyGivenNames -underBinder y40
              extract_lets -merge -useContext +onlyGivenNames -underBinder y41
              extract_lets -merge -useContext +onlyGivenNames -underBinder y42
              extract_lets -merge -useContext +onlyGivenNames -underBinder y43
              refine lp80_9 _ _ _ _ _ _ _ _ _ _ _ _ _ _ _ _ _ _ _ _ _ _ _ _ _ _ _ _ _ _ _ _ _ _ _ _ _ (by have n0 : ([] : List (List D)).length = 0 := rfl; have q_y38 := b_y38; rw [w64_in _ (by omega)]; omega) (fun b128 l129 F_l129 => ?_) 2000 KK _ _ (by omega) (by rw [KK_eq]; omega) ⟨rfl, by decide⟩
              refine pq_chk (F_l129).1 ?_
              exact ⟨rfl, c_y38, (show I64 y2 from (i64_w64 _)), (show I64 y42 from (i64_w64 _)), (show I64 (0) by unfold I64; omega), (show I64 y43 from (i64_w64 _)), (Nat.le_trans (bytes_sz F_l129) (by decide)), trivial⟩
    ·
      extract_lets -merge -useContext +onlyGivenNames -underBinder y44
      extract_lets -merge -useContext +onlyGivenNames -underBinder y45
      extract_lets -merge -useContext +onlyGivenNames -underBinder y46
      extract_lets -merge -useContext +onlyGivenNames -underBinder y47
      exact ⟨rfl, c_y8, (show I64 y2 from (i64_w64 _)), (show I64 y44 from (i64_w64 _)), (show I64 (0) by unfold I64; omega), (show I64 y45 from (i64_w64 _)), (Nat.le_trans (show (⟨#[]⟩ : ByteArray).size ≤ 0 from Nat.le_of_eq rfl) (by decide)), trivial⟩
  ·
    extract_lets -merge -useContext +onlyGivenNames -underBinder y48
    refine pq_ite (fun g7 => ?_) (fun g7 => ?_)
    ·
      extract_lets -merge -useContext +onlyGivenNames -underBinder y49
      extract_lets -merge -useContext +onlyGivenNames -underBinder y50
      extract_lets -merge -useContext +onlyGivenNames -underBinder y51
      obtain ⟨a_y51, c_y51, p_y51, -⟩ : PQ zr92 zo92 _ y51 := d92 c_y1 _ _ (by decide)
      clear_value y51
      refine pq_chk a_y51 ?_
      extract_lets -merge -useContext +onlyGivenNames -underBinder y52
      obtain ⟨a_y52, c_y52, -⟩ : PQ zr74 zo74 _ y52 := d74 c_y51 _ _
      clear_value y52
      refine pq_chk a_y52 ?_
      extract_lets -merge -useContext +onlyGivenNames -underBinder y53
      refine pq_ite (fun g8 => ?_) (fun g8 => ?_)
      ·
        extract_lets -merge -useContext +onlyGivenNames -underBinder y54
        extract_lets -merge -useContext +onlyGivenNames -underBinder y55
        extract_lets -merge -useContext +onlyGivenNames -underBinder y56
        obtain ⟨a_y56, c_y56, b_y56, -⟩ : PQ zr79 zo79 _ y56 := d79 c_y52 _ _
        clear_value y56
        refine pq_chk a_y56 ?_
        extract_lets -merge -useContext +onlyGivenNames -underBinder y57
        extract_lets -merge -useContext +onlyGivenNames -underBinder y58
        refine pq_ite (fun g9 => ?_) (fun g9 => ?_)
        ·
          extract_lets -merge -useContext +onlyGivenNames -underBinder y59
          extract_lets -merge -useContext +onlyGivenNames -underBinder y60
          extract_lets -merge -useContext +onlyGivenNames -underBinder y61
          obtain ⟨a_y61, c_y61, b_y61, -⟩ : PQ zr79 zo79 _ y61 := d79 c_y56 _ _
          clear_value y61
          refine pq_chk a_y61 ?_
          extract_lets -merge -useContext +onlyGivenNames -underBinder y62
          extract_lets -merge -useContext +onlyGivenNames -underBinder y63
          extract_lets -merge -useContext +onlyGivenNames -underBinder y64
          exact ⟨rfl, c_y61, (i64_w64 _), H4, (show I64 y63 from (i64_w64 _)), (show I64 (0) by unfold I64; omega), (Nat.le_trans (show y64.size ≤ 1000 from (show (asS (resC y51 0 0)).size ≤ 1000 from p_y51)) (by decide)), trivial⟩
        ·
          extract_lets -merge -useContext +onlyGivenNames -underBinder y65
          refine pq_ite (fun g10 => ?_) (fun g10 => ?_)
          ·
            extract_lets -merge -useContext +onlyGivenNames -underBinder y66
            extract_lets -merge -useContext +onlyGivenNames -underBinder y67
            extract_lets -merge -useContext +onlyGivenNames -underBinder y68
            obtain ⟨a_y68, c_y68, m_y68, -⟩ : PQ zr81 zo81 _ y68 := d81 c_y56 _ _ rfl
            clear_value y68
            refine pq_chk a_y68 ?_
            extract_lets -merge -useContext +onlyGivenNames -underBinder y69
            extract_lets -merge -useContext +onlyGivenNames -underBinder y70
            extract_lets -merge -useContext +onlyGivenNames -underBinder y71
            exact ⟨rfl, c_y68, (show I64 y2 from (i64_w64 _)), (show I64 (asI (resC y68 0 0)) from (i64_pick m_y68 (by decide))), (show I64 y70 from (i64_w64 _)), (show I64 (0) by unfold I64; omega), (Nat.le_trans (show y71.size ≤ 1000 from (show (asS (resC y51 0 0)).size ≤ 1000 from p_y51)) (by decide)), trivial⟩
          ·
            extract_lets -merge -useContext +onlyGivenNames -underBinder y72
            refine pq_ite (fun g11 => ?_) (fun g11 => ?_)
            ·
              extract_lets -merge -useContext +onlyGivenNames -underBinder y73
              extract_lets -merge -useContext +onlyGivenNames -underBinder y74
              extract_lets -merge -useContext +onlyGivenNames -underBinder y75
              obtain ⟨a_y75, c_y75, m_y75, -⟩ : PQ zr81 zo81 _ y75 := d81 c_y56 _ _ rfl
              clear_value y75
              refine pq_chk a_y75 ?_
              extract_lets -merge -useContext +onlyGivenNames -underBinder y76
              exact ⟨rfl, c_y75, (show I64 y2 from (i64_w64 _)), H4, (show I64 (asI (resC y75 0 0)) from (i64_pick m_y75 (by decide))), (show I64 (0) by unfold I64; omega), (Nat.le_trans (show y76.size ≤ 1000 from (show (asS (resC y51 0 0)).size ≤ 1000 from p_y51)) (by decide)), trivial⟩
            ·
              extract_lets -merge -useContext +onlyGivenNames -underBinder y77
              refine pq_ite (fun g12 => ?_) (fun g12 => ?_)
              ·
                extract_lets -merge -useContext +onlyGivenNames -underBinder y78
                extract_lets -merge -useContext +onlyGivenNames -underBinder y79
                extract_lets -merge -useContext +onlyGivenNames -underBinder y80
                obtain ⟨a_y80, c_y80, m_y80, -⟩ : PQ zr81 zo81 _ y80 := d81 c_y56 _ _ rfl
                clear_value y80
                refine pq_chk a_y80 ?_
                extract_lets -merge -useContext +onlyGivenNames -underBinder y81
                extract_lets -merge -useContext +onlyGivenNames -underBinder y82
                extract_lets -merge -useContext +onlyGivenNames -underBinder y83
                exact ⟨rfl, c_y80, (show I64 y2 from (i64_w64 _)), H4, (show I64 y82 from (i64_w64 _)), (show I64 (asI (resC y80 0 0)) from (i64_pick m_y80 (by decide))), (Nat.le_trans (show y83.size ≤ 1000 from (show (asS (resC y51 0 0)).size ≤ 1000 from p_y51)) (by decide)), trivial⟩
              ·
                extract_lets -merge -useContext +onlyGivenNames -underBinder y84
                extract_lets -merge -useContext +onlyGivenNames -underBinder y85
                extract_lets -merge -useContext +onlyGivenNames -underBinder y86
                obtain ⟨a_y86, c_y86, b_y86, -⟩ : PQ zr79 zo79 _ y86 := d79 c_y56 _ _
                clear_value y86
                refine pq_chk a_y86 ?_
                extract_lets -merge -useContext +onlyGivenNames -underBinder y87
                extract_lets -merge -useContext +onlyGivenNames -underBinder y88
                extract_lets -merge -useContext +onlyGivenNames -underBinder y89
                extract_lets -merge -useContext +onlyGivenNames -underBinder y90
                extract_lets -merge -useContext +onlyGivenNames -underBinder y91
                refine lp80_100009 _ _ _ _ _ _ _ _ _ _ _ _ _ _ _ _ _ _ _ _ _ _ _ _ _ _ _ _ _ _ _ _ _ _ _ _ _ _ (by have n0 : ([] : List (List D)).length = 0 := rfl; have q_y86 := b_y86; rw [w64_in _ (by omega)]; omega) (fun b245 l246 F_l246 => ?_) 2000 KK _ _ (by omega) (by rw [KK_eq]; omega) ⟨rfl, by decide⟩
                refine pq_chk (F_l246).1 ?_
                exact ⟨rfl, c_y86, (show I64 y2 from (i64_w64 _)), H4, (show I64 y90 from (i64_w64 _)), (show I64 (0) by unfold I64; omega), (Nat.le_trans (bytes_sz F_l246) (by decide)), trivial⟩
      ·
        extract_lets -merge -useContext +onlyGivenNames -underBinder y92
        extract_lets -merge -useContext +onlyGivenNames -underBinder y93
        extract_lets -merge -useContext +onlyGivenNames -underBinder y94
        extract_lets -merge -useContext +onlyGivenNames -underBinder y95
        extract_lets -merge -useContext +onlyGivenNames -underBinder y96
        exact ⟨rfl, c_y52, (show I64 y2 from (i64_w64 _)), H4, (show I64 y93 from (i64_w64 _)), (show I64 (0) by unfold I64; omega), (Nat.le_trans (show y94.size ≤ 1000 from (show (asS (resC y51 0 0)).size ≤ 1000 from p_y51)) (by decide)), trivial⟩
    ·
      extract_lets -merge -useContext +onlyGivenNames -underBinder k2
      have h_k2 : ∀ (b11 : Bool) (n12 : Int) (n13 : Int) (n14 : Int) (s15 : ByteArray) (C_k2_n12 : Cu l1 n12) (I_k2_n14 : I64 n14) (S_k2_s15 : s15.size ≤ 1000), PQ zr80 zo80 (fun o => Cu l1 (asI (outC o 0 1)) ∧ I64 (asI (resC o 0 0)) ∧ I64 (asI (resC o 0 1)) ∧ I64 (asI (resC o 0 2)) ∧ I64 (asI (resC o 0 3)) ∧ (asS (resC o 0 4)).size ≤ 2000 ∧ True) (k2 b11 n12 n13 n14 s15) := by
        intro b11 n12 n13 n14 s15 C_k2_n12 I_k2_n14 S_k2_s15
        dsimp -zeta only [k2]
        extract_lets -merge -useContext +onlyGivenNames -underBinder y97
        obtain ⟨a_y97, c_y97, -⟩ : PQ zr74 zo74 _ y97 := d74 C_k2_n12 _ _
        clear_value y97
        refine pq_chk a_y97 ?_
        extract_lets -merge -useContext +onlyGivenNames -underBinder y98
        refine pq_ite (fun g13 => ?_) (fun g13 => ?_)
        ·
          extract_lets -merge -useContext +onlyGivenNames -underBinder y99
          extract_lets -merge -useContext +onlyGivenNames -underBinder y100
          extract_lets -merge -useContext +onlyGivenNames -underBinder y101
          obtain ⟨a_y101, c_y101, b_y101, -⟩ : PQ zr79 zo79 _ y101 := d79 c_y97 _ _
          clear_value y101
          refine pq_chk a_y101 ?_
          extract_lets -merge -useContext +onlyGivenNames -underBinder y102
          extract_lets -merge -useContext +onlyGivenNames -underBinder y103
          refine pq_ite (fun g14 => ?_) (fun g14 => ?_)
          ·
            extract_lets -merge -useContext +onlyGivenNames -underBinder y104
            extract_lets -merge -useContext +onlyGivenNames -underBinder y105
            extract_lets -merge -useContext +onlyGivenNames -underBinder y106
            obtain ⟨a_y106, c_y106, b_y106, -⟩ : PQ zr79 zo79 _ y106 := d79 c_y101 _ _
            clear_value y106
            refine pq_chk a_y106 ?_
            extract_lets -merge -useContext +onlyGivenNames -underBinder y107
            extract_lets -merge -useContext +onlyGivenNames -underBinder y108
            extract_lets -merge -useContext +onlyGivenNames -underBinder y109
            obtain ⟨a_y109, c_y109, b_y109, -⟩ : PQ zr79 zo79 _ y109 := d79 c_y1 _ _
            clear_value y109
            extract_lets -merge -useContext +onlyGivenNames -underBinder y110
            exact ⟨rfl, c_y106, (i64_w64 _), I_k2_n14, (show I64 y110 from (i64_w64 _)), (show I64 (0) by unfold I64; omega), (Nat.le_trans S_k2_s15 (by decide)), trivial⟩
          ·
            extract_lets -merge -useContext +onlyGivenNames -underBinder y111
            refine pq_ite (fun g15 => ?_) (fun g15 => ?_)
            ·
              extract_lets -merge -useContext +onlyGivenNames -underBinder y112
              extract_lets -merge -useContext +onlyGivenNames -underBinder y113
              extract_lets -merge -useContext +onlyGivenNames -underBinder y114
              obtain ⟨a_y114, c_y114, m_y114, -⟩ : PQ zr81 zo81 _ y114 := d81 c_y101 _ _ rfl
              clear_value y114
              refine pq_chk a_y114 ?_
              extract_lets -merge -useContext +onlyGivenNames -underBinder y115
              extract_lets -merge -useContext +onlyGivenNames -underBinder y116
              extract_lets -merge -useContext +onlyGivenNames -underBinder y117
              obtain ⟨a_y117, c_y117, b_y117, -⟩ : PQ zr79 zo79 _ y117 := d79 c_y1 _ _
              clear_value y117
              extract_lets -merge -useContext +onlyGivenNames -underBinder y118
              exact ⟨rfl, c_y114, (show I64 y2 from (i64_w64 _)), (show I64 (asI (resC y114 0 0)) from (i64_pick m_y114 (by decide))), (show I64 y118 from (i64_w64 _)), (show I64 (0) by unfold I64; omega), (Nat.le_trans S_k2_s15 (by decide)), trivial⟩
            ·
              extract_lets -merge -useContext +onlyGivenNames -underBinder y119
              refine pq_ite (fun g16 => ?_) (fun g16 => ?_)
              ·
                extract_lets -merge -useContext +onlyGivenNames -underBinder y120
                extract_lets -merge -useContext +onlyGivenNames -underBinder y121
                extract_lets -merge -useContext +onlyGivenNames -underBinder y122
                obtain ⟨a_y122, c_y122, m_y122, -⟩ : PQ zr81 zo81 _ y122 := d81 c_y101 _ _ rfl
                clear_value y122
                refine pq_chk a_y122 ?_
                exact ⟨rfl, c_y122, (show I64 y2 from (i64_w64 _)), I_k2_n14, (show I64 (asI (resC y122 0 0)) from (i64_pick m_y122 (by decide))), (show I64 (0) by unfold I64; omega), (Nat.le_trans S_k2_s15 (by decide)), trivial⟩
              ·
                extract_lets -merge -useContext +onlyGivenNames -underBinder y123
                refine pq_ite (fun g17 => ?_) (fun g17 => ?_)
                ·
                  extract_lets -merge -useContext +onlyGivenNames -underBinder y124
                  extract_lets -merge -useContext +onlyGivenNames -underBinder y125
                  extract_lets -merge -useContext +onlyGivenNames -underBinder y126
                  obtain ⟨a_y126, c_y126, m_y126, -⟩ : PQ zr81 zo81 _ y126 := d81 c_y101 _ _ rfl
                  clear_value y126
                  refine pq_chk a_y126 ?_
                  extract_lets -merge -useContext +onlyGivenNames -underBinder y127
                  extract_lets -merge -useContext +onlyGivenNames -underBinder y128
                  extract_lets -merge -useContext +onlyGivenNames -underBinder y129
                  obtain ⟨a_y129, c_y129, b_y129, -⟩ : PQ zr79 zo79 _ y129 := d79 c_y1 _ _
                  clear_value y129
                  extract_lets -merge -useContext +onlyGivenNames -underBinder y130
                  exact ⟨rfl, c_y126, (show I64 y2 from (i64_w64 _)), I_k2_n14, (show I64 y130 from (i64_w64 _)), (show I64 (asI (resC y126 0 0)) from (i64_pick m_y126 (by decide))), (Nat.le_trans S_k2_s15 (by decide)), trivial⟩
                ·
                  extract_lets -merge -useContext +onlyGivenNames -underBinder y131
                  extract_lets -merge -useContext +onlyGivenNames -underBinder y132
                  extract_lets -merge -useContext +onlyGivenNames -underBinder y133
                  obtain ⟨a_y133, c_y133, b_y133, -⟩ : PQ zr79 zo79 _ y133 := d79 c_y101 _ _
                  clear_value y133
                  refine pq_chk a_y133 ?_
                  extract_lets -merge -useContext +onlyGivenNames -underBinder y134
                  extract_lets -merge -useContext +onlyGivenNames -underBinder y135
                  extract_lets -merge -useContext +onlyGivenNames -underBinder y136
                  extract_lets -merge -useContext +onlyGivenNames -underBinder y137
                  obtain ⟨a_y137, c_y137, b_y137, -⟩ : PQ zr79 zo79 _ y137 := d79 c_y1 _ _
                  clear_value y137
                  extract_lets -merge -useContext +onlyGivenNames -underBinder y138
                  extract_lets -merge -useContext +onlyGivenNames -underBinder y139
                  extract_lets -merge -useContext +onlyGivenNames -underBinder y140
                  extract_lets -merge -useContext +onlyGivenNames -underBinder y141
                  extract_lets -merge -useContext +onlyGivenNames -underBinder y142
                  refine lp80_200009 _ _ _ _ _ _ _ _ _ _ _ _ _ _ _ _ _ _ _ _ _ _ _ _ _ _ _ _ _ _ _ _ _ _ _ _ _ _ _ _ _ (by have n0 : ([] : List (List D)).length = 0 := rfl; have q_y133 := b_y133; rw [w64_in _ (by omega)]; omega) (fun b371 l372 F_l372 => ?_) 2000 KK _ _ (by omega) (by rw [KK_eq]; omega) ⟨rfl, by decide⟩
                  refine pq_chk (F_l372).1 ?_
                  exact ⟨rfl, c_y133, (show I64 y2 from (i64_w64 _)), I_k2_n14, (show I64 y138 from (i64_w64 _)), (show I64 (0) by unfold I64; omega), (Nat.le_trans (bytes_sz F_l372) (by decide)), trivial⟩
        ·
          extract_lets -merge -useContext +onlyGivenNames -underBinder y143
          extract_lets -merge -useContext +onlyGivenNames -underBinder y144
          extract_lets -merge -useContext +onlyGivenNames -underBinder y145
          obtain ⟨a_y145, c_y145, b_y145, -⟩ : PQ zr79 zo79 _ y145 := d79 c_y1 _ _
          clear_value y145
          extract_lets -merge -useContext +onlyGivenNames -underBinder y146
          extract_lets -merge -useContext +onlyGivenNames -underBinder y147
          extract_lets -merge -useContext +onlyGivenNames -underBinder y148
          exact ⟨rfl, c_y97, (show I64 y2 from (i64_w64 _)), I_k2_n14, (show I64 y146 from (i64_w64 _)), (show I64 (0) by unfold I64; omega), (Nat.le_trans S_k2_s15 (by decide)), trivial⟩
      extract_lets -merge -useContext +onlyGivenNames -underBinder y149
      refine pq_ite (fun g18 => ?_) (fun g18 => ?_)
      ·
        extract_lets -merge -useContext +onlyGivenNames -underBinder y150
        extract_lets -merge -useContext +onlyGivenNames -underBinder y151
        extract_lets -merge -useContext +onlyGivenNames -underBinder y152
        obtain ⟨a_y152, c_y152, b_y152, -⟩ : PQ zr79 zo79 _ y152 := d79 c_y1 _ _
        clear_value y152
        refine pq_chk a_y152 ?_
        extract_lets -merge -useContext +onlyGivenNames -underBinder y153
        obtain ⟨a_y153, c_y153, -⟩ : PQ zr74 zo74 _ y153 := d74 c_y152 _ _
        clear_value y153
        refine pq_chk a_y153 ?_
        extract_lets -merge -useContext +onlyGivenNames -underBinder y154
        refine pq_ite (fun g19 => ?_) (fun g19 => ?_)
        ·
          extract_lets -merge -useContext +onlyGivenNames -underBinder y155
          extract_lets -merge -useContext +onlyGivenNames -underBinder y156
          extract_lets -merge -useContext +onlyGivenNames -underBinder y157
          obtain ⟨a_y157, c_y157, b_y157, -⟩ : PQ zr79 zo79 _ y157 := d79 c_y153 _ _
          clear_value y157
          refine pq_chk a_y157 ?_
          extract_lets -merge -useContext +onlyGivenNames -underBinder y158
          extract_lets -merge -useContext +onlyGivenNames -underBinder y159
          refine pq_ite (fun g20 => ?_) (fun g20 => ?_)
          ·
            extract_lets -merge -useContext +onlyGivenNames -underBinder y160
            extract_lets -merge -useContext +onlyGivenNames -underBinder y161
            extract_lets -merge -useContext +onlyGivenNames -underBinder y162
            obtain ⟨a_y162, c_y162, b_y162, -⟩ : PQ zr79 zo79 _ y162 := d79 c_y157 _ _
            clear_value y162
            refine pq_chk a_y162 ?_
            extract_lets -merge -useContext +onlyGivenNames -underBinder y163
            exact ⟨rfl, c_y162, (i64_w64 _), (show I64 (0) by unfold I64; omega), (show I64 y163 from (i64_w64 _)), (show I64 (0) by unfold I64; omega), (Nat.le_trans (show (⟨#[]⟩ : ByteArray).size ≤ 0 from Nat.le_of_eq rfl) (by decide)), trivial⟩
          ·
            extract_lets -merge -useContext +onlyGivenNames -underBinder y164
            refine pq_ite (fun g21 => ?_) (fun g21 => ?_)
            ·
              extract_lets -merge -useContext +onlyGivenNames -underBinder y165
              extract_lets -merge -useContext +onlyGivenNames -underBinder y166
              extract_lets -merge -useContext +onlyGivenNames -underBinder y167
              obtain ⟨a_y167, c_y167, m_y167, -⟩ : PQ zr81 zo81 _ y167 := d81 c_y157 _ _ rfl
              clear_value y167
              refine pq_chk a_y167 ?_
              extract_lets -merge -useContext +onlyGivenNames -underBinder y168
              exact ⟨rfl, c_y167, (show I64 y2 from (i64_w64 _)), (show I64 (asI (resC y167 0 0)) from (i64_pick m_y167 (by decide))), (show I64 y168 from (i64_w64 _)), (show I64 (0) by unfold I64; omega), (Nat.le_trans (show (⟨#[]⟩ : ByteArray).size ≤ 0 from Nat.le_of_eq rfl) (by decide)), trivial⟩
            ·
              extract_lets -merge -useContext +onlyGivenNames -underBinder y169
              refine pq_ite (fun g22 => ?_) (fun g22 => ?_)
              ·
                extract_lets -merge -useContext +onlyGivenNames -underBinder y170
                extract_lets -merge -useContext +onlyGivenNames -underBinder y171
                extract_lets -merge -useContext +onlyGivenNames -underBinder y172
                obtain ⟨a_y172, c_y172, m_y172, -⟩ : PQ zr81 zo81 _ y172 := d81 c_y157 _ _ rfl
                clear_value y172
                refine pq_chk a_y172 ?_
                exact ⟨rfl, c_y172, (show I64 y2 from (i64_w64 _)), (show I64 (0) by unfold I64; omega), (show I64 (asI (resC y172 0 0)) from (i64_pick m_y172 (by decide))), (show I64 (0) by unfold I64; omega), (Nat.le_trans (show (⟨#[]⟩ : ByteArray).size ≤ 0 from Nat.le_of_eq rfl) (by decide)), trivial⟩
              ·
                extract_lets -merge -useContext +onlyGivenNames -underBinder y173
                refine pq_ite (fun g23 => ?_) (fun g23 => ?_)
                ·
                  extract_lets -merge -useContext +onlyGivenNames -underBinder y174
                  extract_lets -merge -useContext +onlyGivenNames -underBinder y175
                  extract_lets -merge -useContext +onlyGivenNames -underBinder y176
                  obtain ⟨a_y176, c_y176, m_y176, -⟩ : PQ zr81 zo81 _ y176 := d81 c_y157 _ _ rfl
                  clear_value y176
                  refine pq_chk a_y176 ?_
                  extract_lets -merge -useContext +onlyGivenNames -underBinder y177
                  exact ⟨rfl, c_y176, (show I64 y2 from (i64_w64 _)), (show I64 (0) by unfold I64; omega), (show I64 y177 from (i64_w64 _)), (show I64 (asI (resC y176 0 0)) from (i64_pick m_y176 (by decide))), (Nat.le_trans (show (⟨#[]⟩ : ByteArray).size ≤ 0 from Nat.le_of_eq rfl) (by decide)), trivial⟩
                ·
                  extract_lets -merge -useContext +onlyGivenNames -underBinder y178
                  extract_lets -merge -useContext +onlyGivenNames -underBinder y179
                  extract_lets -merge -useContext +onlyGivenNames -underBinder y180
                  obtain ⟨a_y180, c_y180, b_y180, -⟩ : PQ zr79 zo79 _ y180 := d79 c_y157 _ _
                  clear_value y180
                  refine pq_chk a_y180 ?_
                  extract_lets -merge -useContext +onlyGivenNames -underBinder y181
                  extract_lets -merge -useContext +onlyGivenNames -underBinder y182
                  extract_lets -merge -useContext +onlyGivenNames -underBinder y183
                  extract_lets -merge -useContext +onlyGivenNames -underBinder y184
                  refine lp80_300009 _ _ _ _ _ _ _ _ _ _ _ _ _ _ _ _ _ _ _ _ _ _ _ _ _ _ _ _ _ _ _ _ _ _ _ _ _ _ _ (by have n0 : ([] : List (List D)).length = 0 := rfl; have q_y180 := b_y180; rw [w64_in _ (by omega)]; omega) (fun b491 l492 F_l492 => ?_) 2000 KK _ _ (by omega) (by rw [KK_eq]; omega) ⟨rfl, by decide⟩
                  refine pq_chk (F_l492).1 ?_
                  exact ⟨rfl, c_y180, (show I64 y2 from (i64_w64 _)), (show I64 (0) by unfold I64; omega), (show I64 y184 from (i64_w64 _)), (show I64 (0) by unfold I64; omega), (Nat.le_trans (bytes_sz F_l492) (by decide)), trivial⟩
        ·
          extract_lets -merge -useContext +onlyGivenNames -underBinder y185
          extract_lets -merge -useContext +onlyGivenNames -underBinder y186
          extract_lets -merge -useContext +onlyGivenNames -underBinder y187
          exact ⟨rfl, c_y153, (show I64 y2 from (i64_w64 _)), (show I64 (0) by unfold I64; omega), (show I64 y185 from (i64_w64 _)), (show I64 (0) by unfold I64; omega), (Nat.le_trans (show (⟨#[]⟩ : ByteArray).size ≤ 0 from Nat.le_of_eq rfl) (by decide)), trivial⟩
      ·
        extract_lets -merge -useContext +onlyGivenNames -underBinder y188
        extract_lets -merge -useContext +onlyGivenNames -underBinder y189
        extract_lets -merge -useContext +onlyGivenNames -underBinder y190
        obtain ⟨a_y190, c_y190, b_y190, -⟩ : PQ zr79 zo79 _ y190 := d79 c_y1 _ _
        clear_value y190
        refine pq_chk a_y190 ?_
        extract_lets -merge -useContext +onlyGivenNames -underBinder y191
        obtain ⟨a_y191, c_y191, b_y191, -⟩ : PQ zr79 zo79 _ y191 := d79 c_y190 _ _
        clear_value y191
        refine pq_chk a_y191 ?_
        extract_lets -merge -useContext +onlyGivenNames -underBinder y192
        extract_lets -merge -useContext +onlyGivenNames -underBinder y193
        extract_lets -merge -useContext +onlyGivenNames -underBinder y194
        refine pq_ite (fun g24 => ?_) (fun g24 => ?_)
        ·
          extract_lets -merge -useContext +onlyGivenNames -underBinder y195
          extract_lets -merge -useContext +onlyGivenNames -underBinder y196
          extract_lets -merge -useContext +onlyGivenNames -underBinder y197
          obtain ⟨a_y197, c_y197, -⟩ : PQ zr74 zo74 _ y197 := d74 c_y191 _ _
          clear_value y197
          refine pq_chk a_y197 ?_
          extract_lets -merge -useContext +onlyGivenNames -underBinder k1
          have h_k1 : ∀ (n10 : Int) (I_k1_n10 : I64 n10), PQ zr80 zo80 (fun o => Cu l1 (asI (outC o 0 1)) ∧ I64 (asI (resC o 0 0)) ∧ I64 (asI (resC o 0 1)) ∧ I64 (asI (resC o 0 2)) ∧ I64 (asI (resC o 0 3)) ∧ (asS (resC o 0 4)).size ≤ 2000 ∧ True) (k1 n10) := by
            intro n10 I_k1_n10
            dsimp -zeta only [k1]
            extract_lets -merge -useContext +onlyGivenNames -underBinder y198
            obtain ⟨a_y198, c_y198, p_y198, -⟩ : PQ zr92 zo92 _ y198 := d92 c_y197 _ _ (by decide)
            clear_value y198
            refine pq_chk a_y198 ?_
            extract_lets -merge -useContext +onlyGivenNames -underBinder y199
            exact h_k2 y199 (asI (outC y198 0 1)) (asI (outC y198 0 2)) n10 (asS (resC y198 0 0)) c_y198 I_k1_n10 (Nat.le_trans (show (asS (resC y198 0 0)).size ≤ 1000 from p_y198) (by decide))
          extract_lets -merge -useContext +onlyGivenNames -underBinder y200
          refine pq_ite (fun g25 => ?_) (fun g25 => ?_)
          ·
            extract_lets -merge -useContext +onlyGivenNames -underBinder y201
            extract_lets -merge -useContext +onlyGivenNames -underBinder y202
            have B_y202 : 1 ≤ y193 ∧ y193 ≤ (l9.length : Int) := by have q := g24; simp only [y194, Bool.and_eq_true, decide_eq_true_eq] at q; omega
            have E_y202 : y201 = y193 - 1 := w64_in _ (by have q := (H9).1; omega)
            have R_y202 : typL [.i .i64, .s] y202 := typ_getD H9 (by omega)
            refine pq_chk (by rw [Bool.and_eq_true, Bool.and_eq_true]; exact ⟨⟨decide_eq_true (by omega), decide_eq_true (by omega)⟩, ent_is R_y202⟩) ?_
            exact h_k1 (asI (nthD y202 0)) (row_i64 R_y202)
          ·
            extract_lets -merge -useContext +onlyGivenNames -underBinder y203
            exact h_k1 y203 (show I64 y203 from (i64_w64 _))
        ·
          refine pq_chk (by revert g24; generalize y194 = u_y194; revert u_y194; decide) ?_
          extract_lets -merge -useContext +onlyGivenNames -underBinder y204
          extract_lets -merge -useContext +onlyGivenNames -underBinder y205
          extract_lets -merge -useContext +onlyGivenNames -underBinder y206
          obtain ⟨a_y206, c_y206, p_y206, -⟩ : PQ zr92 zo92 _ y206 := d92 c_y191 _ _ (by decide)
          clear_value y206
          refine pq_chk a_y206 ?_
          extract_lets -merge -useContext +onlyGivenNames -underBinder y207
          exact h_k2 false (asI (outC y206 0 1)) (asI (outC y206 0 2)) y207 (asS (resC y206 0 0)) c_y206 (show I64 y207 from (i64_w64 _)) (Nat.le_trans (show (asS (resC y206 0 0)).size ≤ 1000 from p_y206) (by decide))
end Go.Den.L11

/- Draws of stores: records that are loose. -/
namespace Go.Den.L11
open Go
def RB (l : List (List D)) : Prop := ∀ r ∈ l, typL shRec r ∧ (asS (nthD r 4)).size ≤ 2000
theorem rb_nil : RB [] := fun r h => by cases h
theorem rb_app {a b : List (List D)} (ha : RB a) (hb : RB b) : RB (a ++ b) := fun r h => by
  rcases List.mem_append.1 h with h | h
  · exact ha r h
  · exact hb r h
theorem rb_one {a b c d : Int} {e : ByteArray} (ha : I64 a) (hb : I64 b) (hc : I64 c) (hd : I64 d) (he : e.size ≤ 2000) : RB [[.i .i64 a, .i .i64 b, .i .i64 c, .i .i64 d, .s e]] := fun r h => by
  rw [List.mem_singleton.1 h]
  exact ⟨⟨_, _, rfl, ⟨_, rfl, wfI ha⟩, _, _, rfl, ⟨_, rfl, wfI hb⟩, _, _, rfl, ⟨_, rfl, wfI hc⟩, _, _, rfl, ⟨_, rfl, wfI hd⟩, _, _, rfl, ⟨_, rfl, Nat.le_trans he (by decide)⟩, rfl⟩, he⟩
theorem rb_chk {L : List (List D)} (hL : L.length ≤ 100) (a b c d : Int) (e : ByteArray) : ((flatR 5 [[D.i .i64 a, .i .i64 b, .i .i64 c, .i .i64 d, .s e]]) && decide (L.length + [[D.i .i64 a, .i .i64 b, .i .i64 c, .i .i64 d, .s e]].length ≤ lim)) = true := by
  have e2 : decide (L.length + [[D.i .i64 a, .i .i64 b, .i .i64 c, .i .i64 d, .s e]].length ≤ lim) = true := decide_eq_true (by unfold lim; simp; omega)
  rw [e2]; rfl
/-- What a kept state may be: no more is asked. -/
def KB (t v si st : Int) (sd : ByteArray) (es : List (List D)) : Prop := I64 t ∧ I64 v ∧ I64 si ∧ I64 st ∧ sd.size ≤ 5000 ∧ EL [.i .i64, .s] 6200 es
theorem loop78 {q1 : Int → SV → Bool → SV → List (List D) → Int → Int → Int → Int → Int → Int → ByteArray → Int → Int → Int → Int → ByteArray → Int → Int → Int → Int → ByteArray → List (List D) → List (List D) → Rs} {q2 : Int → Bool → Bool → Bool → List (List D) → Int → Int → Int → Int → Int → Int → ByteArray → Int → Int → Int → Int → ByteArray → Int → Int → Int → Int → ByteArray → List (List D) → List (List D) → List (List D) → Rs} {zr : List DV} {zo : List (List D)} {P : Rs → Prop} (l1 : List (List D)) (n4 n5 n6 n7 : Int) (s1 : ByteArray) (n8 n9 n10 n11 : Int) (s2 : ByteArray) (l2 : List (List D))
    (h1 : ∀ n v b v' i h kt kv ks kst ksd L, Cu l1 i → L.length ≤ 6 → RB L → PQ zr zo P (q1 n v b v' l1 i h n4 n5 n6 n7 s1 n8 n9 n10 n11 s2 kt kv ks kst ksd l2 L))
    (h2 : ∀ n b b2 b3 i h kt kv ks kst ksd L L', Cu l1 i → L.length ≤ 6 → RB L → PQ zr zo P (q2 n b b2 b3 l1 i h n4 n5 n6 n7 s1 n8 n9 n10 n11 s2 kt kv ks kst ksd l2 L L')) :
    ∀ (c m : Nat) (n1 : Int), n1 ≤ c → 0 ≤ n1 → n1 ≤ 10 → c < m →
      (∀ v1 v2 v3 i h kt kv ks kst ksd L, Cu l1 i → KB kt kv ks kst ksd l2 → L.length + c ≤ 6 → RB L →
        PQ zr zo P (la78o0 t52 t53 t73 t74 t79 t80 q1 q2 m n1 v1 v2 v3 l1 i h n4 n5 n6 n7 s1 n8 n9 n10 n11 s2 kt kv ks kst ksd l2 L)) ∧
      (∀ v1 v2 v3 i h kt kv ks kst ksd L l4, Cu l1 i → KB kt kv ks kst ksd l4 → L.length + c ≤ 6 → RB L →
        PQ zr zo P (la78o10000000 t52 t53 t73 t74 t79 t80 q1 q2 m n1 v1 v2 v3 l1 i h n4 n5 n6 n7 s1 n8 n9 n10 n11 s2 kt kv ks kst ksd l2 L l4)) := by
  intro c
  induction c with
  | zero =>
    intro m n1 hn hn0 hn10 hm
    obtain ⟨m, rfl⟩ : ∃ m', m = m' + 1 := ⟨m - 1, by omega⟩
    have e : decide (n1 > 0) = false := decide_eq_false (by omega)
    constructor
    · intro v1 v2 v3 i h kt kv ks kst ksd L C K hL B
      simp only [la78o0, e, Bool.false_eq_true, if_false]
      exact h1 _ _ _ _ _ _ _ _ _ _ _ _ C (by omega) B
    · intro v1 v2 v3 i h kt kv ks kst ksd L l4 C K hL B
      simp only [la78o10000000, e, Bool.false_eq_true, if_false]
      exact h2 _ _ _ _ _ _ _ _ _ _ _ _ _ C (by omega) B
  | succ c ih =>
    intro m n1 hn hn0 hn10 hm
    obtain ⟨m, rfl⟩ : ∃ m', m = m' + 1 := ⟨m - 1, by omega⟩
    by_cases g : n1 > 0
    · have e : decide (n1 > 0) = true := decide_eq_true g
      have e1 : w64 (n1 - 1) = n1 - 1 := w64_in _ (by omega)
      obtain ⟨ih1, ih2⟩ := ih m (n1 - 1) (by omega) (by omega) (by omega) (by omega)
      constructor
      · intro v1 v2 v3 i h kt kv ks kst ksd L C K hL B
        obtain ⟨k0, k1, k2, k3, k4, k5⟩ := K
        obtain ⟨a1, c1, r0, r1, r2, r3, r4, -⟩ := d80 C h kt kv ks kst ksd l2 k0 k1 k2 k3 k4 k5
        obtain ⟨a2, x0, x1, x2, x3, x4, x5, -⟩ := n53 kt kv ks kst ksd l2 k0 k1 k2 k3 k4 k5
        simp only [la78o0, e, if_true, a1, a2, chk_true, e1]
        generalize t80 l1 i h kt kv ks kst ksd l2 = y2 at *
        generalize t53 kt kv ks kst ksd l2 = y3 at *
        obtain ⟨a3, z0, z1, z2, z3, z4, z5, -⟩ := n52 _ _ _ _ _ _ (asI (resC y2 0 0)) _ _ (asI (resC y2 0 3)) _ x0 x1 x2 x3 x4 x5 r1 r2 r3 (Nat.le_trans r4 (by decide))
        simp only [a3, chk_true]
        have K' : KB _ _ _ _ _ _ := ⟨z0, z1, z2, z3, z4, z5⟩
        have B' := rb_app B (rb_one r0 r1 r2 r3 r4)
        have hL' : (L ++ [[D.i .i64 (asI (resC y2 0 0)), .i .i64 (asI (resC y2 0 1)), .i .i64 (asI (resC y2 0 2)), .i .i64 (asI (resC y2 0 3)), .s (asS (resC y2 0 4))]]).length + c ≤ 6 := by simp; omega
        refine pq_ite (fun g1 => ?_) (fun g1 => ?_)
        · obtain ⟨a4, c4, -⟩ := d74 c1 (asI (outC y2 0 2)) 25
          refine pq_chk a4 (pq_ite (fun _ => ?_) (fun _ => ?_))
          · exact pq_chk (rb_chk (by omega) _ _ _ _ _) (ih2 _ _ _ _ _ _ _ _ _ _ _ _ c4 K' hL' B')
          · exact ih1 _ _ _ _ _ _ _ _ _ _ _ c4 ⟨k0, k1, k2, k3, k4, k5⟩ (by omega) B
        · refine pq_chk (by simpa using g1) (pq_chk (rb_chk (by omega) _ _ _ _ _) (ih2 _ _ _ _ _ _ _ _ _ _ _ _ c1 K' hL' B'))
      · intro v1 v2 v3 i h kt kv ks kst ksd L l4 C K hL B
        obtain ⟨k0, k1, k2, k3, k4, k5⟩ := K
        obtain ⟨a1, c1, r0, r1, r2, r3, r4, -⟩ := d80 C h kt kv ks kst ksd l4 k0 k1 k2 k3 k4 k5
        obtain ⟨a2, x0, x1, x2, x3, x4, x5, -⟩ := n53 kt kv ks kst ksd l4 k0 k1 k2 k3 k4 k5
        simp only [la78o10000000, e, if_true, a1, a2, chk_true, e1]
        generalize t80 l1 i h kt kv ks kst ksd l4 = y2 at *
        generalize t53 kt kv ks kst ksd l4 = y3 at *
        obtain ⟨a3, z0, z1, z2, z3, z4, z5, -⟩ := n52 _ _ _ _ _ _ (asI (resC y2 0 0)) _ _ (asI (resC y2 0 3)) _ x0 x1 x2 x3 x4 x5 r1 r2 r3 (Nat.le_trans r4 (by decide))
        simp only [a3, chk_true]
        have K' : KB _ _ _ _ _ _ := ⟨z0, z1, z2, z3, z4, z5⟩
        have B' := rb_app B (rb_one r0 r1 r2 r3 r4)
        have hL' : (L ++ [[D.i .i64 (asI (resC y2 0 0)), .i .i64 (asI (resC y2 0 1)), .i .i64 (asI (resC y2 0 2)), .i .i64 (asI (resC y2 0 3)), .s (asS (resC y2 0 4))]]).length + c ≤ 6 := by simp; omega
        refine pq_ite (fun g1 => ?_) (fun g1 => ?_)
        · obtain ⟨a4, c4, -⟩ := d74 c1 (asI (outC y2 0 2)) 25
          refine pq_chk a4 (pq_ite (fun _ => ?_) (fun _ => ?_))
          · exact pq_chk (rb_chk (by omega) _ _ _ _ _) (ih2 _ _ _ _ _ _ _ _ _ _ _ _ c4 K' hL' B')
          · exact ih2 _ _ _ _ _ _ _ _ _ _ _ _ c4 ⟨k0, k1, k2, k3, k4, k5⟩ (by omega) B
        · refine pq_chk (by simpa using g1) (pq_chk (rb_chk (by omega) _ _ _ _ _) (ih2 _ _ _ _ _ _ _ _ _ _ _ _ c1 K' hL' B'))
    · have e : decide (n1 > 0) = false := decide_eq_false g
      constructor
      · intro v1 v2 v3 i h kt kv ks kst ksd L C K hL B
        simp only [la78o0, e, Bool.false_eq_true, if_false]
        exact h1 _ _ _ _ _ _ _ _ _ _ _ _ C (by omega) B
      · intro v1 v2 v3 i h kt kv ks kst ksd L l4 C K hL B
        simp only [la78o10000000, e, Bool.false_eq_true, if_false]
        exact h2 _ _ _ _ _ _ _ _ _ _ _ _ _ C (by omega) B
theorem d78 {l1 : List (List D)} {n2 : Int} (C : Cu l1 n2) (n3 : Int) : PQ zr78 zo78 (fun o => Cu l1 (asI (outC o 0 1)) ∧ KB (asI (resC o 0 0)) (asI (resC o 0 1)) (asI (resC o 0 2)) (asI (resC o 0 3)) (asS (resC o 0 4)) (asL (resC o 0 5)) ∧ (asL (resC o 0 6)).length ≤ 6 ∧ RB (asL (resC o 0 6)) ∧ True) (t78 l1 n2 n3) := by
  unfold t78 ta78
  obtain ⟨a1, c1, k0, k1, k2, k3, k4, k5, -⟩ := d73 C n3
  generalize t73 l1 n2 n3 = y1 at *
  obtain ⟨a2, c2, b2, -⟩ := d79 c1 (asI (outC y1 0 2)) 6
  have b3 := b2.2.2 (by decide)
  have b1 := b2.1
  simp only [a1, a2, chk_true]
  have K : KB (asI (resC y1 0 0)) (asI (resC y1 0 1)) (asI (resC y1 0 2)) (asI (resC y1 0 3)) (asS (resC y1 0 4)) (asL (resC y1 0 5)) := ⟨k0, k1, k2, k3, Nat.le_trans k4 (by decide), el_mono (by decide) k5⟩
  refine (loop78 l1 0 0 0 0 ⟨#[]⟩ _ _ _ _ _ _ (fun _ _ _ _ _ _ _ _ _ _ _ L c h r => ⟨rfl, c, K, h, r, trivial⟩) (fun _ _ _ _ _ _ _ _ _ _ _ L _ c h r => ⟨rfl, c, K, h, r, trivial⟩) 5 KK _ (by omega) b1 (by omega) (by rw [KK_eq]; omega)).1 _ _ _ _ _ _ _ _ _ _ _ c2 K (by decide) rb_nil
theorem i64_0 : I64 0 := by unfold I64; decide
theorem stepK_KB {k : KS} {r : RC} (h : KB k.t k.v k.si k.st k.sd k.es) (hd : r.d.size ≤ 5000) (hl : k.es.length ≤ 60) : KB (stepK k r).1.t (stepK k r).1.v (stepK k r).1.si (stepK k r).1.st (stepK k r).1.sd (stepK k r).1.es := by
  obtain ⟨h0, h1, h2, h3, h4, h5⟩ := h
  unfold stepK
  split
  · rename_i hc
    simp only [Bool.and_eq_true] at hc
    have hr := hc.1
    simp only [recOk, Bool.or_eq_true, Bool.and_eq_true, decide_eq_true_eq] at hr
    have hi : I64 r.i := by unfold I64; omega
    have ht : I64 r.t := by unfold I64; omega
    have hv : I64 r.v := by unfold I64; omega
    split
    · exact ⟨ht, hv, h2, h3, h4, h5⟩
    split
    · exact ⟨h0, h1, h2, h3, h4, by simp only [List.length_append, List.length_singleton]; omega, (el_app h5 (el_one ⟨_, _, rfl, ⟨_, rfl, wfI ht⟩, _, _, rfl, ⟨_, rfl, Nat.le_trans hd (by decide)⟩, rfl⟩)).2⟩
    split
    · exact ⟨h0, h1, h2, h3, h4, el_take h5⟩
    · refine ⟨h0, h1, hi, ht, hd, ?_⟩
      show EL _ _ (behindA k r.i r.t)
      unfold behindA
      split
      · exact el_drop h5
      · exact el_mono (by decide) (el_nil _)
  · exact ⟨h0, h1, h2, h3, h4, h5⟩
theorem foldN_KB (l : List (List D)) (hl : RB l) : ∀ (c i : Nat) (k K : KS), KI k → KB k.t k.v k.si k.st k.sd k.es → foldN l c i k = some K → i + c ≤ l.length → KB K.t K.v K.si K.st K.sd K.es
  | 0, _, k, K, _, h, e, _ => by cases e; exact h
  | c + 1, i, k, K, hk, h, e, hi => by
    simp only [foldN] at e
    split at e
    · refine foldN_KB l hl c (i + 1) _ K (hk.step' _) (stepK_KB h ?_ hk.h2) e (by omega)
      exact Nat.le_trans (hl _ (mem_getD (by omega))).2 (by decide)
    · cases e
def heldS (r : Option KS) : Rs := match r with
  | some K => some ([.agg (kD K)], [])
  | none => some ([.agg [.i .i64 0, .i .i64 0, .i .i64 0, .i .i64 0, .s ⟨#[]⟩, .l []]], [])
theorem held_spec (k : KS) (l : List (List D)) (hek : ∀ r ∈ k.es, typL shEntry r) (hle : k.es.length ≤ 1048576) (h : ∀ r ∈ l, typL shRec r) (hl : l.length ≤ 1048576) :
    t31 k.t k.v k.si k.st k.sd k.es l = heldS (storeV k l) := by
  have ew : ∀ x, okR zr22 zo22 (some ([.one (.b x)], [])) = true := fun _ => rfl
  have eb : ∀ x, asB (resC (some ([.one (.b x)], [])) 0 0) = x := fun _ => rfl
  simp only [t31, ta31, storeOk_spec k l hek hle h hl, ew, eb, chk_true]
  cases hv : storeV k l with
  | none => rfl
  | some K =>
    obtain ⟨hk, hK, h80⟩ := storeV_KI hek hv
    obtain ⟨K', hf, hv'⟩ := storeV_part hv l.length (by omega)
    rw [List.take_length, hv] at hv'
    cases hv'
    have hF := fold_spec k l (l.length : Int) hk h hl l.length (by omega) (by (repeat' split) <;> omega)
    simp only [hF, hf, fold_w, fold_b, Option.isSome_some, Bool.not_true, Bool.false_eq_true, if_false, Bool.and_self, chk_true]
    rfl
theorem loop47a {l27 : List (List D)} {n28 n31 n32 n33 n34 : Int} {s35 : ByteArray} {n36 n37 n38 n39 : Int} {s40 : ByteArray} {l50 l51 : List (List D)} {q1 : Int → Bool → Int → Int → Int → Int → ByteArray → Int → Int → List (List D) → List (List D) → Rs} {l2 : List (List D)} {zr : List DV} {zo : List (List D)} {P : Rs → Prop}
    (h1 : ∀ n b kt kv ks kst ksd i h L es, Cu l2 i → L.length ≤ 6 → RB L → PQ zr zo P (q1 n b kt kv ks kst ksd i h L es)) :
    ∀ (c m : Nat) (n10 : Int), n10 ≤ c → 0 ≤ n10 → n10 ≤ 10 → c < m →
      (∀ v1 kt kv ks kst ksd i h L es, Cu l2 i → KB kt kv ks kst ksd es → L.length + c ≤ 6 → RB L →
        PQ zr zo P (la47o0 t31 t52 t53 t72 t74 t78 t79 t80 t81 l27 n28 n31 n32 n33 n34 s35 n36 n37 n38 n39 s40 l2 l50 l51 q1 m n10 v1 kt kv ks kst ksd i h L es)) := by
  intro c
  induction c with
  | zero =>
    intro m n1 hn hn0 hn10 hm
    obtain ⟨m, rfl⟩ : ∃ m', m = m' + 1 := ⟨m - 1, by omega⟩
    have e : decide (n1 > 0) = false := decide_eq_false (by omega)
    intro v1 kt kv ks kst ksd i h L es C K hL B
    simp only [la47o0, e, Bool.false_eq_true, if_false]
    exact h1 _ _ _ _ _ _ _ _ _ _ _ C (by omega) B
  | succ c ih =>
    intro m n1 hn hn0 hn10 hm
    obtain ⟨m, rfl⟩ : ∃ m', m = m' + 1 := ⟨m - 1, by omega⟩
    intro v1 kt kv ks kst ksd i h L es C K hL B
    by_cases g : n1 > 0
    · have e : decide (n1 > 0) = true := decide_eq_true g
      have e1 : w64 (n1 - 1) = n1 - 1 := w64_in _ (by omega)
      have ih1 := ih m (n1 - 1) (by omega) (by omega) (by omega) (by omega)
      obtain ⟨k0, k1, k2, k3, k4, k5⟩ := K
      obtain ⟨a1, c1, r0, r1, r2, r3, r4, -⟩ := d80 C h kt kv ks kst ksd es k0 k1 k2 k3 k4 k5
      obtain ⟨a2, x0, x1, x2, x3, x4, x5, -⟩ := n53 kt kv ks kst ksd es k0 k1 k2 k3 k4 k5
      simp only [la47o0, e, if_true, a1, a2, chk_true, e1]
      generalize t80 l2 i h kt kv ks kst ksd es = y2 at *
      generalize t53 kt kv ks kst ksd es = y3 at *
      obtain ⟨a3, z0, z1, z2, z3, z4, z5, -⟩ := n52 _ _ _ _ _ _ (asI (resC y2 0 0)) _ _ (asI (resC y2 0 3)) _ x0 x1 x2 x3 x4 x5 r1 r2 r3 (Nat.le_trans r4 (by decide))
      simp only [a3, chk_true]
      exact pq_chk (rb_chk (by omega) _ _ _ _ _) (ih1 _ _ _ _ _ _ _ _ _ _ c1 ⟨z0, z1, z2, z3, z4, z5⟩ (by simp; omega) (rb_app B (rb_one r0 r1 r2 r3 r4)))
    · have e : decide (n1 > 0) = false := decide_eq_false g
      simp only [la47o0, e, Bool.false_eq_true, if_false]
      exact h1 _ _ _ _ _ _ _ _ _ _ _ C (by omega) B
theorem loop47b {l131 : List (List D)} {n132 n133 : Int} {b136 b137 : Bool} {n139 n140 n141 n142 : Int} {s143 : ByteArray} {n144 n145 n146 n147 : Int} {s148 : ByteArray} {n149 n150 n151 n152 : Int} {s153 : ByteArray} {l154 : List (List D)} {n155 n156 : Int} {l157 l159 l160 l161 : List (List D)} {q1 : Int → Bool → List (List D) → Rs} {n3 : Int} {zr : List DV} {zo : List (List D)} {P : Rs → Prop} (hn3 : n3 ≤ 90)
    (h1 : ∀ n b L, L.length ≤ 90 → RB L → PQ zr zo P (q1 n b L)) :
    ∀ (c m : Nat) (n : Int), n3 - n ≤ c → 0 ≤ n → c < m →
      (∀ v1 L, (L.length : Int) ≤ n → L.length + c ≤ 90 → RB L →
        PQ zr zo P (la47o3 t31 t52 t53 t72 t74 t78 t79 t80 t81 l131 n132 n133 n3 b136 b137 n139 n140 n141 n142 s143 n144 n145 n146 n147 s148 n149 n150 n151 n152 s153 l154 n155 n156 l157 l159 l160 l161 q1 m n v1 L)) := by
  intro c
  induction c with
  | zero =>
    intro m n hn hn0 hm
    obtain ⟨m, rfl⟩ : ∃ m', m = m' + 1 := ⟨m - 1, by omega⟩
    intro v1 L hL hc B
    have e : decide (n < n3) = false := decide_eq_false (by omega)
    simp only [la47o3, e, Bool.false_eq_true, if_false]
    exact h1 _ _ _ (by omega) B
  | succ c ih =>
    intro m n hn hn0 hm
    obtain ⟨m, rfl⟩ : ∃ m', m = m' + 1 := ⟨m - 1, by omega⟩
    intro v1 L hL hc B
    by_cases g : n < n3
    · have e : decide (n < n3) = true := decide_eq_true g
      have e1 : w64 (n + 1) = n + 1 := w64_in _ (by omega)
      simp only [la47o3, e, if_true, e1]
      refine pq_chk (rb_chk (by omega) _ _ _ _ _) (ih m (n + 1) (by omega) (by omega) (by omega) _ _ (by simp; omega) (by simp; omega) (rb_app B (rb_one (by unfold I64; omega) (i64_w64 _) (by unfold I64; omega) (by unfold I64; omega) (show (⟨#[]⟩ : ByteArray).size ≤ 2000 by decide))))
    · have e : decide (n < n3) = false := decide_eq_false g
      simp only [la47o3, e, Bool.false_eq_true, if_false]
      exact h1 _ _ _ (by omega) B
theorem n47 (l1 : List (List D)) (hl : l1.length ≤ 1048576) (ht : ∀ r ∈ l1, typL [.i .u8] r) : PQ zr47 zo47 (fun o => KB (asI (resC o 0 0)) (asI (resC o 0 1)) (asI (resC o 0 2)) (asI (resC o 0 3)) (asS (resC o 0 4)) (asL (resC o 0 5)) ∧ (asL (resC o 0 6)).length ≤ 6 ∧ RB (asL (resC o 0 6)) ∧ (asL (resC o 1 0)).length ≤ 90 ∧ RB (asL (resC o 1 0)) ∧ True) (t47 l1) := by
  unfold t47 ta47
  obtain ⟨a0, c0, -⟩ := n72 l1 hl ht
  simp only [a0, chk_true]
  generalize t72 l1 = y0 at *
  obtain ⟨a1, c1, K, hL, B, -⟩ := d78 c0 (asI (resC y0 0 2))
  generalize asL (resC y0 0 0) = lc at *
  generalize t78 lc (asI (resC y0 0 1)) (asI (resC y0 0 2)) = y2 at *
  obtain ⟨a2, c2, b2, -⟩ := d79 c1 (asI (outC y2 0 2)) 5
  have b3 := b2.2.2 (by decide)
  have b1 := b2.1
  have hH := held_spec ⟨asI (resC y2 0 0), asI (resC y2 0 1), asI (resC y2 0 2), asI (resC y2 0 3), asS (resC y2 0 4), asL (resC y2 0 5)⟩ (asL (resC y2 0 6)) K.2.2.2.2.2.2 (Nat.le_trans K.2.2.2.2.2.1 (by decide)) (fun r hr => (B r hr).1) (by omega)
  simp only at hH
  have hKH : okR zr31 zo31 (heldS (storeV ⟨asI (resC y2 0 0), asI (resC y2 0 1), asI (resC y2 0 2), asI (resC y2 0 3), asS (resC y2 0 4), asL (resC y2 0 5)⟩ (asL (resC y2 0 6)))) = true ∧ (fun o => KB (asI (resC o 0 0)) (asI (resC o 0 1)) (asI (resC o 0 2)) (asI (resC o 0 3)) (asS (resC o 0 4)) (asL (resC o 0 5))) (heldS (storeV ⟨asI (resC y2 0 0), asI (resC y2 0 1), asI (resC y2 0 2), asI (resC y2 0 3), asS (resC y2 0 4), asL (resC y2 0 5)⟩ (asL (resC y2 0 6)))) := by
    cases hv : storeV ⟨asI (resC y2 0 0), asI (resC y2 0 1), asI (resC y2 0 2), asI (resC y2 0 3), asS (resC y2 0 4), asL (resC y2 0 5)⟩ (asL (resC y2 0 6)) with
    | none => exact ⟨rfl, i64_0, i64_0, i64_0, i64_0, by decide, el_mono (by decide) (el_nil _)⟩
    | some W =>
      refine ⟨rfl, ?_⟩
      obtain ⟨K', hf, hv'⟩ := storeV_part hv (asL (resC y2 0 6)).length (Nat.le_refl _)
      rw [List.take_length, hv] at hv'
      cases hv'
      obtain ⟨hk, hK, -⟩ := storeV_KI K.2.2.2.2.2.2 hv
      exact foldN_KB _ B _ _ _ _ hk K hf (by omega)
  rw [← hH] at hKH
  simp only [a1, a2, hKH.1, chk_true]
  obtain ⟨-, KH⟩ := hKH
  generalize t31 (asI (resC y2 0 0)) (asI (resC y2 0 1)) (asI (resC y2 0 2)) (asI (resC y2 0 3)) (asS (resC y2 0 4)) (asL (resC y2 0 5)) (asL (resC y2 0 6)) = y10 at *
  refine loop47a (fun n b kt kv ks kst ksd i h L es c hLL BL => ?_) 5 KK _ (by omega) b1 (by omega) (by rw [KK_eq]; omega) _ _ _ _ _ _ _ _ _ _ c2 KH (by decide) rb_nil
  obtain ⟨a3, c3, -⟩ := d74 c h 25
  refine pq_chk a3 (pq_ite (fun _ => ?_) (fun _ => ?_))
  · obtain ⟨a4, c4, b4, -⟩ := d79 c3 (asI (outC (t74 lc i h 25) 0 2)) 2
    have b5 := b4.2.2 (by decide)
    refine pq_chk a4 ?_
    refine loop47b (by rw [w64_in _ (by omega)]; omega) (fun n b L' hL' BL' => ?_) 90 KK 0 (by rw [w64_in _ (by omega)]; omega) (Int.le_refl 0) (by rw [KK_eq]; omega) _ _ (by decide) (by decide) rb_nil
    obtain ⟨a5, c5, -⟩ := d81 c4 (asI (outC (t79 lc (asI (outC (t74 lc i h 25) 0 1)) (asI (outC (t74 lc i h 25) 0 2)) 2) 0 2)) [[.i .i64 (-1 : Int)], [.i .i64 (0 : Int)], [.i .i64 (1 : Int)], [.i .i64 (2 : Int)], [.i .i64 (90 : Int)], [.i .i64 (3 : Int)]] (by decide)
    exact pq_chk a5 ⟨rfl, K, hL, B, hL', BL', trivial⟩
  · obtain ⟨a5, c5, -⟩ := d81 c3 (asI (outC (t74 lc i h 25) 0 2)) [[.i .i64 (-1 : Int)], [.i .i64 (0 : Int)], [.i .i64 (1 : Int)], [.i .i64 (2 : Int)], [.i .i64 (90 : Int)], [.i .i64 (3 : Int)]] (by decide)
    exact pq_chk a5 ⟨rfl, K, hL, B, Nat.le_trans hLL (by decide), BL, trivial⟩
end Go.Den.L11

/- Steps keep what is right; what records lead to. -/
namespace Go.Den.L11
open Go
/-- The term of entry j; its size. -/
def tmE (l : List (List D)) (j : Nat) : Int := asI (nthD (l.getD j []) 0)
def szE (l : List (List D)) (j : Nat) : Int := ((asS (nthD (l.getD j []) 1)).size : Int)
theorem runB_iff (l : List (List D)) (t : Int) : ∀ (k i : Nat) (p : Int), runB l t k i p = true ↔ ∀ j, i ≤ j → j < i + k → (if j = i then p else tmE l (j - 1)) ≤ tmE l j ∧ tmE l j ≤ t ∧ szE l j ≤ 1600
  | 0, i, p => by simp only [runB, true_iff]; intro j h1 h2; omega
  | k + 1, i, p => by
    have ih := runB_iff l t k (i + 1) (tmE l i)
    have e : runB l t (k + 1) i p = (decide (p ≤ tmE l i ∧ tmE l i ≤ t ∧ szE l i ≤ 1600) && runB l t k (i + 1) (tmE l i)) := rfl
    rw [e, Bool.and_eq_true, decide_eq_true_eq, ih]
    constructor
    · rintro ⟨h1, h2⟩ j hj hk
      by_cases e : j = i
      · subst e; rw [if_pos rfl]; exact h1
      · rw [if_neg e]
        have := h2 j (by omega) (by omega)
        by_cases e2 : j = i + 1
        · subst e2; rw [if_pos rfl] at this; simpa using this
        · rw [if_neg e2] at this; exact this
    · intro h
      refine ⟨by have := h i (by omega) (by omega); rw [if_pos rfl] at this; exact this, fun j hj hk => ?_⟩
      have := h j (by omega) (by omega)
      rw [if_neg (by omega)] at this
      by_cases e2 : j = i + 1
      · subst e2; rw [if_pos rfl]; simpa using this
      · rw [if_neg e2]; exact this
def keptK (k : KS) : Bool := keptB k.t k.v k.si k.st k.sd k.es
theorem keptK_iff (k : KS) : keptK k = true ↔ keptA k.t k.v k.si k.st k.sd k.es = true ∧ ∀ j, j < k.es.length → (if j = 0 then mx k.st else tmE k.es (j - 1)) ≤ tmE k.es j ∧ tmE k.es j ≤ k.t ∧ szE k.es j ≤ 1600 := by
  unfold keptK keptB
  rw [Bool.and_eq_true, runB_iff]
  constructor
  · rintro ⟨h1, h2⟩; exact ⟨h1, fun j hj => h2 j (by omega) (by omega)⟩
  · rintro ⟨h1, h2⟩; exact ⟨h1, fun j _ hj => h2 j (by omega)⟩
theorem stepK_ok {k : KS} {r : RC} (h : (stepK k r).2 = true) : recOk r = true ∧ fitsB k r = true ∧ (stepK k r).1 = (if r.k = 1 then (⟨r.t, r.v, k.si, k.st, k.sd, k.es⟩ : KS)
    else if r.k = 2 then ⟨k.t, k.v, k.si, k.st, k.sd, k.es ++ [[.i .i64 r.t, .s r.d]]⟩
    else if r.k = 3 then ⟨k.t, k.v, k.si, k.st, k.sd, k.es.take (r.i - k.si - 1).toNat⟩
    else ⟨k.t, k.v, r.i, r.t, r.d, behindA k r.i r.t⟩) := by
  unfold stepK at h ⊢
  cases hc : recOk r && fitsB k r with
  | false => rw [hc] at h; simp at h
  | true =>
    rw [Bool.and_eq_true] at hc
    refine ⟨hc.1, hc.2, ?_⟩
    simp only [if_true]
    (repeat' split) <;> rfl
theorem getD_app {l m : List (List D)} {j : Nat} (h : j < l.length) : (l ++ m).getD j [] = l.getD j [] := by rw [getD_in (by rw [List.length_append]; omega), getD_in h, List.getElem_append_left h]
theorem getD_last (l : List (List D)) (r : List D) : (l ++ [r]).getD l.length [] = r := by simp [List.getD]
theorem getD_take {l : List (List D)} {n j : Nat} (h : j < n) : (l.take n).getD j [] = l.getD j [] := by simp [List.getD, h]
theorem getD_drop {l : List (List D)} {n j : Nat} : (l.drop n).getD j [] = l.getD (n + j) [] := by simp [List.getD]
theorem keptK_step {k : KS} (hk : KI k) (h : keptK k = true) {r : RC} (hs : (stepK k r).2 = true) : keptK (stepK k r).1 = true := by
  obtain ⟨h1, h2, h3⟩ := stepK_ok hs
  have k0 := hk.h0; have k1 := hk.h1; have k2 := hk.h2
  rw [keptK_iff] at h
  obtain ⟨ha, hr⟩ := h
  simp only [keptA, placeB, Bool.and_eq_true, decide_eq_true_eq] at ha
  obtain ⟨⟨a1, a2, a3, a4, a5, a6, a7, a8, a9⟩, a10⟩ := ha
  rw [w64_in _ (by omega)] at a9
  simp only [recOk, Bool.or_eq_true, Bool.and_eq_true, decide_eq_true_eq] at h1
  rw [h3, keptK_iff]
  unfold fitsB at h2
  split
  · rename_i e
    rw [if_pos e] at h2
    rw [decide_eq_true_eq] at h2
    refine ⟨?_, fun j hj => ?_⟩
    · simp only [keptA, placeB, Bool.and_eq_true, decide_eq_true_eq]
      rw [w64_in _ (by omega)]
      exact ⟨⟨by omega, by omega, by omega, by omega, a5, a6, by omega, a8, a9⟩, a10⟩
    · have hj : j < k.es.length := hj
      obtain ⟨b1, b2, b3⟩ := hr j hj
      exact ⟨b1, by show tmE k.es j ≤ r.t; omega, b3⟩
  rename_i e1
  rw [if_neg e1] at h2
  split
  · rename_i e
    rw [if_pos e] at h2
    rw [decide_eq_true_eq] at h2
    obtain ⟨f1, f2, f3, f4⟩ := h2
    have hl : (k.es ++ [[D.i .i64 r.t, .s r.d]]).length = k.es.length + 1 := by simp
    refine ⟨?_, fun j hj => ?_⟩
    · simp only [keptA, placeB, Bool.and_eq_true, decide_eq_true_eq, hl]
      rw [w64_in _ (by omega)]
      exact ⟨⟨a1, a2, a3, a4, a5, a6, a7, by omega, by omega⟩, a10⟩
    · simp only [hl] at hj
      by_cases hj2 : j < k.es.length
      · obtain ⟨b1, b2, b3⟩ := hr j hj2
        simp only [tmE, szE, getD_app hj2] at b1 b2 b3 ⊢
        refine ⟨?_, b2, b3⟩
        by_cases e0 : j = 0
        · rw [if_pos e0] at b1 ⊢; exact b1
        · rw [if_neg e0] at b1 ⊢; rw [getD_app (by omega)]; exact b1
      · have ej : j = k.es.length := by omega
        subst ej
        simp only [tmE, szE, getD_last]
        refine ⟨?_, f4, by simp only [nthD, asS]; omega⟩
        by_cases e0 : k.es.length = 0
        · rw [if_pos e0]
          simp only [lastT, e0, if_true] at f3
          simp only [nthD, asI, mx]
          split <;> omega
        · rw [if_neg e0, getD_app (by omega)]
          simp only [lastT, e0, if_false] at f3
          simp only [nthD, asI] at f3 ⊢
          exact f3
  rename_i e2
  rw [if_neg e2] at h2
  split
  · rename_i e
    rw [if_pos e] at h2
    rw [decide_eq_true_eq] at h2
    have hl : (k.es.take (r.i - k.si - 1).toNat).length = (r.i - k.si - 1).toNat := by rw [List.length_take]; omega
    refine ⟨?_, fun j hj => ?_⟩
    · simp only [keptA, placeB, Bool.and_eq_true, decide_eq_true_eq, hl]
      rw [w64_in _ (by omega)]
      exact ⟨⟨a1, a2, a3, a4, a5, a6, a7, by omega, by omega⟩, a10⟩
    · simp only [hl] at hj
      obtain ⟨b1, b2, b3⟩ := hr j (by omega)
      simp only [tmE, szE, getD_take hj] at b1 b2 b3 ⊢
      refine ⟨?_, b2, b3⟩
      by_cases e0 : j = 0
      · rw [if_pos e0] at b1 ⊢; exact b1
      · rw [if_neg e0] at b1 ⊢; rw [getD_take (by omega)]; exact b1
  · rename_i e
    rw [if_neg e, decide_eq_true_eq] at h2
    have hk4 : 1 ≤ r.t ∧ r.t ≤ 100000 ∧ 1 ≤ r.i ∧ r.i ≤ 100000 ∧ (r.d.size : Int) ≤ 20000 := by omega
    by_cases hc : r.i - k.si ≤ (k.es.length : Int) ∧ asI (nthD (k.es.getD (r.i - k.si - 1).toNat []) 0) = r.t
    · have eb : behindA k r.i r.t = k.es.drop (r.i - k.si).toNat := by unfold behindA; rw [if_pos hc]
      have hl : (k.es.drop (r.i - k.si).toNat).length = k.es.length - (r.i - k.si).toNat := List.length_drop
      rw [eb]
      refine ⟨?_, fun j hj => ?_⟩
      · simp only [keptA, placeB, Bool.and_eq_true, decide_eq_true_eq, hl]
        rw [w64_in _ (by omega)]
        exact ⟨⟨a1, a2, a3, a4, by omega, by omega, by omega, by omega, by omega⟩, by omega⟩
      · simp only [hl] at hj
        obtain ⟨b1, b2, b3⟩ := hr ((r.i - k.si).toNat + j) (by omega)
        simp only [tmE, szE, getD_drop] at b1 b2 b3 ⊢
        refine ⟨?_, b2, b3⟩
        rw [if_neg (by omega)] at b1
        by_cases e0 : j = 0
        · subst e0
          rw [if_pos rfl]
          have e4 : (r.i - k.si).toNat + 0 - 1 = (r.i - k.si - 1).toNat := by omega
          rw [e4, hc.2] at b1
          simp only [mx]
          split
          · omega
          · exact b1
        · rw [if_neg e0, show (r.i - k.si).toNat + (j - 1) = (r.i - k.si).toNat + j - 1 by omega]; exact b1
    · have eb : behindA k r.i r.t = [] := by unfold behindA; rw [if_neg hc]
      rw [eb]
      refine ⟨?_, fun j hj => by simp at hj⟩
      simp only [keptA, placeB, Bool.and_eq_true, decide_eq_true_eq, List.length_nil]
      rw [w64_in _ (by omega)]
      exact ⟨⟨a1, a2, a3, a4, by omega, by omega, by omega, by omega, by omega⟩, by omega⟩
/-- What a list of records leads to. -/
def runL : List (List D) → KS → Option KS
  | [], k => some k
  | r :: L, k => if (stepK k (rcOf r)).2 then runL L (stepK k (rcOf r)).1 else none
theorem foldN_runL : ∀ (L P : List (List D)) (k : KS), foldN (P ++ L) L.length P.length k = runL L k
  | [], P, k => rfl
  | r :: L, P, k => by
    have e : (P ++ r :: L).getD P.length [] = r := by simp [List.getD]
    simp only [List.length_cons, foldN, runL, e]
    split
    · have ih := foldN_runL L (P ++ [r]) (stepK k (rcOf r)).1
      simpa using ih
    · rfl
theorem runL_app : ∀ (A B : List (List D)) (k : KS), runL (A ++ B) k = (runL A k).bind (runL B)
  | [], B, k => rfl
  | r :: A, B, k => by
    simp only [List.cons_append, runL]
    split
    · exact runL_app A B _
    · rfl
end Go.Den.L11

/- The law of changes. -/
namespace Go.Den.L11
open Go
theorem same_loop {b10 b12 : Bool} {q1 : Int → Bool → Bool → Rs} {q2 : Int → Bool → SV → Rs} {R : Rs} {l : List (List D)} (h : ∀ r ∈ l, typL shEntry r) (wl : l.length ≤ 1048576) (hq : ∀ n b v, q2 n b v = R) : ∀ (c i m : Nat) (v w : SV), i + c = l.length → c < m → l77o1 l l b10 b12 q1 q2 m (i : Int) v w = R := by
  intro c
  induction c with
  | zero =>
    intro i m v w e hm
    obtain ⟨m, rfl⟩ : ∃ m', m = m' + 1 := ⟨m - 1, by omega⟩
    have e1 : decide ((i : Int) < (l.length : Int)) = false := decide_eq_false (by omega)
    simp only [l77o1, e1, Bool.false_eq_true, if_false]
    exact hq _ _ _
  | succ c ih =>
    intro i m v w e hm
    obtain ⟨m, rfl⟩ : ∃ m', m = m' + 1 := ⟨m - 1, by omega⟩
    have hi : i < l.length := by omega
    have ez := row_in h _ entry_row i hi
    simp only [l77o1, nat_in hi, nat_pos, Int.toNat_natCast, ez, Bool.and_self, chk_true, if_true, BEq.rfl, Bool.not_true, Bool.false_eq_true, if_false]
    rw [w64_succ i (by omega)]
    exact ih (i + 1) m _ _ (by omega) (by omega)
theorem sameKept_self (k : KS) (h : ∀ r ∈ k.es, typL shEntry r) (wl : k.es.length ≤ 1048576) : t46 k.t k.v k.si k.st k.sd k.es k.t k.v k.si k.st k.sd k.es = some ([.one (.b true)], []) := by
  have e7 : t77 k.es k.es = some ([.one (.b true)], []) := by
    unfold t77
    simp only [bne_self_eq_false, Bool.false_eq_true, if_false]
    exact same_loop h wl (fun _ _ _ => rfl) k.es.length 0 KK _ _ (by omega) (by rw [KK_eq]; omega)
  have ew : okR zr77 zo77 (some ([.one (.b true)], [])) = true := rfl
  have eb : asB (resC (some ([.one (.b true)], [])) 0 0) = true := rfl
  simp only [t46, ta46, e7, ew, eb, BEq.rfl, Bool.and_self, Bool.true_or, chk_true]
end Go.Den.L11

/- The law of stores. -/
namespace Go.Den.L11
open Go
theorem getD_dropTake {l : List (List D)} {i j : Nat} (hi : i < l.length) : (l.drop i).take (j + 1) = l.getD i [] :: (l.drop (i + 1)).take j := by
  rw [List.drop_eq_getElem_cons hi, List.take_succ_cons, getD_in hi]
theorem writeN_run (l : List (List D)) : ∀ (c i : Nat) (k : KS) (L : List (List D)), i + c ≤ l.length → L.length ≤ 80 →
    ∃ j, j ≤ c ∧ writeN l c i k L = (L ++ (l.drop i).take j, i + j) ∧ (∃ K, runL ((l.drop i).take j) k = some K) ∧ L.length + j ≤ 80
  | 0, i, k, L, _, h => ⟨0, Nat.le_refl 0, by simp [writeN], ⟨k, rfl⟩, h⟩
  | c + 1, i, k, L, hi, h => by
    by_cases h1 : 80 ≤ L.length
    · exact ⟨0, by omega, by simp [writeN, h1], ⟨k, rfl⟩, h⟩
    · by_cases h2 : (stepK k (rcOf (l.getD i []))).2 = true
      · obtain ⟨j, hj, e, ⟨K, hK⟩, h8⟩ := writeN_run l c (i + 1) (stepK k (rcOf (l.getD i []))).1 (L ++ [l.getD i []]) (by omega) (by simp; omega)
        have hr : runL ((l.drop i).take (j + 1)) k = some K := by
          rw [getD_dropTake (by omega)]; simp only [runL]; rw [if_pos h2]; exact hK
        refine ⟨j + 1, by omega, ?_, ⟨K, hr⟩, by simp at h8; omega⟩
        simp only [writeN]
        rw [if_neg h1, if_pos h2, e, getD_dropTake (by omega)]
        simp only [List.append_assoc, List.singleton_append]
        rw [show i + 1 + j = i + (j + 1) by omega]
      · exact ⟨0, by omega, by simp only [writeN]; rw [if_neg h1, if_neg h2]; simp, ⟨k, rfl⟩, h⟩
theorem runL_keep : ∀ (L : List (List D)) (k K : KS), KI k → keptK k = true → runL L k = some K → KI K ∧ keptK K = true
  | [], k, K, h, h2, e => by cases e; exact ⟨h, h2⟩
  | r :: L, k, K, h, h2, e => by
    simp only [runL] at e
    split at e
    · rename_i hs
      exact runL_keep L _ K (h.step' _) (keptK_step h h2 hs) e
    · cases e
theorem runL_take {L : List (List D)} {k K : KS} (n : Nat) (h : runL L k = some K) : ∃ K', runL (L.take n) k = some K' := by
  have := runL_app (L.take n) (L.drop n) k
  rw [List.take_append_drop, h] at this
  cases hr : runL (L.take n) k with
  | none => rw [hr] at this; cases this
  | some K' => exact ⟨K', rfl⟩
theorem storeV_run (k : KS) (l : List (List D)) : storeV k l = if keptK k && decide (l.length ≤ 80) then runL l k else none := by
  have e := foldN_runL l [] k
  simp only [List.nil_append, List.length_nil] at e
  unfold storeV
  rw [e]; rfl
theorem storeV_app {k K K2 : KS} {l m : List (List D)} (h : storeV k l = some K) (h2 : runL m K = some K2) (h8 : l.length + m.length ≤ 80) : storeV k (l ++ m) = some K2 := by
  rw [storeV_run] at h ⊢
  split at h
  · rename_i hc
    simp only [Bool.and_eq_true, decide_eq_true_eq] at hc
    rw [if_pos (by simp only [Bool.and_eq_true, decide_eq_true_eq]; exact ⟨hc.1, by simp; omega⟩), runL_app, h]
    exact h2
  · cases h
theorem storeV_keep {k K : KS} {l : List (List D)} (ht : ∀ r ∈ k.es, typL shEntry r) (h : storeV k l = some K) : keptK k = true ∧ KI K ∧ keptK K = true := by
  have hk := (storeV_KI ht h).1
  rw [storeV_run] at h
  split at h
  · rename_i hc
    simp only [Bool.and_eq_true, decide_eq_true_eq] at hc
    exact ⟨hc.1, runL_keep l k K hk hc.1 h⟩
  · cases h
theorem storeV_nil {k : KS} (h : keptK k = true) : storeV k [] = some k := by
  rw [storeV_run, h]; rfl
def stopN (n : Int) (l : Nat) : Nat := (if n ≤ 0 then 0 else if n ≤ (l : Int) then n else (l : Int)).toNat
theorem stopN_eq (n : Int) (l : Nat) : (stopN n l : Int) = (if n ≤ 0 then 0 else if n ≤ (l : Int) then n else (l : Int)) ∧ stopN n l ≤ l := by
  unfold stopN
  (repeat' split) <;> omega
theorem write_implR (k : KS) (l L2 : List (List D)) (n : Int) (w6 : k.es.length ≤ 1048576) (t6 : ∀ r ∈ k.es, typL shEntry r) (w7 : l.length ≤ 1048576) (t7 : ∀ r ∈ l, typL shRec r) (w8 : L2.length ≤ 1048576) (t8 : ∀ r ∈ L2, typL shRec r) :
    (storeV k l = none → t42 k.t k.v k.si k.st k.sd k.es l L2 n = some ([.agg [.i .i64 0, .i .i64 0, .i .i64 0, .i .i64 0, .s ⟨#[]⟩, .l [], .l []], .one (.i .i64 0)], [])) ∧
    (∀ K, storeV k l = some K → t42 k.t k.v k.si k.st k.sd k.es l L2 n = some ([.agg [.i .i64 k.t, .i .i64 k.v, .i .i64 k.si, .i .i64 k.st, .s k.sd, .l k.es, .l (writeN L2 (stopN n L2.length) 0 K l).1], .one (.i .i64 ((writeN L2 (stopN n L2.length) 0 K l).2 : Int))], [])) := by
  have wc2 : ∀ t v si st sd l m, okR zr71 zo71 (some ([.agg [.i .i64 t, .i .i64 v, .i .i64 si, .i .i64 st, .s sd, .l l, .l m]], [])) = true := fun _ _ _ _ _ _ _ => rfl
  have hI := held_impl k l t6 w6 t7 w7
  constructor
  · intro hv
    rw [hv] at hI
    simp only [t42, ta42, hI, held_w, held_b, chk_true, Option.isSome_none, Bool.not_false, if_true]
  · intro K hv
    rw [hv] at hI
    obtain ⟨hk, hK, h80⟩ := storeV_KI t6 hv
    obtain ⟨hstop, hle⟩ := stopN_eq n L2.length
    generalize stopN n L2.length = stop at *
    have e4 : (if (if (L2.length : Int) < n then (L2.length : Int) else n) > 0 then (if (L2.length : Int) < n then (L2.length : Int) else n) else 0) = (stop : Int) := by
      rw [hstop]; (repeat' split) <;> omega
    have e5 : decide (0 ≤ (0 : Int) ∧ (0 : Int) ≤ (stop : Int) ∧ (stop : Int) ≤ (L2.length : Int) ∧ (L2.getD 0 z38).length = z38.length) = true := by
      refine decide_eq_true ⟨by omega, by omega, by omega, ?_⟩
      cases hes : L2 with
      | nil => rfl
      | cons x xs =>
        obtain ⟨a, b, c, d, e, rfl, _⟩ := Rec_row (t8 x (by rw [hes]; simp))
        rfl
    have htl : (L2.take stop).length = stop := by simp; omega
    simp only [t42, ta42, hI, held_w, held_b, chk_true, Option.isSome_some, Bool.not_true, Bool.false_eq_true, if_false, copyStore_eq k.t k.v k.si k.st k.sd k.es l w6 t6 w7 t7, wc2, e4, e5, Int.toNat_natCast, show (0 : Int).toNat = 0 from rfl, List.drop_zero]
    refine (writeI_loop k.t k.v k.si k.st k.sd k.es l L2 n 0 true false k.t k.v k.si k.st k.sd k.es l 0 0 0 0 ⟨#[]⟩ k.t k.v k.si k.st k.sd k.es _ _ (fun L n => some ([.agg [.i .i64 k.t, .i .i64 k.v, .i .i64 k.si, .i .i64 k.st, .s k.sd, .l k.es, .l L], .one (.i .i64 n)], [])) (fun _ _ _ _ _ _ _ _ _ _ _ => rfl) (fun _ _ _ _ _ _ _ _ _ _ _ => rfl) (L2.take stop) (fun r hr => t8 r (List.mem_of_mem_take hr)) (by omega) stop 0 KK K l _ _ hK h80 (by omega) (by rw [KK_eq]; omega)).trans ?_
    rw [writeN_take L2 stop stop 0 K l (by omega)]
theorem sync_implR (k K : KS) (l : List (List D)) (w6 : k.es.length ≤ 1048576) (t6 : ∀ r ∈ k.es, typL shEntry r) (w7 : l.length ≤ 1048576) (t7 : ∀ r ∈ l, typL shRec r) (hv : storeV k l = some K) :
    t35 k.t k.v k.si k.st k.sd k.es l = some ([.agg [.i .i64 K.t, .i .i64 K.v, .i .i64 K.si, .i .i64 K.st, .s K.sd, .l K.es, .l []]], []) := by
  have hI := held_impl k l t6 w6 t7 w7
  simp only [t35, ta35, hI, held_w, held_b, chk_true, hv, Option.isSome_some, Bool.not_true, Bool.false_eq_true, if_false]
  rfl
theorem held_implR (k K : KS) (l : List (List D)) (w6 : k.es.length ≤ 1048576) (t6 : ∀ r ∈ k.es, typL shEntry r) (w7 : l.length ≤ 1048576) (t7 : ∀ r ∈ l, typL shRec r) (hv : storeV k l = some K) :
    t32 k.t k.v k.si k.st k.sd k.es l = some ([.agg (kD K)], []) := by
  have hI := held_impl k l t6 w6 t7 w7
  simp only [t32, ta32, hI, held_w, held_b, chk_true, hv]
  rfl
theorem lose_implR (k K : KS) (l : List (List D)) (n : Int) (w6 : k.es.length ≤ 1048576) (t6 : ∀ r ∈ k.es, typL shEntry r) (w7 : l.length ≤ 1048576) (t7 : ∀ r ∈ l, typL shRec r) (hv : (storeV k l).isSome = true) (hr : runL (l.take (stopN n l.length)) k = some K) :
    t38 k.t k.v k.si k.st k.sd k.es l n = some ([.agg [.i .i64 K.t, .i .i64 K.v, .i .i64 K.si, .i .i64 K.st, .s K.sd, .l K.es, .l []]], []) := by
  have ew2 : ∀ x, okR zr24 zo24 (some ([.one (.b x)], [])) = true := fun _ => rfl
  have eb : ∀ x, asB (resC (some ([.one (.b x)], [])) 0 0) = x := fun _ => rfl
  have wh : ∀ t v si st sd l, okR zr32 zo32 (some ([.agg [.i .i64 t, .i .i64 v, .i .i64 si, .i .i64 st, .s sd, .l l]], [])) = true := fun _ _ _ _ _ _ => rfl
  have hI := storeOk_impl k l t6 w6 t7 w7
  obtain ⟨hstop, hle⟩ := stopN_eq n l.length
  have hV : storeV k (l.take (stopN n l.length)) = some K := by
    rw [storeV_run] at hv ⊢
    split at hv
    · rename_i hc
      simp only [Bool.and_eq_true, decide_eq_true_eq] at hc
      rw [if_pos (by simp only [Bool.and_eq_true, decide_eq_true_eq]; exact ⟨hc.1, by simp; omega⟩)]
      exact hr
    · cases hv
  generalize stopN n l.length = stop at *
  have hH := held_implR k K (l.take stop) w6 t6 (by simp; omega) (fun r hr => t7 r (List.mem_of_mem_take hr)) hV
  have e4 : (if (if (l.length : Int) < n then (l.length : Int) else n) > 0 then (if (l.length : Int) < n then (l.length : Int) else n) else 0) = (stop : Int) := by
    rw [hstop]; split <;> split <;> split <;> (try split) <;> omega
  have e5 : decide (0 ≤ (0 : Int) ∧ (0 : Int) ≤ (stop : Int) ∧ (stop : Int) ≤ (l.length : Int) ∧ (l.getD 0 z38).length = z38.length) = true := by
    refine decide_eq_true ⟨by omega, by omega, by omega, ?_⟩
    cases hes : l with
    | nil => rfl
    | cons x xs =>
      obtain ⟨a, b, c, d, e, rfl, _⟩ := Rec_row (t7 x (by rw [hes]; simp))
      rfl
  simp only [kD] at hH
  simp only [t38, ta38, hI, ew2, eb, hv, chk_true, Bool.not_true, Bool.false_eq_true, if_false, e4, e5, Int.toNat_natCast, show (0 : Int).toNat = 0 from rfl, List.drop_zero, hH, wh]
  rfl
theorem keptStepS (k : KS) (hb : keptK k = true) (h : ∀ r ∈ k.es, typL shEntry r) (hl : k.es.length ≤ 1048576) (r : RC) : t14 k.t k.v k.si k.st k.sd k.es r.k r.t r.i r.v r.d = some ([.agg (kD (stepK k r).1), .one (.b (stepK k r).2)], []) := by
  have ew : ∀ x, okR zr51 zo51 (some ([.one (.b x)], [])) = true := fun _ => rfl
  have eb : ∀ x, asB (resC (some ([.one (.b x)], [])) 0 0) = x := fun _ => rfl
  have wc : ∀ t v si st sd l, okR zr53 zo53 (some ([.agg [.i .i64 t, .i .i64 v, .i .i64 si, .i .i64 st, .s sd, .l l]], [])) = true := fun _ _ _ _ _ _ => rfl
  have ws : ∀ t v si st sd l b, okR zr52 zo52 (some ([.agg [.i .i64 t, .i .i64 v, .i .i64 si, .i .i64 st, .s sd, .l l], .one (.b b)], [])) = true := fun _ _ _ _ _ _ _ => rfl
  obtain ⟨t, v, si, st, sd, l⟩ := k
  have hb : keptB t v si st sd l = true := hb
  have s1 := step_spec ⟨t, v, si, st, sd, l⟩ (keptB_KI h hb) r
  simp only [t14, ta14, keptOk_spec t v si st sd l hl h, ew, eb, chk_true, l3Copy_eq t v si st sd l h hl, wc, hb]
  generalize stepK ⟨t, v, si, st, sd, l⟩ r = res at s1
  obtain ⟨K, b⟩ := res
  simp only [kD] at s1 ⊢
  simp only [Bool.not_true, Bool.false_eq_true, if_false, resC, nthR, cellsDV, nthD, asI, asS, asL, asB, s1, ws, chk_true]
theorem store_loop {l47 : List (List D)} {b48 : Bool} {n49 n50 : Int} {b55 b56 b57 : Bool} {n60 n61 n62 n63 : Int} {s64 : ByteArray} {n65 n66 n67 n68 : Int} {s69 : ByteArray} {n70 n71 n72 n73 : Int} {s74 : ByteArray} {n75 n76 n77 n78 : Int} {s79 : ByteArray} {l86 l87 l88 l89 l90 l91 l92 l93 : List (List D)} {q1 : Int → Bool → Bool → Bool → Int → Int → Int → Int → ByteArray → Int → Int → Int → Int → ByteArray → List (List D) → List (List D) → Rs} {q2 : Int → SV → Bool → SV → Int → Int → Int → Int → ByteArray → List (List D) → Rs} {l85 : List (List D)} {n51 n52 : Int} {R : Rs} {KF : KS} (t8 : ∀ r ∈ l85, typL shRec r) (w8 : l85.length ≤ 1048576) (stop : Nat) (hs : stop ≤ l85.length) (hc : ∀ i : Nat, i ≤ stop → (decide ((i : Int) < n51) && decide ((i : Int) < n52)) = decide (i < stop))
    (h2 : ∀ n v b v', q2 n v b v' KF.t KF.v KF.si KF.st KF.sd KF.es = R) :
    ∀ (c i m : Nat) (k : KS) (u v w : SV), i + c = stop → c < m → KI k → keptK k = true → runL ((l85.drop i).take c) k = some KF →
      la11o3 t14 t22 t31 t32 t35 t38 t42 t43 t46 t47 t48 l47 b48 n49 n50 n51 n52 b55 b56 b57 n60 n61 n62 n63 s64 n65 n66 n67 n68 s69 n70 n71 n72 n73 s74 n75 n76 n77 n78 s79 l85 l86 l87 l88 l89 l90 l91 l92 l93 q1 q2 m (i : Int) u v w k.t k.v k.si k.st k.sd k.es = R := by
  intro c
  induction c with
  | zero =>
    intro i m k u v w e hm hk hkk hr
    obtain ⟨m, rfl⟩ : ∃ m', m = m' + 1 := ⟨m - 1, by omega⟩
    have e1 : decide (i < stop) = false := decide_eq_false (by omega)
    simp only [List.take_zero, runL, Option.some.injEq] at hr
    subst hr
    simp only [la11o3, hc i (by omega), e1, Bool.false_eq_true, if_false]
    exact h2 _ _ _ _
  | succ c ih =>
    intro i m k u v w e hm hk hkk hr
    obtain ⟨m, rfl⟩ : ∃ m', m = m' + 1 := ⟨m - 1, by omega⟩
    have hi : i < l85.length := by omega
    have e1 : decide (i < stop) = true := decide_eq_true (by omega)
    have ht := getD_row t8 hi
    have ez : (decide (5 ≤ (l85.getD i []).length) && isF z38 0 (l85.getD i [])) = true := by
      obtain ⟨a, b, c, d, e, h, _⟩ := Rec_row ht
      rw [h]; rfl
    rw [getD_dropTake hi] at hr
    simp only [runL] at hr
    by_cases hs2 : (stepK k (rcOf (l85.getD i []))).2 = true
    · rw [if_pos hs2] at hr
      have s1 := keptStepS k hkk hk.h3 (by have := hk.h2; omega) (rcOf (l85.getD i []))
      have hk2 := hk.step' (rcOf (l85.getD i []))
      have hkk2 := keptK_step hk hkk hs2
      have ws : ∀ t v si st sd l b, okR zr14 zo14 (some ([.agg [.i .i64 t, .i .i64 v, .i .i64 si, .i .i64 st, .s sd, .l l], .one (.b b)], [])) = true := fun _ _ _ _ _ _ _ => rfl
      have ih' := ih (i + 1) m (stepK k (rcOf (l85.getD i []))).1
      rw [hs2] at s1
      generalize (stepK k (rcOf (l85.getD i []))).1 = K2 at *
      simp only [rcOf, kD] at s1
      have ep : (decide ((0 : Int) ≤ (i : Int)) && decide ((i : Int) < (l85.length : Int))) = true := by rw [decide_eq_true (by omega), decide_eq_true (by omega)]; rfl
      simp only [la11o3, hc i (by omega), e1, if_true, ep, chk_true, Int.toNat_natCast, ez, s1, ws]
      simp only [resC, nthR, cellsDV, nthD, asI, asS, asL, asB, Bool.not_true, Bool.false_eq_true, if_false]
      rw [w64_succ i (by omega)]
      exact ih' _ _ _ (by omega) (by omega) hk2 hkk2 hr
    · rw [if_neg hs2] at hr; cases hr
theorem law11 (x1 : List (List D)) (w1 : x1.length ≤ maxLen) (t1 : ∀ r ∈ x1, typL [.i .u8] r) : t11 x1 = some ([.one (.b true)], []) := by
  have eB : ∀ x, asB (resC (some ([.one (.b x)], [])) 0 0) = x := fun _ => rfl
  have ewb : ∀ x, okR zr43 zo43 (some ([.one (.b x)], [])) = true := fun _ => rfl
  unfold t11 ta11
  by_cases hbg : (x1.length : Int) > 1048576
  · have e58 : t43 x1 = some ([.one (.b true)], []) := by unfold t43; rw [decide_eq_true hbg]
    simp only [e58, ewb, chk_true, eB, if_true]
  have hl : x1.length ≤ 1048576 := by omega
  obtain ⟨a59, K0, hL, B, hM, BM, -⟩ := n47 x1 hl t1
  have e58 : t43 x1 = some ([.one (.b false)], []) := by unfold t43; rw [decide_eq_false hbg]
  have eAt : ∃ a, t48 x1 1 = some ([.one (.i .i64 a)], []) := by
    unfold t48
    by_cases g : (1 : Int) < (x1.length : Int)
    · rw [if_pos (decide_eq_true g)]
      have ey : isRow z5 (x1.getD (1 : Int).toNat []) = true := by
        obtain ⟨_, _, h, ⟨x, rfl, _⟩, rfl⟩ := getD_row t1 (show (1 : Int).toNat < x1.length by omega)
        rw [h]; rfl
      simp only [ey, decide_eq_true g, chk_true, Bool.and_true]
      exact ⟨_, rfl⟩
    · rw [if_neg (by rw [decide_eq_false g]; simp)]
      exact ⟨_, rfl⟩
  obtain ⟨at1, eAt⟩ := eAt
  have ewA : ∀ x, okR zr48 zo48 (some ([.one (.i .i64 x)], [])) = true := fun _ => rfl
  generalize t47 x1 = z at *
  simp only [e58, ewb, eB, a59, chk_true, Bool.false_eq_true, if_false]
  generalize asI (resC z 0 0) = at0 at *
  generalize asI (resC z 0 1) = av at *
  generalize asI (resC z 0 2) = asi at *
  generalize asI (resC z 0 3) = ast at *
  generalize asS (resC z 0 4) = asd at *
  generalize asL (resC z 0 5) = aes at *
  generalize asL (resC z 0 6) = al at *
  generalize asL (resC z 1 0) = l at *
  generalize asI (resC z 2 0) = n at *
  have wa : aes.length ≤ 1048576 := Nat.le_trans K0.2.2.2.2.2.1 (by decide)
  have ta := K0.2.2.2.2.2.2
  have wl : al.length ≤ 1048576 := Nat.le_trans hL (by decide)
  have tl : ∀ r ∈ al, typL shRec r := fun r hr => (B r hr).1
  have wm : l.length ≤ 1048576 := Nat.le_trans hM (by decide)
  have tm : ∀ r ∈ l, typL shRec r := fun r hr => (BM r hr).1
  have wW : ∀ t v si st sd l m n, okR zr42 zo42 (some ([.agg [.i .i64 t, .i .i64 v, .i .i64 si, .i .i64 st, .s sd, .l l, .l m], .one (.i .i64 n)], [])) = true := fun _ _ _ _ _ _ _ _ => rfl
  have wS : ∀ x, okR zr22 zo22 (some ([.one (.b x)], [])) = true := fun _ => rfl
  have wY : ∀ t v si st sd l m, okR zr35 zo35 (some ([.agg [.i .i64 t, .i .i64 v, .i .i64 si, .i .i64 st, .s sd, .l l, .l m]], [])) = true := fun _ _ _ _ _ _ _ => rfl
  have wLo : ∀ t v si st sd l m, okR zr38 zo38 (some ([.agg [.i .i64 t, .i .i64 v, .i .i64 si, .i .i64 st, .s sd, .l l, .l m]], [])) = true := fun _ _ _ _ _ _ _ => rfl
  have wH : ∀ t v si st sd l, okR zr31 zo31 (some ([.agg [.i .i64 t, .i .i64 v, .i .i64 si, .i .i64 st, .s sd, .l l]], [])) = true := fun _ _ _ _ _ _ => rfl
  have wHi : ∀ t v si st sd l, okR zr32 zo32 (some ([.agg [.i .i64 t, .i .i64 v, .i .i64 si, .i .i64 st, .s sd, .l l]], [])) = true := fun _ _ _ _ _ _ => rfl
  have wK : ∀ x, okR zr46 zo46 (some ([.one (.b x)], [])) = true := fun _ => rfl
  obtain ⟨hWn, hWs⟩ := write_implR ⟨at0, av, asi, ast, asd, aes⟩ al l n wa ta wl tl wm tm
  have hO := storeOk_spec ⟨at0, av, asi, ast, asd, aes⟩ al ta wa tl wl
  simp only at hWn hWs hO
  cases hv : storeV ⟨at0, av, asi, ast, asd, aes⟩ al with
  | none =>
    simp only [hWn hv, hO, hv, wW, wS, eB, chk_true, Option.isSome_none, Bool.not_false, if_true]
    rfl
  | some K =>
    obtain ⟨hk0, hKI, hkK⟩ := storeV_keep ta hv
    have h80 := (storeV_KI ta hv).2.2
    obtain ⟨hst, hsl⟩ := stopN_eq n l.length
    have hW1 := hWs K hv
    obtain ⟨j1, hj1, ew1, ⟨Kx, hrx⟩, h81⟩ := writeN_run l (stopN n l.length) 0 K al (by omega) h80
    obtain ⟨j2, hj2, ew2, ⟨Kz, hrz⟩, h82⟩ := writeN_run l (stopN n l.length) 0 K [] (by omega) (by decide)
    simp only [List.drop_zero, Nat.zero_add, List.nil_append] at hrx hrz ew1 ew2
    rw [ew1] at hW1
    have tK := hKI.h3
    have wK6 : K.es.length ≤ 1048576 := by have := hKI.h2; omega
    have hvy := storeV_nil hkK
    have hW2 := (write_implR K [] l n wK6 tK (by decide) (fun r h => by cases h) wm tm).2 K hvy
    rw [ew2] at hW2
    have hY := sync_implR ⟨at0, av, asi, ast, asd, aes⟩ K al wa ta wl tl hv
    have tj1 : ∀ r ∈ l.take j1, typL shRec r := fun r hr => tm r (List.mem_of_mem_take hr)
    have tj2 : ∀ r ∈ l.take j2, typL shRec r := fun r hr => tm r (List.mem_of_mem_take hr)
    have wj2 : (l.take j2).length ≤ 1048576 := by simp; omega
    have wx : (al ++ l.take j1).length ≤ 1048576 := by simp; omega
    have tx : ∀ r ∈ al ++ l.take j1, typL shRec r := fun r hr => by
      rcases List.mem_append.1 hr with hr | hr
      · exact tl r hr
      · exact tj1 r hr
    have hvx := storeV_app hv hrx (by simp; omega)
    have hvz := storeV_app hvy hrz (by simp; omega)
    rw [List.nil_append] at hvz
    have hHy := held_spec K [] tK wK6 (fun r h => by cases h) (by decide)
    have hHs := held_spec ⟨at0, av, asi, ast, asd, aes⟩ al ta wa tl wl
    have hHz := held_implR K Kz (l.take j2) wK6 tK wj2 tj2 hvz
    have hYz := sync_implR K Kz (l.take j2) wK6 tK wj2 tj2 hvz
    have hOx := storeOk_spec ⟨at0, av, asi, ast, asd, aes⟩ (al ++ l.take j1) ta wa tx wx
    have hOz := storeOk_spec K (l.take j2) tK wK6 tj2 wj2
    generalize hkp : at1.tmod 7 = keep at *
    obtain ⟨KF, hF⟩ := runL_take (stopN keep (l.take j2).length) hrz
    have hLo := lose_implR K KF (l.take j2) keep wK6 tK wj2 tj2 (by rw [hvz]; rfl) hF
    have hS1 := sameKept_self K tK wK6
    obtain ⟨hKIF, hkF⟩ := runL_keep _ _ _ hKI hkK hF
    have hS2 := sameKept_self KF hKIF.h3 (by have := hKIF.h2; omega)
    obtain ⟨hKIz, hkz⟩ := runL_keep _ _ _ hKI hkK hrz
    have hS3 := sameKept_self Kz hKIz.h3 (by have := hKIz.h2; omega)
    simp only [hv, hvy, hvx, hvz, Option.isSome_some, heldS, kD] at hO hW1 hW2 hY hHy hHs hHz hYz hOx hOz hLo
    have hjl : (l.take j2).length = j2 := by simp; omega
    obtain ⟨hs1, hs2⟩ := stopN_eq keep (l.take j2).length
    rw [hjl] at hs1 hs2
    rw [hjl, List.take_take, Nat.min_eq_left hs2] at hF
    simp only [hO, hW1, hW2, hY, hHy, hHs, hHz, hYz, hOx, hOz, hLo, hS1, hS2, hS3, eAt, ewA, wW, wS, wY, wLo, wH, wHi, wK, eB, chk_true, resC, nthR, cellsDV, nthD, asI, asS, asL, asB, Bool.not_true, Bool.false_eq_true, if_false, hkp]
    have eb1 : ((((decide ((j1 : Int) < 0)) || (decide ((j2 : Int) < 0))) || (decide ((j2 : Int) > (l.length : Int)))) || (decide ((j1 : Int) > (l.length : Int)))) = false := by
      rw [decide_eq_false (by omega), decide_eq_false (by omega), decide_eq_false (by omega), decide_eq_false (by omega)]; rfl
    simp only [eb1, Bool.false_eq_true, if_false]
    generalize hstp : stopN keep j2 = stop at *
    refine store_loop (KF := KF) tm wm stop (by omega) (fun i hi => ?_) (fun a b c d => ?_) stop 0 KK K _ _ _ (by omega) (by rw [KK_eq]; omega) hKI hkK hF
    · rw [Bool.eq_iff_iff]; simp only [Bool.and_eq_true, decide_eq_true_eq]
      split at hs1
      · omega
      · split at hs1 <;> omega
    · have eL : (((al ++ l.take j1).length : Int) == w64 ((al.length : Int) + (j1 : Int))) = true := by
        rw [w64_in _ (by omega), beq_iff_eq]; simp; omega
      simp only [hO, hW1, hW2, hY, hHy, hHs, hHz, hYz, hOx, hOz, hLo, hS1, hS2, hS3, wW, wS, wY, wLo, wH, wHi, wK, eB, chk_true, resC, nthR, cellsDV, nthD, asI, asS, asL, asB, Bool.true_or, Bool.and_true, Bool.true_and, if_true, List.length_nil, eL]
      rfl
end Go.Den.L11
