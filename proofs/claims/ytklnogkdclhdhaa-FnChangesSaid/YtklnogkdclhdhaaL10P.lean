/- Plain laws about what the functions compute; no condition. -/
import Derived.Test.YtklnogkdclhdhaaL10Tw
import Derived.IntWalk
set_option linter.unusedVariables false
set_option linter.unusedSimpArgs false
/- How twins are taken apart. -/
namespace Go.Den.L10
open Go Go.IntWalk
theorem chk_true (x : Rs) : chk true x = x := rfl
theorem chk_ok {b : Bool} (h : b = true) (x : Rs) : chk b x = x := by rw [h]; rfl
attribute [simp] chk_true okR isVs isV isD isDs isOs resC outC nthR nthO cellsDV nthD asB asI asS asL
theorem ite_not {α : Type} (a b : Bool) (h : a = !b) (x y : α) : (if a = true then x else y) = (if b = true then y else x) := by
  subst h; cases b <;> rfl
theorem bool_some (a b : Bool) (h : a = b) : (some ([DV.one (.b a)], ([] : List (List D))) : Rs) = some ([.one (.b b)], []) := by rw [h]
theorem nil_toList : (⟨#[]⟩ : ByteArray).toList = [] := by rw [ByteArray.toList_eq]
theorem toList_nil (s : ByteArray) : s.toList = [] ↔ (s.size : Int) = 0 := by
  have e : s.size = s.data.toList.length := by rw [Array.length_toList]; rfl
  rw [ByteArray.toList_eq, e]
  cases s.data.toList <;> simp <;> omega
theorem toList_isEmpty (s : ByteArray) : s.toList.isEmpty = decide ((s.size : Int) = 0) := by
  rw [Bool.eq_iff_iff, List.isEmpty_iff, toList_nil]; simp
attribute [simp] nil_toList toList_nil toList_isEmpty
theorem KK_eq : KK = 18446744073709551616 := Classical.choose_spec (⟨2 ^ 64, rfl⟩ : ∃ n : Nat, n = 2 ^ 64)
theorem w64_in (n : Int) (h : -9223372036854775808 ≤ n ∧ n ≤ 9223372036854775807) : w64 n = n := i64_in n h
theorem getD_in {l : List (List D)} {i : Nat} (hi : i < l.length) : l.getD i [] = l[i] := by simp [List.getD, hi]
theorem getD_row {l : List (List D)} {es : List Sh} (h : ∀ r ∈ l, typL es r) {i : Nat} (hi : i < l.length) : typL es (l.getD i []) := by
  rw [getD_in hi]; exact h _ (List.getElem_mem hi)
theorem w64_succ (i : Nat) (h : i < 4611686018427387904) : w64 ((i : Int) + 1) = ((i + 1 : Nat) : Int) := by
  rw [w64_in _ (by omega)]; rfl
theorem within_eq (a b c : Int) : t76 a b c = some ([.one (.b (decide (b ≤ a) && decide (a ≤ c)))], []) := rfl
theorem in_eq (a b c : Int) : t83 a b c = some ([.one (.b (decide (b ≤ a) && decide (a ≤ c)))], []) := rfl
end Go.Den.L10

/- Sizes; copies of rows. -/
namespace Go.Den.L10
open Go
mutual
/-- What was found small enough. -/
def szdD : Sh → D → Prop
  | .b, _ => True
  | .i _, _ => True
  | .s, d => (asS d).size ≤ 1048576
  | .l es, d => (asL d).length ≤ 1048576 ∧ ∀ r ∈ asL d, szdL es r
def szdL : List Sh → List D → Prop
  | [], _ => True
  | e :: es, ds => szdD e (nthD ds 0) ∧ szdL es ds.tail
end
theorem mem_getD {l : List (List D)} {i : Nat} (h : i < l.length) : l.getD i [] ∈ l := by rw [getD_in h]; exact List.getElem_mem h
theorem nat_in {i n : Nat} (h : i < n) : decide ((i : Int) < (n : Int)) = true := by simp; omega
theorem nat_pos (i : Nat) : decide ((0 : Int) ≤ (i : Int)) = true := by simp
end Go.Den.L10

/- Types Snap Entry EntryS Kept Rec RecS Store Dirent DirentS Inode InodeS Vol IntS Cred Call Result Note NoteS Session SessionS Tenant TenantS Slot SlotS Msg MsgS Core: sizes, copies, likeness (printed by fam.py). -/
namespace Go.Den.L10
open Go
abbrev shEntry : List Sh := [.i .i64, .s]
theorem Entry_row {r : List D} (h : typL shEntry r) : ∃ x1 x2, r = [.i .i64 x1, .s x2] ∧ x2.size ≤ maxLen := by
  obtain ⟨_, _, rfl, ⟨x1, rfl, _⟩, ⟨_, _, rfl, ⟨x2, rfl, wx2⟩, rfl⟩⟩ := h
  exact ⟨x1, x2, rfl, wx2⟩
end Go.Den.L10

/- Places, batches. -/
namespace Go.Den.L10
open Go
theorem row_in {sh : List Sh} {l : List (List D)} (h : ∀ r ∈ l, typL sh r) (z : List D) (hz : ∀ r, typL sh r → isRow z r = true) (i : Nat) (hi : i < l.length) : isRow z (l.getD i []) = true := hz _ (getD_row h hi)
theorem entry_row : ∀ r, typL shEntry r → isRow z90 r = true := fun r h => by
  obtain ⟨a, b, rfl, _⟩ := Entry_row h; rfl
/-- A batch: terms that do not fall, up to t; none too long. -/
def runB (l : List (List D)) (t : Int) : Nat → Nat → Int → Bool
  | 0, _, _ => true
  | k + 1, i, p => decide (p ≤ asI (nthD (l.getD i []) 0) ∧ asI (nthD (l.getD i []) 0) ≤ t ∧ ((asS (nthD (l.getD i []) 1)).size : Int) ≤ 1600) && runB l t k (i + 1) (asI (nthD (l.getD i []) 0))
/-- A message that may be. -/
def placeB (a b : Int) : Bool := decide ((a = 0 ∧ b = 0) ∨ (1 ≤ a ∧ a ≤ 100000 ∧ 1 ≤ b ∧ b ≤ 100000))
theorem place_spec (a b : Int) : t84 a b = some ([.one (.b (placeB a b))], []) := by
  simp only [t84, ta84, in_eq, zr83, zo83, okR, isVs, isV, isD, isOs, resC, nthR, cellsDV, nthD, asB, Bool.and_true, Bool.true_or, chk_true]
  split <;> (apply bool_some; unfold placeB; rw [Bool.eq_iff_iff]; simp_all; try omega)
end Go.Den.L10

/- Marks. -/
namespace Go.Den.L10
open Go
end Go.Den.L10

/- Marks laid and held. Printed by mark.py. -/
namespace Go.Den.L10
open Go

end Go.Den.L10

/- Kept ones, cores. -/
namespace Go.Den.L10
open Go
def mx (p : Int) : Int := if p < 1 then 1 else p
theorem flat_of {n : Nat} {l : List (List D)} (h : ∀ r ∈ l, (decide (r.length = n) && allSc r) = true) : flatR n l = true := by
  induction l with
  | nil => rfl
  | cons r l ih => simp only [flatR, h r (by simp), ih (fun r hr => h r (by simp [hr])), Bool.and_true]
theorem entry_flat {l : List (List D)} (h : ∀ r ∈ l, typL shEntry r) : flatR 2 l = true := flat_of fun r hr => by
  obtain ⟨a, b, rfl, _⟩ := Entry_row (h r hr); rfl
theorem kept_loopS (n23 n24 n25 n26 : Int) (s27 : ByteArray) (l28 : List (List D)) (b29 b32 : Bool) (t n36 n37 n38 : Int) (s39 : ByteArray) (q1 : Int → Int → Bool → Bool → Int → ByteArray → Rs) (q2 : Int → Int → Bool → SV → Rs) (h1 : ∀ a b c d e f, q1 a b c d e f = some ([.one (.b false)], [])) (h2 : ∀ a b c d, q2 a b c d = some ([.one (.b true)], [])) (l : List (List D)) (h : ∀ r ∈ l, typL shEntry r) (hl : l.length < 4611686018427387904) : ∀ (k i m : Nat) (p : Int) (v w : SV), i + k = l.length → k < m →
    la51o1 t83 t84 n23 n24 n25 n26 s27 l28 b29 b32 t n36 n37 n38 s39 l q1 q2 m p i v w = some ([.one (.b (runB l t k i (mx p)))], []) := by
  intro k
  induction k with
  | zero =>
    intro i m p v w e hm
    obtain ⟨m, rfl⟩ : ∃ m', m = m' + 1 := ⟨m - 1, by omega⟩
    have ei : decide ((i : Int) < (l.length : Int)) = false := by simp; omega
    simp only [la51o1, ei, h2, runB]
    simp
  | succ k ih =>
    intro i m p v w e hm
    obtain ⟨m, rfl⟩ : ∃ m', m = m' + 1 := ⟨m - 1, by omega⟩
    have e1 := nat_in (i := i) (n := l.length) (by omega)
    have ez := row_in h _ entry_row i (by omega)
    simp only [la51o1, e1, nat_pos, Int.toNat_natCast, ez, Bool.and_true, chk_true, if_true, runB]
    rw [w64_succ i (by omega)]
    have hm1 : mx p = if p < 1 then 1 else p := rfl
    by_cases g : mx p ≤ asI (nthD (l.getD i []) 0) ∧ asI (nthD (l.getD i []) 0) ≤ t ∧ ((asS (nthD (l.getD i []) 1)).size : Int) ≤ 1600
    · have g1 : (((decide (asI (nthD (l.getD i []) 0) < 1) || decide (asI (nthD (l.getD i []) 0) < p)) || decide (asI (nthD (l.getD i []) 0) > t)) || decide (((asS (nthD (l.getD i []) 1)).size : Int) > 1600)) = false := by
        simp only [Bool.or_eq_false_iff, decide_eq_false_iff_not]; rw [hm1] at g; split at g <;> omega
      simp only [g1, decide_eq_true g, Bool.true_and, Bool.false_eq_true, if_false]
      have hmx : mx (asI (nthD (l.getD i []) 0)) = asI (nthD (l.getD i []) 0) := by unfold mx; rw [hm1] at g; split at g <;> (rw [if_neg (by omega)])
      have := ih (i + 1) m (asI (nthD (l.getD i []) 0)) (.d (.b true)) (.d (.b false)) (by omega) (by omega)
      rw [hmx] at this
      exact this
    · have g1 : (((decide (asI (nthD (l.getD i []) 0) < 1) || decide (asI (nthD (l.getD i []) 0) < p)) || decide (asI (nthD (l.getD i []) 0) > t)) || decide (((asS (nthD (l.getD i []) 1)).size : Int) > 1600)) = true := by
        simp only [Bool.or_eq_true, decide_eq_true_eq]; rw [hm1] at g; split at g <;> omega
      simp only [g1, if_true, h1, decide_eq_false g, Bool.false_and]
theorem kept_loopI (n26 n27 n28 n29 : Int) (s30 : ByteArray) (l31 : List (List D)) (b32 b34 b35 : Bool) (t n42 n43 n44 : Int) (s45 : ByteArray) (l46 : List (List D)) (q1 : Int → Int → Bool → Bool → Int → ByteArray → Rs) (q2 : Int → Int → Bool → SV → Rs) (g : Bool) (h1 : ∀ a b c d e f, q1 a b c d e f = some ([.one (.b false)], [])) (h2 : ∀ a b c d, q2 a b c d = some ([.one (.b g)], [])) (l : List (List D)) (h : ∀ r ∈ l, typL shEntry r) (hl : l.length < 4611686018427387904) : ∀ (k i m : Nat) (p : Int) (v w : SV), i + k = l.length → k < m →
    la56o2 t76 n26 n27 n28 n29 s30 l31 b32 b34 b35 l (l.length : Int) t n42 n43 n44 s45 l46 q1 q2 m p i v w = some ([.one (.b (runB l t k i p && g))], []) := by
  intro k
  induction k with
  | zero =>
    intro i m p v w e hm
    obtain ⟨m, rfl⟩ : ∃ m', m = m' + 1 := ⟨m - 1, by omega⟩
    have ei : decide ((i : Int) < (l.length : Int)) = false := by simp; omega
    simp only [la56o2, ei, h2, runB]
    simp
  | succ k ih =>
    intro i m p v w e hm
    obtain ⟨m, rfl⟩ : ∃ m', m = m' + 1 := ⟨m - 1, by omega⟩
    have e1 := nat_in (i := i) (n := l.length) (by omega)
    have ez := row_in h _ entry_row i (by omega)
    have ew : ∀ x, okR zr76 zo76 (some ([.one (.b x)], [])) = true := fun _ => rfl
    have eb : ∀ x, asB (resC (some ([.one (.b x)], [])) 0 0) = x := fun _ => rfl
    simp only [la56o2, e1, nat_pos, Int.toNat_natCast, ez, within_eq, ew, eb, Bool.and_true, Bool.true_or, chk_true, if_true, runB]
    rw [w64_succ i (by omega)]
    by_cases g' : p ≤ asI (nthD (l.getD i []) 0) ∧ asI (nthD (l.getD i []) 0) ≤ t ∧ ((asS (nthD (l.getD i []) 1)).size : Int) ≤ 1600
    · have g1 : (decide (((asS (nthD (l.getD i []) 1)).size : Int) > 1600) || !(decide (p ≤ asI (nthD (l.getD i []) 0)) && decide (asI (nthD (l.getD i []) 0) ≤ t))) = false := by
        simp only [Bool.or_eq_false_iff, Bool.not_eq_false', Bool.and_eq_true, decide_eq_false_iff_not, decide_eq_true_eq]; omega
      simp only [g1, decide_eq_true g', Bool.true_and, Bool.false_eq_true, if_false]
      exact ih (i + 1) m _ _ _ (by omega) (by omega)
    · have g1 : (decide (((asS (nthD (l.getD i []) 1)).size : Int) > 1600) || !(decide (p ≤ asI (nthD (l.getD i []) 0)) && decide (asI (nthD (l.getD i []) 0) ≤ t))) = true := by
        simp only [Bool.or_eq_true, Bool.not_eq_true', Bool.and_eq_false_iff, decide_eq_false_iff_not, decide_eq_true_eq]; omega
      simp only [g1, if_true, h1, decide_eq_false g', Bool.false_and]
def keptA (t v si st : Int) (ss : ByteArray) (l : List (List D)) : Bool :=
  decide (0 ≤ t ∧ t ≤ 100000 ∧ -1 ≤ v ∧ v ≤ 4 ∧ (si = 0 → (ss.size : Int) = 0) ∧ (ss.size : Int) ≤ 20000 ∧ st ≤ t ∧ (l.length : Int) ≤ 60 ∧ w64 (si + (l.length : Int)) ≤ 100000) && placeB si st
def keptB (t v si st : Int) (ss : ByteArray) (l : List (List D)) : Bool := keptA t v si st ss l && runB l t l.length 0 (mx st)
theorem keptOk_spec (t v si st : Int) (ss : ByteArray) (l : List (List D)) (hl : l.length ≤ 1048576) (h : ∀ r ∈ l, typL shEntry r) : t51 t v si st ss l = some ([.one (.b (keptB t v si st ss l))], []) := by
  have ew : ∀ x, okR zr83 zo83 (some ([.one (.b x)], [])) = true := fun _ => rfl
  have ew2 : ∀ x, okR zr84 zo84 (some ([.one (.b x)], [])) = true := fun _ => rfl
  have eb : ∀ x, asB (resC (some ([.one (.b x)], [])) 0 0) = x := fun _ => rfl
  have key := fun b29 b32 => kept_loopS t v si st ss l b29 b32 t v si st ss (fun _ _ _ _ _ _ => some ([.one (.b false)], [])) (fun _ _ _ _ => some ([.one (.b true)], [])) (fun _ _ _ _ _ _ => rfl) (fun _ _ _ _ => rfl) l h (by omega) l.length 0 KK st .undef .undef (by omega) (by rw [KK_eq]; omega)
  simp only [t51, ta51, in_eq, place_spec, ew, ew2, eb, Bool.true_or, chk_true]
  rw [ite_not _ (keptA t v si st ss l)]
  · unfold keptB
    cases keptA t v si st ss l
    · rfl
    · refine Eq.trans (key _ _) ?_; simp
  · unfold keptA
    generalize placeB si st = pl
    rw [Bool.eq_iff_iff]
    cases pl <;> simp [-ByteArray.size_eq_zero_iff] <;> try omega
theorem keptOk_impl (t v si st : Int) (ss : ByteArray) (l : List (List D)) (hl : l.length ≤ 1048576) (h : ∀ r ∈ l, typL shEntry r) : t56 t v si st ss l = some ([.one (.b (keptB t v si st ss l))], []) := by
  have ew : ∀ x, okR zr76 zo76 (some ([.one (.b x)], [])) = true := fun _ => rfl
  have eb : ∀ x, asB (resC (some ([.one (.b x)], [])) 0 0) = x := fun _ => rfl
  have key := fun b32 b34 b35 => kept_loopI t v si st ss l b32 b34 b35 t v si st ss l (fun _ _ _ _ _ _ => some ([.one (.b false)], [])) (fun _ _ _ _ => some ([.one (.b (decide (w64 (si + (l.length : Int)) ≤ 100000)))], [])) _ (fun _ _ _ _ _ _ => rfl) (fun _ _ _ _ => rfl) l h (by omega) l.length 0 KK (mx st) .undef .undef (by omega) (by rw [KK_eq]; omega)
  have e : (if st > 1 then st else 1) = mx st := by unfold mx; split <;> split <;> omega
  simp only [t56, ta56, within_eq, ew, eb, Bool.true_or, chk_true, e]
  unfold keptB keptA placeB
  split
  · rename_i g
    apply bool_some
    symm
    rw [Bool.eq_false_iff]
    simp at g ⊢
    omega
  · rename_i g
    split
    · rename_i g2
      apply bool_some
      symm
      rw [Bool.eq_false_iff]
      simp [-ByteArray.size_eq_zero_iff] at g g2 ⊢
      omega
    · rename_i g2
      refine Eq.trans (key _ _ _) ?_
      apply bool_some
      rw [Bool.eq_iff_iff]
      generalize runB l t l.length 0 (mx st) = r
      cases r
      · simp
      · simp [-ByteArray.size_eq_zero_iff] at g g2 ⊢
        omega
end Go.Den.L10

/- Records: are they right, do they fit, what they lead to. -/
namespace Go.Den.L10
open Go
structure KS where
  (t v si st : Int) (sd : ByteArray) (es : List (List D))
structure RC where
  (k t i v : Int) (d : ByteArray)
def kD (k : KS) : List D := [.i .i64 k.t, .i .i64 k.v, .i .i64 k.si, .i .i64 k.st, .s k.sd, .l k.es]
def recOk (r : RC) : Bool :=
  (decide (r.k = 1) && decide (0 ≤ r.t ∧ r.t ≤ 100000 ∧ -1 ≤ r.v ∧ r.v ≤ 4 ∧ r.i = 0 ∧ (r.d.size : Int) = 0)) ||
  (decide (r.k = 2) && decide (1 ≤ r.t ∧ r.t ≤ 100000 ∧ 1 ≤ r.i ∧ r.i ≤ 100000 ∧ r.v = 0 ∧ (r.d.size : Int) ≤ 1600)) ||
  (decide (r.k = 3) && decide (r.t = 0 ∧ 1 ≤ r.i ∧ r.i ≤ 100000 ∧ r.v = 0 ∧ (r.d.size : Int) = 0)) ||
  (decide (r.k = 4) && decide (1 ≤ r.t ∧ r.t ≤ 100000 ∧ 1 ≤ r.i ∧ r.i ≤ 100000 ∧ r.v = 0 ∧ (r.d.size : Int) ≤ 20000))
def lastT (k : KS) : Int := if k.es.length = 0 then k.st else asI (nthD (k.es.getD (k.es.length - 1) []) 0)
def fitsB (k : KS) (r : RC) : Bool :=
  if r.k = 1 then decide (r.t > k.t ∨ (r.t = k.t ∧ (k.v = -1 ∨ r.v = k.v)))
  else if r.k = 2 then decide (r.i = k.si + (k.es.length : Int) + 1 ∧ k.es.length < 60 ∧ lastT k ≤ r.t ∧ r.t ≤ k.t)
  else if r.k = 3 then decide (k.si < r.i ∧ r.i ≤ k.si + (k.es.length : Int))
  else decide (k.si < r.i ∧ r.t ≤ k.t)
def behindA (k : KS) (i t : Int) : List (List D) :=
  if i - k.si ≤ (k.es.length : Int) ∧ asI (nthD (k.es.getD (i - k.si - 1).toNat []) 0) = t then k.es.drop (i - k.si).toNat else []
def stepK (k : KS) (r : RC) : KS × Bool :=
  if recOk r && fitsB k r then
    if r.k = 1 then (⟨r.t, r.v, k.si, k.st, k.sd, k.es⟩, true)
    else if r.k = 2 then (⟨k.t, k.v, k.si, k.st, k.sd, k.es ++ [[.i .i64 r.t, .s r.d]]⟩, true)
    else if r.k = 3 then (⟨k.t, k.v, k.si, k.st, k.sd, k.es.take (r.i - k.si - 1).toNat⟩, true)
    else (⟨k.t, k.v, r.i, r.t, r.d, behindA k r.i r.t⟩, true)
  else (k, false)
/-- What every kept one that is right fulfils. -/
structure KI (k : KS) : Prop where
  h0 : 0 ≤ k.si
  h1 : k.si ≤ 100000
  h2 : k.es.length ≤ 60
  h3 : ∀ r ∈ k.es, typL shEntry r
theorem wfi64 (n : Int) (h : -9223372036854775808 ≤ n ∧ n ≤ 9223372036854775807) : (Lit.int .i64 n).wf = true := by
  have : IntKind.wrap .i64 n = n := w64_in n h
  simp [Lit.wf, this]
  exact h
theorem KI.step {k : KS} (h : KI k) (r : RC) (g : recOk r = true) : KI (stepK k r).1 := by
  unfold stepK
  split
  · rename_i hc
    simp only [Bool.and_eq_true] at hc
    have hf := hc.2
    have hr := hc.1
    simp only [recOk, Bool.or_eq_true, Bool.and_eq_true, decide_eq_true_eq] at hr
    split
    · exact ⟨h.h0, h.h1, h.h2, h.h3⟩
    split
    · rename_i h2
      simp only [fitsB, h2] at hf
      simp at hf
      refine ⟨h.h0, h.h1, by simp; omega, fun x hx => ?_⟩
      rcases List.mem_append.1 hx with hx | hx
      · exact h.h3 x hx
      · simp at hx; subst hx
        have hm : 1600 ≤ maxLen := by decide
        exact ⟨_, _, rfl, ⟨r.t, rfl, wfi64 _ (by omega)⟩, _, _, rfl, ⟨r.d, rfl, by omega⟩, rfl⟩
    split
    · exact ⟨h.h0, h.h1, by have := h.h2; simp; omega, fun x hx => h.h3 x (List.mem_of_mem_take hx)⟩
    · refine ⟨by simp only; omega, by simp only; omega, ?_, fun x hx => ?_⟩
      · have := h.h2
        unfold behindA; split
        · simp; omega
        · simp
      · unfold behindA at hx; split at hx
        · exact h.h3 x (List.mem_of_mem_drop hx)
        · simp at hx
  · exact h
theorem keptB_KI {t v si st : Int} {ss : ByteArray} {l : List (List D)} (h : ∀ r ∈ l, typL shEntry r) (hb : keptB t v si st ss l = true) : KI ⟨t, v, si, st, ss, l⟩ := by
  simp only [keptB, keptA, placeB, Bool.and_eq_true, decide_eq_true_eq] at hb
  exact ⟨by simp only; omega, by simp only; omega, by simp only; omega, h⟩
theorem recOk_spec (a b c d : Int) (e : ByteArray) : t85 a b c d e = some ([.one (.b (recOk ⟨a, b, c, d, e⟩))], []) := by
  simp [-ByteArray.size_eq_zero_iff, t85, ta85, in_eq, zr83, zo83, recOk]
  (repeat' split) <;> (apply bool_some; rw [Bool.eq_iff_iff]; simp [-ByteArray.size_eq_zero_iff]; omega)
theorem recOk_impl (a b c d : Int) (e : ByteArray) : t45 a b c d e = some ([.one (.b (recOk ⟨a, b, c, d, e⟩))], []) := by
  simp [-ByteArray.size_eq_zero_iff, t45, ta45, within_eq, zr76, zo76, recOk]
  (repeat' split) <;> (apply bool_some; rw [Bool.eq_iff_iff]; simp [-ByteArray.size_eq_zero_iff]; omega)
theorem last_row {k : KS} (h : KI k) (hn : ¬ k.es.length = 0) : w64 ((k.es.length : Int) - 1) = ((k.es.length - 1 : Nat) : Int) ∧ (decide ((0 : Int) ≤ ((k.es.length - 1 : Nat) : Int)) && decide (((k.es.length - 1 : Nat) : Int) < (k.es.length : Int)) && isRow z90 (k.es.getD (k.es.length - 1) [])) = true := by
  have := h.h2
  refine ⟨by rw [w64_in _ (by omega)]; omega, ?_⟩
  rw [nat_pos, nat_in (show k.es.length - 1 < k.es.length by omega), row_in h.h3 _ entry_row _ (by omega)]
  rfl
theorem lastT_spec (k : KS) (h : KI k) : t94 k.t k.v k.si k.st k.sd k.es = some ([.one (.i .i64 (lastT k))], []) := by
  unfold t94 lastT
  by_cases hn : k.es.length = 0
  · have e : ((k.es.length : Int) == 0) = true := by simp [hn]
    simp only [e, if_true, if_pos hn]
  · have e : ((k.es.length : Int) == 0) = false := by rw [beq_eq_false_iff_ne]; omega
    obtain ⟨e1, e2⟩ := last_row h hn
    simp only [e, Bool.false_eq_true, if_false, if_neg hn, e1, Int.toNat_natCast, e2, chk_true]
theorem fits_spec (k : KS) (h : KI k) (r : RC) (hr : recOk r = true) : t86 k.t k.v k.si k.st k.sd k.es r.k r.t r.i r.v r.d = some ([.one (.b (fitsB k r))], []) := by
  have h0 := h.h0; have h1 := h.h1; have h2 := h.h2
  have ew : ∀ x, okR zr94 zo94 (some ([.one (.i .i64 x)], [])) = true := fun _ => rfl
  have eb : ∀ x, asI (resC (some ([.one (.i .i64 x)], [])) 0 0) = x := fun _ => rfl
  have e1 : w64 (k.si + (k.es.length : Int)) = k.si + (k.es.length : Int) := w64_in _ (by omega)
  have e2 : w64 (k.si + (k.es.length : Int) + 1) = k.si + (k.es.length : Int) + 1 := w64_in _ (by omega)
  simp only [t86, ta86, lastT_spec k h, ew, eb, e1, e2, Bool.true_or, chk_true, fitsB]
  have hk : r.k = 1 ∨ r.k = 2 ∨ r.k = 3 ∨ r.k = 4 := by
    simp only [recOk, Bool.or_eq_true, Bool.and_eq_true, decide_eq_true_eq] at hr; omega
  rcases hk with hk | hk | hk | hk <;> (simp [hk]; try (rw [Bool.eq_iff_iff]; simp; try omega))
theorem last_implK (k : KS) (h : KI k) : t95 k.t k.v k.si k.st k.sd k.es = some ([.one (.i .i64 (k.si + (k.es.length : Int))), .one (.i .i64 (lastT k))], []) := by
  have h0 := h.h0; have h1 := h.h1; have h2 := h.h2
  have e1 : w64 (k.si + (k.es.length : Int)) = k.si + (k.es.length : Int) := w64_in _ (by omega)
  unfold t95 lastT
  by_cases hn : k.es.length = 0
  · have e : ((k.es.length : Int) == 0) = true := by simp [hn]
    have e0 : k.si + (k.es.length : Int) = k.si := by omega
    simp only [e, if_true, if_pos hn, e0]
  · have e : ((k.es.length : Int) == 0) = false := by rw [beq_eq_false_iff_ne]; omega
    obtain ⟨e3, e2⟩ := last_row h hn
    simp only [e, Bool.false_eq_true, if_false, if_neg hn, e1, e3, Int.toNat_natCast, e2, chk_true]
theorem fits_impl (k : KS) (h : KI k) (r : RC) (hr : recOk r = true) : t88 k.t k.v k.si k.st k.sd k.es r.k r.t r.i r.v r.d = some ([.one (.b (fitsB k r))], []) := by
  have h0 := h.h0; have h1 := h.h1; have h2 := h.h2
  have ew : ∀ x y, okR zr95 zo95 (some ([.one (.i .i64 x), .one (.i .i64 y)], [])) = true := fun _ _ => rfl
  have eb : ∀ x y, asI (resC (some ([.one (.i .i64 x), .one (.i .i64 y)], [])) 0 0) = x := fun _ _ => rfl
  have ec : ∀ x y, asI (resC (some ([.one (.i .i64 x), .one (.i .i64 y)], [])) 1 0) = y := fun _ _ => rfl
  have ew2 : ∀ x, okR zr76 zo76 (some ([.one (.b x)], [])) = true := fun _ => rfl
  have eb2 : ∀ x, asB (resC (some ([.one (.b x)], [])) 0 0) = x := fun _ => rfl
  have e2 : w64 (k.si + (k.es.length : Int) + 1) = k.si + (k.es.length : Int) + 1 := w64_in _ (by omega)
  have e3 : w64 (k.si + 1) = k.si + 1 := w64_in _ (by omega)
  simp only [t88, ta88, last_implK k h, within_eq, ew, eb, ec, ew2, eb2, e2, e3, Bool.true_or, chk_true, fitsB]
  have hk : r.k = 1 ∨ r.k = 2 ∨ r.k = 3 ∨ r.k = 4 := by
    simp only [recOk, Bool.or_eq_true, Bool.and_eq_true, decide_eq_true_eq] at hr; omega
  rcases hk with hk | hk | hk | hk <;> (simp [hk]; try (rw [Bool.eq_iff_iff]; simp; try omega))
theorem eflat1 (t : Int) (d : ByteArray) (l : List (List D)) (h : l.length ≤ 60) : ((flatR 2 [[.i .i64 t, .s d]]) && decide (l.length + [[D.i .i64 t, D.s d]].length ≤ lim)) = true := by
  have : l.length + 1 ≤ lim := by unfold lim; omega
  simpa [flatR, allSc, isSc] using this
theorem edrop {k : KS} (h : KI k) (n : Nat) : flatR 2 (k.es.drop n) = true := entry_flat fun r hr => h.h3 r (List.mem_of_mem_drop hr)
theorem step_spec (k : KS) (h : KI k) (r : RC) : t52 k.t k.v k.si k.st k.sd k.es r.k r.t r.i r.v r.d = some ([.agg (kD (stepK k r).1), .one (.b (stepK k r).2)], []) := by
  have h0 := h.h0; have h1 := h.h1; have h2 := h.h2
  have ew : ∀ x, okR zr85 zo85 (some ([.one (.b x)], [])) = true := fun _ => rfl
  have ew2 : ∀ x, okR zr86 zo86 (some ([.one (.b x)], [])) = true := fun _ => rfl
  have eb : ∀ x, asB (resC (some ([.one (.b x)], [])) 0 0) = x := fun _ => rfl
  simp only [t52, ta52, recOk_spec, ew, eb, chk_true]
  unfold stepK
  cases hr : recOk r
  · simp only [Bool.not_false, Bool.not_true, Bool.or_true, Bool.true_or, chk_true, if_true, Bool.false_and, Bool.false_eq_true, if_false]
    rfl
  · simp only [fits_spec k h r hr, ew2, eb, Bool.not_true, Bool.not_false, Bool.or_true, Bool.true_or, Bool.false_or, Bool.true_and, chk_true]
    cases hf : fitsB k r
    · simp only [Bool.not_false, if_true, Bool.false_eq_true, if_false]
      rfl
    · simp only [Bool.not_true, Bool.false_eq_true, if_false, if_true]
      have hr' := hr
      simp only [recOk, Bool.or_eq_true, Bool.and_eq_true, decide_eq_true_eq] at hr'
      have hk : r.k = 1 ∨ r.k = 2 ∨ r.k = 3 ∨ r.k = 4 := by omega
      rcases hk with hk | hk | hk | hk
      · simp only [hk]; rfl
      · have g1 : (r.k == 1) = false := by rw [hk]; rfl
        have g2 : (r.k == 2) = true := by rw [hk]; rfl
        simp only [g1, g2, Bool.false_eq_true, if_false, if_true, eflat1 _ _ _ h2, chk_true, if_neg (show ¬ r.k = 1 by omega), if_pos hk]
        rfl
      · have g1 : (r.k == 1) = false := by rw [hk]; rfl
        have g2 : (r.k == 2) = false := by rw [hk]; rfl
        have g3 : (r.k == 3) = true := by rw [hk]; rfl
        have hf' : k.si < r.i ∧ r.i ≤ k.si + (k.es.length : Int) := by simpa [fitsB, hk] using hf
        have e1 : w64 (w64 (r.i - k.si) - 1) = r.i - k.si - 1 := by rw [w64_in (r.i - k.si) (by omega), w64_in _ (by omega)]
        have e2 : decide (0 ≤ r.i - k.si - 1 ∧ r.i - k.si - 1 ≤ (k.es.length : Int)) = true := decide_eq_true (by omega)
        simp only [g1, g2, g3, Bool.false_eq_true, if_false, if_true, e1, e2, chk_true, if_neg (show ¬ r.k = 1 by omega), if_neg (show ¬ r.k = 2 by omega), if_pos hk]
        rfl
      · have g1 : (r.k == 1) = false := by rw [hk]; rfl
        have g2 : (r.k == 2) = false := by rw [hk]; rfl
        have g3 : (r.k == 3) = false := by rw [hk]; rfl
        have hf' : k.si < r.i ∧ r.t ≤ k.t := by simpa [fitsB, hk] using hf
        have eB : t65 k.t k.v k.si k.st k.sd k.es r.i r.t = some ([.one (.l (behindA k r.i r.t))], []) := by
          have e1 : w64 (r.i - k.si) = r.i - k.si := w64_in _ (by omega)
          have e2 : w64 (r.i - k.si - 1) = r.i - k.si - 1 := w64_in _ (by omega)
          have e3 : decide (r.i - k.si ≥ 1) = true := decide_eq_true (by omega)
          simp only [t65, e1, e2, e3, Bool.true_and, behindA]
          by_cases hl : r.i - k.si ≤ (k.es.length : Int)
          · have e4 : decide (r.i - k.si ≤ (k.es.length : Int)) = true := decide_eq_true hl
            have e5 : (decide (0 ≤ r.i - k.si - 1) && decide (r.i - k.si - 1 < (k.es.length : Int)) && isRow z90 (k.es.getD (r.i - k.si - 1).toNat [])) = true := by
              rw [decide_eq_true (by omega), decide_eq_true (by omega), row_in h.h3 _ entry_row _ (by omega)]; rfl
            have e6 : decide (0 ≤ r.i - k.si ∧ r.i - k.si ≤ (k.es.length : Int) ∧ (k.es.getD 0 z90).length = z90.length) = true := by
              refine decide_eq_true ⟨by omega, hl, ?_⟩
              cases hes : k.es with
              | nil => rfl
              | cons x xs =>
                have := h.h3 x (by rw [hes]; simp)
                obtain ⟨a, b, rfl, _⟩ := Entry_row this
                rfl
            have e7 : ((flatR 2 (k.es.drop (r.i - k.si).toNat)) && decide (([] : List (List D)).length + (k.es.drop (r.i - k.si).toNat).length ≤ lim)) = true := by
              rw [edrop h, decide_eq_true (by unfold lim; simp; omega)]; rfl
            simp only [e4, e5, e6, e7, Bool.true_and, Bool.true_or, chk_true, List.nil_append]
            by_cases ht : asI (nthD (k.es.getD (r.i - k.si - 1).toNat []) 0) = r.t
            · rw [if_pos (by simpa using ht), if_pos ⟨hl, ht⟩]
            · rw [if_neg (by simpa using ht), if_neg (fun x => ht x.2)]
          · have e4 : decide (r.i - k.si ≤ (k.es.length : Int)) = false := decide_eq_false hl
            simp only [e4, Bool.not_false, Bool.or_true, chk_true, Bool.false_and, Bool.false_eq_true, if_false]
            rw [if_neg (fun x => hl x.1)]
        have ew3 : ∀ x, okR zr65 zo65 (some ([.one (.l x)], [])) = true := fun _ => rfl
        have eb3 : ∀ x, asL (resC (some ([.one (.l x)], [])) 0 0) = x := fun _ => rfl
        simp only [g1, g2, g3, Bool.false_eq_true, if_false, eB, ew3, eb3, chk_true, if_neg (show ¬ r.k = 1 by omega), if_neg (show ¬ r.k = 2 by omega), if_neg (show ¬ r.k = 3 by omega)]
        rfl
theorem step_impl (k : KS) (h : KI k) (r : RC) : t58 k.t k.v k.si k.st k.sd k.es r.k r.t r.i r.v r.d = some ([.one (.b (stepK k r).2)], [kD (stepK k r).1]) := by
  have h0 := h.h0; have h1 := h.h1; have h2 := h.h2
  have ew : ∀ x, okR zr45 zo45 (some ([.one (.b x)], [])) = true := fun _ => rfl
  have ew2 : ∀ x, okR zr88 zo88 (some ([.one (.b x)], [])) = true := fun _ => rfl
  have eb : ∀ x, asB (resC (some ([.one (.b x)], [])) 0 0) = x := fun _ => rfl
  simp only [t58, ta58, recOk_impl, ew, eb, chk_true]
  unfold stepK
  cases hr : recOk r
  · simp only [Bool.not_false, Bool.not_true, Bool.or_true, Bool.true_or, chk_true, if_true, Bool.false_and, Bool.false_eq_true, if_false]
    rfl
  · simp only [fits_impl k h r hr, ew2, eb, Bool.not_true, Bool.not_false, Bool.or_true, Bool.true_or, Bool.false_or, Bool.true_and, chk_true]
    cases hf : fitsB k r
    · simp only [Bool.not_false, if_true, Bool.false_eq_true, if_false]
      rfl
    · simp only [Bool.not_true, Bool.false_eq_true, if_false, if_true]
      have hr' := hr
      simp only [recOk, Bool.or_eq_true, Bool.and_eq_true, decide_eq_true_eq] at hr'
      have hk : r.k = 1 ∨ r.k = 2 ∨ r.k = 3 ∨ r.k = 4 := by omega
      rcases hk with hk | hk | hk | hk
      · simp only [hk]; rfl
      · have g1 : (r.k == 1) = false := by rw [hk]; rfl
        have g2 : (r.k == 2) = true := by rw [hk]; rfl
        simp only [g1, g2, Bool.false_eq_true, if_false, if_true, eflat1 _ _ _ h2, chk_true, if_neg (show ¬ r.k = 1 by omega), if_pos hk]
        rfl
      · have g1 : (r.k == 1) = false := by rw [hk]; rfl
        have g2 : (r.k == 2) = false := by rw [hk]; rfl
        have g3 : (r.k == 3) = true := by rw [hk]; rfl
        have hf' : k.si < r.i ∧ r.i ≤ k.si + (k.es.length : Int) := by simpa [fitsB, hk] using hf
        have e1 : w64 (w64 (r.i - k.si) - 1) = r.i - k.si - 1 := by rw [w64_in (r.i - k.si) (by omega), w64_in _ (by omega)]
        have e2 : decide (0 ≤ r.i - k.si - 1 ∧ r.i - k.si - 1 ≤ (k.es.length : Int) ∧ True) = true := decide_eq_true ⟨by omega, by omega, trivial⟩
        simp only [g1, g2, g3, Bool.false_eq_true, if_false, if_true, e1, e2, chk_true, if_neg (show ¬ r.k = 1 by omega), if_neg (show ¬ r.k = 2 by omega), if_pos hk]
        rfl
      · have g1 : (r.k == 1) = false := by rw [hk]; rfl
        have g2 : (r.k == 2) = false := by rw [hk]; rfl
        have g3 : (r.k == 3) = false := by rw [hk]; rfl
        have hf' : k.si < r.i ∧ r.t ≤ k.t := by simpa [fitsB, hk] using hf
        have e1 : w64 (r.i - k.si) = r.i - k.si := w64_in _ (by omega)
        have e2 : w64 (r.i - k.si - 1) = r.i - k.si - 1 := w64_in _ (by omega)
        simp only [g1, g2, g3, Bool.false_eq_true, if_false, e1, e2, if_neg (show ¬ r.k = 1 by omega), if_neg (show ¬ r.k = 2 by omega), if_neg (show ¬ r.k = 3 by omega), behindA]
        by_cases hl : r.i - k.si ≤ (k.es.length : Int)
        · have e4 : decide (r.i - k.si ≤ (k.es.length : Int)) = true := decide_eq_true hl
          have e5 : (decide (0 ≤ r.i - k.si - 1) && decide (r.i - k.si - 1 < (k.es.length : Int))) = true := by
            rw [decide_eq_true (by omega), decide_eq_true (by omega)]; rfl
          have e6 : (decide (1 ≤ (k.es.getD (r.i - k.si - 1).toNat []).length) && isF z3 0 (k.es.getD (r.i - k.si - 1).toNat [])) = true := by
            obtain ⟨a, b, he, _⟩ := Entry_row (getD_row h.h3 (i := (r.i - k.si - 1).toNat) (by omega))
            rw [he]; rfl
          have e8 : decide (0 ≤ r.i - k.si ∧ r.i - k.si ≤ (k.es.length : Int)) = true := decide_eq_true (by omega)
          have e7 : ((flatR 2 (k.es.drop (r.i - k.si).toNat)) && decide ((k.es.drop (r.i - k.si).toNat).length ≤ lim)) = true := by
            rw [edrop h, decide_eq_true (by unfold lim; simp; omega)]; rfl
          simp only [e4, e5, e6, e7, e8, Bool.true_and, Bool.true_or, chk_true]
          by_cases ht : asI (nthD (k.es.getD (r.i - k.si - 1).toNat []) 0) = r.t
          · rw [if_pos (by simpa using ht), if_pos ⟨hl, ht⟩]; rfl
          · rw [if_neg (by simpa using ht), if_neg (fun x => ht x.2)]; rfl
        · have e4 : decide (r.i - k.si ≤ (k.es.length : Int)) = false := decide_eq_false hl
          simp only [e4, Bool.not_false, Bool.or_true, chk_true, Bool.false_and, Bool.false_eq_true, if_false]
          rw [if_neg (fun x => hl x.1)]; rfl
end Go.Den.L10

/- A kept one's step. -/
namespace Go.Den.L10
open Go
theorem copy_flat {l : List (List D)} (h : ∀ r ∈ l, typL shEntry r) (hl : l.length ≤ 1048576) : ((flatR 2 l) && decide (([] : List (List D)).length + l.length ≤ lim)) = true ∧ ((flatR 2 l) && decide (l.length ≤ lim)) = true := by
  have e : decide (l.length ≤ lim) = true := decide_eq_true (by unfold lim; omega)
  have e2 : decide (([] : List (List D)).length + l.length ≤ lim) = true := decide_eq_true (by unfold lim; simp; omega)
  rw [entry_flat h, e, e2]; exact ⟨rfl, rfl⟩
theorem l3Copy_eq (t v si st : Int) (sd : ByteArray) (l : List (List D)) (h : ∀ r ∈ l, typL shEntry r) (hl : l.length ≤ 1048576) : t53 t v si st sd l = some ([.agg [.i .i64 t, .i .i64 v, .i .i64 si, .i .i64 st, .s sd, .l l]], []) := by
  simp only [t53, (copy_flat h hl).1, chk_true, List.nil_append]
theorem copyKept_eq (t v si st : Int) (sd : ByteArray) (l : List (List D)) (h : ∀ r ∈ l, typL shEntry r) (hl : l.length ≤ 1048576) : t57 t v si st sd l = some ([.agg [.i .i64 t, .i .i64 v, .i .i64 si, .i .i64 st, .s sd, .l l]], []) := by
  simp only [t57, (copy_flat h hl).2, chk_true]
theorem step_norec (k : KS) (r : RC) (g : recOk r = false) : stepK k r = (k, false) := by
  unfold stepK; rw [g]; rfl
theorem KI.step' {k : KS} (h : KI k) (r : RC) : KI (stepK k r).1 := by
  cases g : recOk r
  · rw [step_norec k r g]; exact h
  · exact h.step r g
end Go.Den.L10

/- Stores: what they come to. -/
namespace Go.Den.L10
open Go
def rcOf (r : List D) : RC := ⟨asI (nthD r 0), asI (nthD r 1), asI (nthD r 2), asI (nthD r 3), asS (nthD r 4)⟩
/-- c records from number i on, each of them fitting. -/
def foldN (l : List (List D)) : Nat → Nat → KS → Option KS
  | 0, _, k => some k
  | c + 1, i, k => if (stepK k (rcOf (l.getD i []))).2 then foldN l c (i + 1) (stepK k (rcOf (l.getD i []))).1 else none
theorem foldN_add (l : List (List D)) : ∀ (c d i : Nat) (k : KS), foldN l (c + d) i k = (foldN l c i k).bind (foldN l d (i + c))
  | 0, d, i, k => by simp [foldN]
  | c + 1, d, i, k => by
    rw [show c + 1 + d = (c + d) + 1 by omega]
    simp only [foldN]
    split
    · rw [foldN_add l c d (i + 1)]; rw [show i + 1 + c = i + (c + 1) by omega]
    · rfl
theorem foldN_app (a b : List (List D)) : ∀ (c i : Nat) (k : KS), i + c ≤ a.length → foldN (a ++ b) c i k = foldN a c i k
  | 0, _, k, _ => rfl
  | c + 1, i, k, h => by
    have e : (a ++ b).getD i [] = a.getD i [] := by simp [List.getD, List.getElem?_append, show i < a.length by omega]
    simp only [foldN, e]
    split
    · exact foldN_app a b c (i + 1) _ (by omega)
    · rfl
end Go.Den.L10

/- What is written into stores. -/
namespace Go.Den.L10
open Go
end Go.Den.L10

/- What leads from one kept state to another. -/
namespace Go.Den.L10
open Go
def rcD (r : RC) : List D := [.i .i64 r.k, .i .i64 r.t, .i .i64 r.i, .i .i64 r.v, .s r.d]
theorem foldN_snoc (L : List (List D)) (r : List D) (a : KS) : foldN (L ++ [r]) (L.length + 1) 0 a = (foldN L L.length 0 a).bind fun K => if (stepK K (rcOf r)).2 then some (stepK K (rcOf r)).1 else none := by
  have e : (L ++ [r]).getD (0 + L.length) [] = r := by simp [List.getD]
  rw [foldN_add, foldN_app L [r] L.length 0 a (by omega)]
  cases foldN L L.length 0 a with
  | none => rfl
  | some K => simp only [Option.bind_some, foldN, e]
theorem foldN_none (L M : List (List D)) (a : KS) (h : foldN L L.length 0 a = none) : foldN (L ++ M) (L ++ M).length 0 a = none := by
  rw [List.length_append, foldN_add, foldN_app L M L.length 0 a (by omega), h]; rfl
/-- Records are noted: what they lead to; does one not fit; the records. -/
structure NoteI (a k : KS) (bad : Bool) (L : List (List D)) : Prop where
  ki : KI k
  ok : bad = false → foldN L L.length 0 a = some k
  no : bad = true → foldN L L.length 0 a = none
  rc : ∀ r ∈ L, ∃ x, r = rcD x
theorem snoc_rc {L : List (List D)} (h : ∀ r ∈ L, ∃ x, r = rcD x) (x : RC) : ∀ r ∈ L ++ [rcD x], ∃ x, r = rcD x := fun r hr => by
  rcases List.mem_append.1 hr with hr | hr
  · exact h r hr
  · simp only [List.mem_singleton] at hr; exact ⟨x, hr⟩
theorem rcD_chk {L : List (List D)} (r : RC) (hL : L.length ≤ 1000) : ((flatR 5 [rcD r]) && decide (L.length + [rcD r].length ≤ lim)) = true := by
  have e : decide (L.length + [rcD r].length ≤ lim) = true := decide_eq_true (by unfold lim; simp; omega)
  rw [e]; rfl
def noteR (k : KS) (L : List (List D)) (bad : Bool) : Rs := some ([], [[.i .i64 k.t, .i .i64 k.v, .i .i64 k.si, .i .i64 k.st, .s k.sd, .l k.es, .l L, .b bad]])
theorem note_w (k : KS) (L : List (List D)) (b : Bool) : okR zr90 zo90 (noteR k L b) = true := rfl
theorem note_o (K : KS) (L : List (List D)) (b : Bool) : asI (outC (noteR K L b) 0 0) = K.t ∧ asI (outC (noteR K L b) 0 1) = K.v ∧ asI (outC (noteR K L b) 0 2) = K.si ∧ asI (outC (noteR K L b) 0 3) = K.st ∧ asS (outC (noteR K L b) 0 4) = K.sd ∧ asL (outC (noteR K L b) 0 5) = K.es ∧ asL (outC (noteR K L b) 0 6) = L ∧ asB (outC (noteR K L b) 0 7) = b := ⟨rfl, rfl, rfl, rfl, rfl, rfl, rfl, rfl⟩
theorem note_eq {a k : KS} {bad : Bool} {L : List (List D)} (h : NoteI a k bad L) (hL : L.length ≤ 1000) (r : RC) : ∃ k' bad', t90 k.t k.v k.si k.st k.sd k.es L bad r.k r.t r.i r.v r.d = noteR k' (L ++ [rcD r]) bad' ∧ NoteI a k' bad' (L ++ [rcD r]) ∧ (bad = true → bad' = true) ∧ (bad' = false → k' = (stepK k r).1 ∧ fitsB k r = true ∧ recOk r = true) := by
  have ws : ∀ t v si st sd l b, okR zr58 zo58 (some ([.one (.b b)], [[.i .i64 t, .i .i64 v, .i .i64 si, .i .i64 st, .s sd, .l l]])) = true := fun _ _ _ _ _ _ _ => rfl
  have hl : (L ++ [rcD r]).length = L.length + 1 := by simp
  have ec : ((flatR 5 [[D.i .i64 r.k, .i .i64 r.t, .i .i64 r.i, .i .i64 r.v, .s r.d]]) && decide (L.length + [[D.i .i64 r.k, .i .i64 r.t, .i .i64 r.i, .i .i64 r.v, .s r.d]].length ≤ lim)) = true := rcD_chk r hL
  cases bad with
  | false =>
    have s1 := step_impl k h.ki r
    have hk2 := h.ki.step' r
    have hf : foldN (L ++ [rcD r]) (L ++ [rcD r]).length 0 a = if (stepK k r).2 then some (stepK k r).1 else none := by
      rw [hl, foldN_snoc, h.ok rfl]; rfl
    have hst : (stepK k r).2 = true → fitsB k r = true ∧ recOk r = true := fun hs => by
      unfold stepK at hs
      split at hs
      · rename_i hc; simp only [Bool.and_eq_true] at hc; exact ⟨hc.2, hc.1⟩
      · cases hs
    rcases hr : stepK k r with ⟨⟨t, vv, si, st, sd, es⟩, b⟩
    rw [hr] at s1 hk2 hf hst
    simp only [kD] at s1
    refine ⟨⟨t, vv, si, st, sd, es⟩, !b, ?_, ⟨hk2, fun hb => ?_, fun hb => ?_, snoc_rc h.rc r⟩, fun hb => (by cases hb), fun hb => ⟨rfl, hst (by simpa using hb)⟩⟩
    · simp only [t90, ta90, Bool.not_false, if_true, s1, ws, ec, chk_true]
      simp only [resC, outC, nthR, nthO, cellsDV, nthD, asI, asS, asL, asB, Bool.false_or]
      rfl
    · cases b
      · cases hb
      · rw [hf]; rfl
    · cases b
      · rw [hf]; rfl
      · cases hb
  | true =>
    refine ⟨k, true, ?_, ⟨h.ki, fun hb => (by cases hb), fun _ => ?_, snoc_rc h.rc r⟩, fun _ => rfl, fun hb => (by cases hb)⟩
    · simp only [t90, ta90, Bool.not_true, Bool.false_eq_true, if_false, ec, chk_true]
      rfl
    · rw [hl, foldN_snoc, h.no rfl]; rfl
def eqE (a b : List D) : Bool := (asI (nthD a 0) == asI (nthD b 0)) && (((asS (nthD a 1)).toList == (asS (nthD b 1)).toList) && true)
/-- How far two lists are the same, from i on. -/
def cpl (A B : List (List D)) : Nat → Nat → Nat
  | 0, i => i
  | k + 1, i => if i < A.length ∧ i < B.length ∧ eqE (A.getD i []) (B.getD i []) = true then cpl A B k (i + 1) else i
theorem cpl_le (A B : List (List D)) : ∀ (k i : Nat), i ≤ A.length → i ≤ B.length → cpl A B k i ≤ A.length ∧ cpl A B k i ≤ B.length
  | 0, i, h1, h2 => ⟨h1, h2⟩
  | k + 1, i, h1, h2 => by
    simp only [cpl]
    split
    · exact cpl_le A B k (i + 1) (by omega) (by omega)
    · exact ⟨h1, h2⟩
theorem entry_own {l : List (List D)} (h : ∀ r ∈ l, typL shEntry r) {i : Nat} (hi : i < l.length) : (decide (2 ≤ (l.getD i []).length) && isF z90 0 (l.getD i [])) = true := by
  obtain ⟨a, b, he, _⟩ := Entry_row (getD_row h hi)
  rw [he]; rfl
theorem y1_cases (A B : List (List D)) (i : Nat) : (i < A.length ∧ i < B.length ∧ (decide ((i : Int) < (A.length : Int)) && decide ((i : Int) < (B.length : Int))) = true) ∨ (¬ (i < A.length ∧ i < B.length) ∧ (decide ((i : Int) < (A.length : Int)) && decide ((i : Int) < (B.length : Int))) = false) := by
  by_cases h1 : i < A.length
  · by_cases h2 : i < B.length
    · exact .inl ⟨h1, h2, by rw [nat_in h1, nat_in h2]; rfl⟩
    · refine .inr ⟨fun h => h2 h.2, ?_⟩
      rw [decide_eq_false (show ¬ ((i : Int) < (B.length : Int)) by omega), Bool.and_false]
  · refine .inr ⟨fun h => h1 h.1, ?_⟩
    rw [decide_eq_false (show ¬ ((i : Int) < (A.length : Int)) by omega), Bool.false_and]
theorem sameS1 {n47 n48 n49 n50 : Int} {s51 : ByteArray} {l52 : List (List D)} {n53 n54 n55 n56 : Int} {s57 : ByteArray} {l58 : List (List D)} {b59 b61 b62 b63 : Bool} {n65 n66 n67 n68 : Int} {s69 : ByteArray} {l70 : List (List D)} {n71 n72 n73 n74 : Int} {s75 : ByteArray} {l77 l78 l79 : List (List D)} {q1 : Int → Bool → Rs} {R : Rs} {A B : List (List D)} (hA : ∀ r ∈ A, typL shEntry r) (hB : ∀ r ∈ B, typL shEntry r) (wA : A.length ≤ 1048576) : ∀ (k i m : Nat) (v : SV), i ≤ A.length → A.length < i + k → k ≤ m → (∀ b, q1 ((cpl A B k i : Nat) : Int) b = R) → la26o3 t51 t52 t53 t65 n47 n48 n49 n50 s51 l52 n53 n54 n55 n56 s57 l58 b59 b61 b62 b63 n65 n66 n67 n68 s69 l70 n71 n72 n73 n74 s75 B l77 l78 l79 A q1 m i v = R := by
  intro k
  induction k with
  | zero => intro i m v h1 h2 _ _; omega
  | succ k ih =>
    intro i m v h1 h2 hm hq
    obtain ⟨m, rfl⟩ : ∃ m', m = m' + 1 := ⟨m - 1, by omega⟩
    rcases y1_cases A B i with ⟨hi, hj, y⟩ | ⟨hn, y⟩
    · have e2 := row_in hB _ entry_row i hj
      cases he : eqE (A.getD i []) (B.getD i [])
      · have ec : cpl A B (k + 1) i = i := by simp only [cpl]; rw [if_neg (fun h => by rw [he] at h; cases h.2.2)]
        rw [ec] at hq
        unfold eqE at he
        simp only [la26o3, y, nat_pos, nat_in hi, nat_in hj, Int.toNat_natCast, entry_own hA hi, e2, Bool.and_self, Bool.true_or, chk_true, Bool.true_and, he, Bool.false_eq_true, if_false]
        exact hq _
      · have ec : cpl A B (k + 1) i = cpl A B k (i + 1) := by simp only [cpl]; rw [if_pos ⟨hi, hj, he⟩]
        rw [ec] at hq
        unfold eqE at he
        simp only [la26o3, y, nat_pos, nat_in hi, nat_in hj, Int.toNat_natCast, entry_own hA hi, e2, Bool.and_self, Bool.true_or, chk_true, Bool.true_and, he, if_true]
        rw [w64_succ i (by omega)]
        exact ih (i + 1) m _ (by omega) (by omega) (by omega) hq
    · have ec : cpl A B (k + 1) i = i := by simp only [cpl]; rw [if_neg (fun h => hn ⟨h.1, h.2.1⟩)]
      rw [ec] at hq
      simp only [la26o3, y, Bool.not_false, Bool.or_true, chk_true, Bool.false_and, Bool.false_eq_true, if_false]
      exact hq _
theorem sameS2 {n453 n454 n455 n456 : Int} {s457 : ByteArray} {l458 : List (List D)} {n459 n460 n461 n462 : Int} {s463 : ByteArray} {l464 : List (List D)} {b465 b468 b469 b470 : Bool} {n472 n473 n474 n475 : Int} {s476 : ByteArray} {l477 : List (List D)} {n478 n479 n480 n481 : Int} {s482 : ByteArray} {l484 l485 : List (List D)} {q1 : Int → Bool → Rs} {R : Rs} {A B : List (List D)} (hA : ∀ r ∈ A, typL shEntry r) (hB : ∀ r ∈ B, typL shEntry r) (wA : A.length ≤ 1048576) : ∀ (k i m : Nat) (v : SV), i ≤ A.length → A.length < i + k → k ≤ m → (∀ b, q1 ((cpl A B k i : Nat) : Int) b = R) → la26o100003 t51 t52 t53 t65 n453 n454 n455 n456 s457 l458 n459 n460 n461 n462 s463 l464 b465 A b468 b469 b470 n472 n473 n474 n475 s476 l477 n478 n479 n480 n481 s482 B l484 l485 q1 m i v = R := by
  intro k
  induction k with
  | zero => intro i m v h1 h2 _ _; omega
  | succ k ih =>
    intro i m v h1 h2 hm hq
    obtain ⟨m, rfl⟩ : ∃ m', m = m' + 1 := ⟨m - 1, by omega⟩
    rcases y1_cases A B i with ⟨hi, hj, y⟩ | ⟨hn, y⟩
    · have e1 := row_in hA _ entry_row i hi
      have e2 := row_in hB _ entry_row i hj
      cases he : eqE (A.getD i []) (B.getD i [])
      · have ec : cpl A B (k + 1) i = i := by simp only [cpl]; rw [if_neg (fun h => by rw [he] at h; cases h.2.2)]
        rw [ec] at hq
        unfold eqE at he
        simp only [la26o100003, y, nat_pos, nat_in hi, nat_in hj, Int.toNat_natCast, e1, e2, Bool.and_self, Bool.true_or, chk_true, Bool.true_and, he, Bool.false_eq_true, if_false]
        exact hq _
      · have ec : cpl A B (k + 1) i = cpl A B k (i + 1) := by simp only [cpl]; rw [if_pos ⟨hi, hj, he⟩]
        rw [ec] at hq
        unfold eqE at he
        simp only [la26o100003, y, nat_pos, nat_in hi, nat_in hj, Int.toNat_natCast, e1, e2, Bool.and_self, Bool.true_or, chk_true, Bool.true_and, he, if_true]
        rw [w64_succ i (by omega)]
        exact ih (i + 1) m _ (by omega) (by omega) (by omega) hq
    · have ec : cpl A B (k + 1) i = i := by simp only [cpl]; rw [if_neg (fun h => hn ⟨h.1, h.2.1⟩)]
      rw [ec] at hq
      simp only [la26o100003, y, Bool.not_false, Bool.or_true, chk_true, Bool.false_and, Bool.false_eq_true, if_false]
      exact hq _
theorem sameI {n65 n66 n67 n68 : Int} {s69 : ByteArray} {l70 : List (List D)} {n71 n72 n73 n74 : Int} {s75 : ByteArray} {l76 : List (List D)} {b77 b79 b80 : Bool} {n82 n83 n84 n85 : Int} {s86 : ByteArray} {l87 : List (List D)} {n88 n89 n90 n91 : Int} {s92 : ByteArray} {n94 n95 n96 n97 : Int} {s98 : ByteArray} {b99 : Bool} {l101 : List (List D)} {q1 : Int → Bool → Rs} {R : Rs} {A B : List (List D)} (hA : ∀ r ∈ A, typL shEntry r) (hB : ∀ r ∈ B, typL shEntry r) (wA : A.length ≤ 1048576) : ∀ (k i m : Nat) (v : SV), i ≤ A.length → A.length < i + k → k ≤ m → (∀ b, q1 ((cpl A B k i : Nat) : Int) b = R) → la66o2 t57 t90 n65 n66 n67 n68 s69 l70 n71 n72 n73 n74 s75 l76 b77 b79 b80 n82 n83 n84 n85 s86 l87 n88 n89 n90 n91 s92 B n94 n95 n96 n97 s98 b99 A l101 q1 m i v = R := by
  intro k
  induction k with
  | zero => intro i m v h1 h2 _ _; omega
  | succ k ih =>
    intro i m v h1 h2 hm hq
    obtain ⟨m, rfl⟩ : ∃ m', m = m' + 1 := ⟨m - 1, by omega⟩
    rcases y1_cases A B i with ⟨hi, hj, y⟩ | ⟨hn, y⟩
    · have e2 := row_in hB _ entry_row i hj
      cases he : eqE (A.getD i []) (B.getD i [])
      · have ec : cpl A B (k + 1) i = i := by simp only [cpl]; rw [if_neg (fun h => by rw [he] at h; cases h.2.2)]
        rw [ec] at hq
        unfold eqE at he
        simp only [la66o2, y, nat_pos, nat_in hi, nat_in hj, Int.toNat_natCast, entry_own hA hi, e2, Bool.and_self, Bool.true_or, chk_true, Bool.true_and, he, Bool.false_eq_true, if_false]
        exact hq _
      · have ec : cpl A B (k + 1) i = cpl A B k (i + 1) := by simp only [cpl]; rw [if_pos ⟨hi, hj, he⟩]
        rw [ec] at hq
        unfold eqE at he
        simp only [la66o2, y, nat_pos, nat_in hi, nat_in hj, Int.toNat_natCast, entry_own hA hi, e2, Bool.and_self, Bool.true_or, chk_true, Bool.true_and, he, if_true]
        rw [w64_succ i (by omega)]
        exact ih (i + 1) m _ (by omega) (by omega) (by omega) hq
    · have ec : cpl A B (k + 1) i = i := by simp only [cpl]; rw [if_neg (fun h => hn ⟨h.1, h.2.1⟩)]
      rw [ec] at hq
      simp only [la66o2, y, Bool.not_false, Bool.or_true, chk_true, Bool.false_and, Bool.false_eq_true, if_false]
      exact hq _
/-- The records of the entries from number i on. -/
def entR (si : Int) (B : List (List D)) (i : Nat) : RC := ⟨2, asI (nthD (B.getD i []) 0), si + 1 + (i : Int), 0, asS (nthD (B.getD i []) 1)⟩
def entL (si : Int) (B : List (List D)) : Nat → Nat → List (List D)
  | 0, _ => []
  | k + 1, i => rcD (entR si B i) :: entL si B k (i + 1)
theorem entL_len (si : Int) (B : List (List D)) : ∀ (k i : Nat), (entL si B k i).length = k
  | 0, _ => rfl
  | k + 1, i => by simp only [entL, List.length_cons, entL_len si B k]
theorem entL_rc (si : Int) (B : List (List D)) : ∀ (k i : Nat), ∀ r ∈ entL si B k i, ∃ x, r = rcD x
  | 0, _, r, hr => by simp [entL] at hr
  | k + 1, i, r, hr => by
    simp only [entL, List.mem_cons] at hr
    rcases hr with rfl | hr
    · exact ⟨_, rfl⟩
    · exact entL_rc si B k (i + 1) r hr
theorem entS1 {n155 n156 n157 n158 : Int} {s159 : ByteArray} {l160 : List (List D)} {n161 n162 n163 n164 : Int} {s165 : ByteArray} {l166 : List (List D)} {b167 : Bool} {n168 : Int} {b170 b171 b172 b173 b174 : Bool} {n176 n177 n178 n179 : Int} {s180 : ByteArray} {l181 : List (List D)} {n182 n183 n185 : Int} {s186 : ByteArray} {l188 l190 : List (List D)} {q1 : Int → Bool → List (List D) → Rs} {R : Rs} {B : List (List D)} {si : Int} (hB : ∀ r ∈ B, typL shEntry r) (wB : B.length ≤ 1000) (h0 : 0 ≤ si) (h1 : si ≤ 100000) : ∀ (k i m : Nat) (v : SV) (L : List (List D)), i + k = B.length → k < m → L.length + k ≤ 1000 → (∀ b, q1 (B.length : Int) b (L ++ entL si B k i) = R) → la26o6 t51 t52 t53 t65 n155 n156 n157 n158 s159 l160 n161 n162 n163 n164 s165 l166 b167 n168 b170 b171 b172 b173 b174 n176 n177 n178 n179 s180 l181 n182 n183 si n185 s186 B l188 l190 q1 m i v L = R := by
  intro k
  induction k with
  | zero =>
    intro i m v L e hm hL hq
    obtain ⟨m, rfl⟩ : ∃ m', m = m' + 1 := ⟨m - 1, by omega⟩
    have e1 : decide ((i : Int) < (B.length : Int)) = false := by simp; omega
    simp only [entL, List.append_nil] at hq
    simp only [la26o6, e1, Bool.false_eq_true, if_false]
    rw [show i = B.length by omega]; exact hq _
  | succ k ih =>
    intro i m v L e hm hL hq
    obtain ⟨m, rfl⟩ : ∃ m', m = m' + 1 := ⟨m - 1, by omega⟩
    have hi : i < B.length := by omega
    have e2 := row_in hB _ entry_row i hi
    have e3 : w64 (w64 (si + 1) + (i : Int)) = si + 1 + (i : Int) := by rw [w64_in (si + 1) (by omega), w64_in _ (by omega)]
    have e4 := rcD_chk (L := L) (entR si B i) (by omega)
    simp only [rcD, entR] at e4
    simp only [la26o6, nat_in hi, nat_pos, Int.toNat_natCast, e2, e3, e4, Bool.and_self, chk_true, if_true]
    rw [w64_succ i (by omega)]
    refine ih (i + 1) m _ _ (by omega) (by omega) (by simp; omega) (fun b => ?_)
    have := hq b
    simp only [entL] at this
    rw [List.append_assoc]; exact this
theorem entS2 {n559 n560 n561 n562 : Int} {s563 : ByteArray} {l564 : List (List D)} {n565 n566 n567 n568 : Int} {s569 : ByteArray} {l570 : List (List D)} {b571 : Bool} {l572 : List (List D)} {n573 : Int} {b575 b576 b577 b578 b579 : Bool} {n581 n582 n583 n584 : Int} {s585 : ByteArray} {l586 : List (List D)} {n587 n588 n590 : Int} {s591 : ByteArray} {l593 : List (List D)} {q1 : Int → Bool → List (List D) → Rs} {R : Rs} {B : List (List D)} {si : Int} (hB : ∀ r ∈ B, typL shEntry r) (wB : B.length ≤ 1000) (h0 : 0 ≤ si) (h1 : si ≤ 100000) : ∀ (k i m : Nat) (v : SV) (L : List (List D)), i + k = B.length → k < m → L.length + k ≤ 1000 → (∀ b, q1 (B.length : Int) b (L ++ entL si B k i) = R) → la26o100006 t51 t52 t53 t65 n559 n560 n561 n562 s563 l564 n565 n566 n567 n568 s569 l570 b571 l572 n573 b575 b576 b577 b578 b579 n581 n582 n583 n584 s585 l586 n587 n588 si n590 s591 B l593 q1 m i v L = R := by
  intro k
  induction k with
  | zero =>
    intro i m v L e hm hL hq
    obtain ⟨m, rfl⟩ : ∃ m', m = m' + 1 := ⟨m - 1, by omega⟩
    have e1 : decide ((i : Int) < (B.length : Int)) = false := by simp; omega
    simp only [entL, List.append_nil] at hq
    simp only [la26o100006, e1, Bool.false_eq_true, if_false]
    rw [show i = B.length by omega]; exact hq _
  | succ k ih =>
    intro i m v L e hm hL hq
    obtain ⟨m, rfl⟩ : ∃ m', m = m' + 1 := ⟨m - 1, by omega⟩
    have hi : i < B.length := by omega
    have e2 := row_in hB _ entry_row i hi
    have e3 : w64 (w64 (si + 1) + (i : Int)) = si + 1 + (i : Int) := by rw [w64_in (si + 1) (by omega), w64_in _ (by omega)]
    have e4 := rcD_chk (L := L) (entR si B i) (by omega)
    simp only [rcD, entR] at e4
    simp only [la26o100006, nat_in hi, nat_pos, Int.toNat_natCast, e2, e3, e4, Bool.and_self, chk_true, if_true]
    rw [w64_succ i (by omega)]
    refine ih (i + 1) m _ _ (by omega) (by omega) (by simp; omega) (fun b => ?_)
    have := hq b
    simp only [entL] at this
    rw [List.append_assoc]; exact this
theorem foldC1 {n277 n278 n279 n280 : Int} {s281 : ByteArray} {l282 : List (List D)} {n283 n284 n285 n286 : Int} {s287 : ByteArray} {l288 : List (List D)} {b289 : Bool} {n290 n291 : Int} {b294 b295 b296 b297 b298 b299 b300 : Bool} {n303 n304 n305 n306 : Int} {s307 : ByteArray} {l308 : List (List D)} {n309 n310 n311 n312 : Int} {s313 : ByteArray} {l314 l320 l322 : List (List D)} {q1 : Int → Bool → Bool → Bool → Int → Int → Int → Int → ByteArray → Int → Int → Int → Int → ByteArray → List (List D) → Rs} {q2 : Int → SV → Bool → SV → Int → Int → Int → Int → ByteArray → List (List D) → Rs} {X : Rs} {F : KS → Rs} {L : List (List D)} (h1 : ∀ a b c d e f g h i j k l m n o, q1 a b c d e f g h i j k l m n o = X) (h2 : ∀ a b c d (k : KS), q2 a b c d k.t k.v k.si k.st k.sd k.es = F k) (hL : ∀ r ∈ L, ∃ x, r = rcD x) (wL : L.length ≤ 1000) : ∀ (c i m : Nat) (k : KS) (u v w : SV), KI k → i + c = L.length → c < m →
    la26o9 t51 t52 t53 t65 n277 n278 n279 n280 s281 l282 n283 n284 n285 n286 s287 l288 b289 n290 n291 b294 b295 b296 b297 b298 b299 b300 n303 n304 n305 n306 s307 l308 n309 n310 n311 n312 s313 l314 l320 L l322 q1 q2 m i u v w k.t k.v k.si k.st k.sd k.es = (match foldN L c i k with | some K => F K | none => X) := by
  intro c
  induction c with
  | zero =>
    intro i m k u v w _ e hm
    obtain ⟨m, rfl⟩ : ∃ m', m = m' + 1 := ⟨m - 1, by omega⟩
    have e1 : decide ((i : Int) < (L.length : Int)) = false := by simp; omega
    simp only [la26o9, e1, Bool.false_eq_true, if_false, h2, foldN]
  | succ c ih =>
    intro i m k u v w hk e hm
    obtain ⟨m, rfl⟩ : ∃ m', m = m' + 1 := ⟨m - 1, by omega⟩
    have hi : i < L.length := by omega
    have ez : (decide (5 ≤ (L.getD i []).length) && isF z38 0 (L.getD i [])) = true := by
      obtain ⟨x, hx⟩ := hL _ (mem_getD hi); rw [hx]; rfl
    have ws : ∀ t v si st sd l b, okR zr52 zo52 (some ([.agg [.i .i64 t, .i .i64 v, .i .i64 si, .i .i64 st, .s sd, .l l], .one (.b b)], [])) = true := fun _ _ _ _ _ _ _ => rfl
    have s1 := step_spec k hk (rcOf (L.getD i []))
    have hk2 := hk.step' (rcOf (L.getD i []))
    have ih' := ih (i + 1) m (stepK k (rcOf (L.getD i []))).1
    rcases hr : stepK k (rcOf (L.getD i [])) with ⟨⟨t, vv, si, st, sd, es⟩, b⟩
    rw [hr] at s1 hk2 ih'
    simp only [rcOf] at s1
    simp only [la26o9, nat_in hi, nat_pos, Int.toNat_natCast, ez, Bool.and_self, chk_true, if_true, foldN, hr]
    simp only [kD] at s1 hk2 ih'
    simp only [s1, ws, chk_true]
    simp only [resC, nthR, cellsDV, nthD, asI, asS, asL, asB]
    cases b
    · simp only [Bool.not_false, if_true, h1, Bool.false_eq_true, if_false]
    · simp only [Bool.not_true, Bool.false_eq_true, if_false, if_true]
      rw [w64_succ i (by omega)]
      exact ih' _ _ _ hk2 (by omega) (by omega)
theorem foldC2 {n681 n682 n683 n684 : Int} {s685 : ByteArray} {l686 : List (List D)} {n687 n688 n689 n690 : Int} {s691 : ByteArray} {l692 : List (List D)} {b693 : Bool} {l694 : List (List D)} {n695 n696 : Int} {b699 b700 b701 b702 b703 b704 b705 : Bool} {n708 n709 n710 n711 : Int} {s712 : ByteArray} {l713 : List (List D)} {n714 n715 n716 n717 : Int} {s718 : ByteArray} {l719 l725 : List (List D)} {q1 : Int → Bool → Bool → Bool → Int → Int → Int → Int → ByteArray → Int → Int → Int → Int → ByteArray → List (List D) → Rs} {q2 : Int → SV → Bool → SV → Int → Int → Int → Int → ByteArray → List (List D) → Rs} {X : Rs} {F : KS → Rs} {L : List (List D)} (h1 : ∀ a b c d e f g h i j k l m n o, q1 a b c d e f g h i j k l m n o = X) (h2 : ∀ a b c d (k : KS), q2 a b c d k.t k.v k.si k.st k.sd k.es = F k) (hL : ∀ r ∈ L, ∃ x, r = rcD x) (wL : L.length ≤ 1000) : ∀ (c i m : Nat) (k : KS) (u v w : SV), KI k → i + c = L.length → c < m →
    la26o100009 t51 t52 t53 t65 n681 n682 n683 n684 s685 l686 n687 n688 n689 n690 s691 l692 b693 l694 n695 n696 b699 b700 b701 b702 b703 b704 b705 n708 n709 n710 n711 s712 l713 n714 n715 n716 n717 s718 l719 l725 L q1 q2 m i u v w k.t k.v k.si k.st k.sd k.es = (match foldN L c i k with | some K => F K | none => X) := by
  intro c
  induction c with
  | zero =>
    intro i m k u v w _ e hm
    obtain ⟨m, rfl⟩ : ∃ m', m = m' + 1 := ⟨m - 1, by omega⟩
    have e1 : decide ((i : Int) < (L.length : Int)) = false := by simp; omega
    simp only [la26o100009, e1, Bool.false_eq_true, if_false, h2, foldN]
  | succ c ih =>
    intro i m k u v w hk e hm
    obtain ⟨m, rfl⟩ : ∃ m', m = m' + 1 := ⟨m - 1, by omega⟩
    have hi : i < L.length := by omega
    have ez : (decide (5 ≤ (L.getD i []).length) && isF z38 0 (L.getD i [])) = true := by
      obtain ⟨x, hx⟩ := hL _ (mem_getD hi); rw [hx]; rfl
    have ws : ∀ t v si st sd l b, okR zr52 zo52 (some ([.agg [.i .i64 t, .i .i64 v, .i .i64 si, .i .i64 st, .s sd, .l l], .one (.b b)], [])) = true := fun _ _ _ _ _ _ _ => rfl
    have s1 := step_spec k hk (rcOf (L.getD i []))
    have hk2 := hk.step' (rcOf (L.getD i []))
    have ih' := ih (i + 1) m (stepK k (rcOf (L.getD i []))).1
    rcases hr : stepK k (rcOf (L.getD i [])) with ⟨⟨t, vv, si, st, sd, es⟩, b⟩
    rw [hr] at s1 hk2 ih'
    simp only [rcOf] at s1
    simp only [la26o100009, nat_in hi, nat_pos, Int.toNat_natCast, ez, Bool.and_self, chk_true, if_true, foldN, hr]
    simp only [kD] at s1 hk2 ih'
    simp only [s1, ws, chk_true]
    simp only [resC, nthR, cellsDV, nthD, asI, asS, asL, asB]
    cases b
    · simp only [Bool.not_false, if_true, h1, Bool.false_eq_true, if_false]
    · simp only [Bool.not_true, Bool.false_eq_true, if_false, if_true]
      rw [w64_succ i (by omega)]
      exact ih' _ _ _ hk2 (by omega) (by omega)
theorem entI {n192 n193 n194 n195 : Int} {s196 : ByteArray} {l197 : List (List D)} {n198 n199 n200 n201 : Int} {s202 : ByteArray} {l203 : List (List D)} {b204 b207 b208 b209 b210 : Bool} {n215 n216 n217 n218 : Int} {s219 : ByteArray} {l220 : List (List D)} {n221 n222 n224 : Int} {s225 : ByteArray} {l226 : List (List D)} {q1 : SV → Int → Bool → Int → Int → Int → Int → ByteArray → Bool → List (List D) → List (List D) → Rs} {R : Rs} {a : KS} {B : List (List D)} {si : Int} {c : Nat} (hB : ∀ r ∈ B, typL shEntry r) (wB : B.length ≤ 1000) (hc : c ≤ B.length) (h0 : 0 ≤ si) (h1 : si ≤ 100000) : ∀ (k j m : Nat) (u v : SV) (K : KS) (bad : Bool) (L : List (List D)), c + j + k = B.length → k < m → L.length + k ≤ 1000 → NoteI a K bad L → (∀ u n b (K : KS) bad, NoteI a K bad (L ++ entL si B k (c + j)) → q1 u n b K.t K.v K.si K.st K.sd bad K.es (L ++ entL si B k (c + j)) = R) →
    la66o5 t57 t90 n192 n193 n194 n195 s196 l197 n198 n199 n200 n201 s202 l203 b204 (c : Int) b207 b208 b209 b210 (B.drop c) ((B.drop c).length : Int) n215 n216 n217 n218 s219 l220 n221 n222 si n224 s225 l226 q1 m u j v K.t K.v K.si K.st K.sd bad K.es L = R := by
  intro k
  induction k with
  | zero =>
    intro j m u v K bad L e hm hL hN hq
    obtain ⟨m, rfl⟩ : ∃ m', m = m' + 1 := ⟨m - 1, by omega⟩
    have e1 : decide ((j : Int) < ((B.drop c).length : Int)) = false := by simp; omega
    simp only [entL, List.append_nil] at hq
    simp only [la66o5, e1, Bool.false_eq_true, if_false]
    exact hq _ _ _ _ _ hN
  | succ k ih =>
    intro j m u v K bad L e hm hL hN hq
    obtain ⟨m, rfl⟩ : ∃ m', m = m' + 1 := ⟨m - 1, by omega⟩
    have hj : j < (B.drop c).length := by simp; omega
    have eg : (B.drop c).getD j [] = B.getD (c + j) [] := by simp [List.getD]
    have e2 : isRow z90 (B.getD (c + j) []) = true := row_in hB _ entry_row (c + j) (by omega)
    have e3 : w64 (w64 (w64 (si + (c : Int)) + (j : Int)) + 1) = si + 1 + ((c + j : Nat) : Int) := by
      rw [w64_in (si + (c : Int)) (by omega), w64_in (si + (c : Int) + (j : Int)) (by omega), w64_in _ (by omega)]; omega
    obtain ⟨K', bad', n1, n2, n3, n4⟩ := note_eq hN (by omega) (entR si B (c + j))
    simp only [entR] at n1
    obtain ⟨p0, p1, p2, p3, p4, p5, p6, p7⟩ := note_o K' (L ++ [rcD (entR si B (c + j))]) bad'
    simp only [entR] at p0 p1 p2 p3 p4 p5 p6 p7
    simp only [la66o5, nat_in hj, nat_pos, Int.toNat_natCast, eg, e2, e3, n1, note_w, Bool.and_self, chk_true, if_true, p0, p1, p2, p3, p4, p5, p6, p7]
    rw [w64_succ j (by omega)]
    refine ih (j + 1) m _ _ K' bad' _ (by omega) (by omega) (by simp; omega) n2 (fun u n b K bad hN => ?_)
    have := hq u n b K bad
    simp only [entL] at this
    rw [List.append_assoc]
    refine this ?_
    rw [List.append_assoc] at hN; exact hN
/-- The entries behind a number, whatever it be. -/
def behindG (k : KS) (i t : Int) : List (List D) := if 1 ≤ i - k.si ∧ i - k.si ≤ (k.es.length : Int) ∧ asI (nthD (k.es.getD (i - k.si - 1).toNat []) 0) = t then k.es.drop (i - k.si).toNat else []
theorem behind_eq (k : KS) (h : KI k) (i t : Int) (h0 : 0 ≤ i) (h1 : i ≤ 100000) : t65 k.t k.v k.si k.st k.sd k.es i t = some ([.one (.l (behindG k i t))], []) := by
  have k0 := h.h0; have k1 := h.h1; have k2 := h.h2
  have e1 : w64 (i - k.si) = i - k.si := w64_in _ (by omega)
  have e2 : w64 (i - k.si - 1) = i - k.si - 1 := w64_in _ (by omega)
  simp only [t65, e1, e2, behindG]
  by_cases ha : 1 ≤ i - k.si ∧ i - k.si ≤ (k.es.length : Int)
  · have e3 : (decide (i - k.si ≥ 1) && decide (i - k.si ≤ (k.es.length : Int))) = true := by rw [decide_eq_true (by omega), decide_eq_true (by omega)]; rfl
    have e5 : (decide (0 ≤ i - k.si - 1) && decide (i - k.si - 1 < (k.es.length : Int)) && isRow z90 (k.es.getD (i - k.si - 1).toNat [])) = true := by
      rw [decide_eq_true (by omega), decide_eq_true (by omega), row_in h.h3 _ entry_row _ (by omega)]; rfl
    have e6 : decide (0 ≤ i - k.si ∧ i - k.si ≤ (k.es.length : Int) ∧ (k.es.getD 0 z90).length = z90.length) = true := by
      refine decide_eq_true ⟨by omega, ha.2, ?_⟩
      cases hes : k.es with
      | nil => rfl
      | cons x xs =>
        have := h.h3 x (by rw [hes]; simp)
        obtain ⟨a, b, rfl, _⟩ := Entry_row this
        rfl
    have e7 : ((flatR 2 (k.es.drop (i - k.si).toNat)) && decide (([] : List (List D)).length + (k.es.drop (i - k.si).toNat).length ≤ lim)) = true := by
      rw [edrop h, decide_eq_true (by unfold lim; simp; omega)]; rfl
    simp only [e3, e5, e6, e7, Bool.true_and, Bool.true_or, chk_true, List.nil_append]
    by_cases ht : asI (nthD (k.es.getD (i - k.si - 1).toNat []) 0) = t
    · rw [if_pos (by simpa using ht), if_pos ⟨ha.1, ha.2, ht⟩]
    · rw [if_neg (by simpa using ht), if_neg (fun x => ht x.2.2)]
  · have e3 : (decide (i - k.si ≥ 1) && decide (i - k.si ≤ (k.es.length : Int))) = false := by
      rw [Bool.eq_false_iff]; intro hx; simp only [Bool.and_eq_true, decide_eq_true_eq] at hx; exact ha ⟨by omega, hx.2⟩
    simp only [e3, Bool.not_false, Bool.or_true, chk_true, Bool.false_and, Bool.false_eq_true, if_false]
    rw [if_neg (fun x => ha ⟨x.1, x.2.1⟩)]
theorem behindG_in {k : KS} (h : KI k) (i t : Int) : (behindG k i t).length ≤ 60 ∧ ∀ r ∈ behindG k i t, typL shEntry r := by
  have k2 := h.h2
  unfold behindG
  split
  · exact ⟨by simp; omega, fun r hr => h.h3 r (List.mem_of_mem_drop hr)⟩
  · exact ⟨by simp, by simp⟩
def chR (a : KS) (L : List (List D)) : Rs := if decide ((L.length : Int) > 80) = true then some ([.one (.l []), .one (.b false)], []) else match foldN L L.length 0 a with | some _ => some ([.one (.l L), .one (.b true)], []) | none => some ([.one (.l []), .one (.b false)], [])
theorem chR_bad {a : KS} {L : List (List D)} (h : foldN L L.length 0 a = none) : chR a L = some ([.one (.l []), .one (.b false)], []) := by
  unfold chR; rw [h]; split <;> rfl
def hardL (a b : KS) : List (List D) := if ((a.t != b.t) || (a.v != b.v)) = true then [rcD ⟨1, b.t, 0, b.v, ⟨#[]⟩⟩] else []
def snapD (a b : KS) : Bool := !((a.si == b.si) && ((a.st == b.st) && ((a.sd.toList == b.sd.toList) && true)))
def snapL (a b : KS) : List (List D) := if snapD a b = true then [rcD ⟨4, b.st, b.si, 0, b.sd⟩] else []
def haveL (a b : KS) : List (List D) := if snapD a b = true then behindG a b.si b.st else a.es
def cutL (H : List (List D)) (b : KS) (c : Nat) : List (List D) := if c < H.length then [rcD ⟨3, 0, b.si + (c : Int) + 1, 0, ⟨#[]⟩⟩] else []
/-- All behind L. -/
def restL (H : List (List D)) (b : KS) : List (List D) := cutL H b (cpl H b.es (H.length + 1) 0) ++ entL b.si b.es (b.es.length - cpl H b.es (H.length + 1) 0) (cpl H b.es (H.length + 1) 0)
theorem hardL_len (a b : KS) : (hardL a b).length ≤ 1 ∧ ∀ r ∈ hardL a b, ∃ x, r = rcD x := by
  unfold hardL; split
  · exact ⟨by simp, fun r hr => ⟨_, by simpa using hr⟩⟩
  · exact ⟨by simp, by simp⟩
theorem snapL_len (a b : KS) : (snapL a b).length ≤ 1 ∧ ∀ r ∈ snapL a b, ∃ x, r = rcD x := by
  unfold snapL; split
  · exact ⟨by simp, fun r hr => ⟨_, by simpa using hr⟩⟩
  · exact ⟨by simp, by simp⟩
theorem cutL_len (H : List (List D)) (b : KS) (c : Nat) : (cutL H b c).length ≤ 1 ∧ ∀ r ∈ cutL H b c, ∃ x, r = rcD x := by
  unfold cutL; split
  · exact ⟨by simp, fun r hr => ⟨_, by simpa using hr⟩⟩
  · exact ⟨by simp, by simp⟩
theorem app_rc {L M : List (List D)} (h : ∀ r ∈ L, ∃ x, r = rcD x) (h' : ∀ r ∈ M, ∃ x, r = rcD x) : ∀ r ∈ L ++ M, ∃ x, r = rcD x := fun r hr => by
  rcases List.mem_append.1 hr with hr | hr
  · exact h r hr
  · exact h' r hr
theorem changes_spec (a b : KS) (ha : keptB a.t a.v a.si a.st a.sd a.es = true) (hb : keptB b.t b.v b.si b.st b.sd b.es = true) (ta : ∀ r ∈ a.es, typL shEntry r) (tb : ∀ r ∈ b.es, typL shEntry r) :
    t26 a.t a.v a.si a.st a.sd a.es b.t b.v b.si b.st b.sd b.es = chR a (hardL a b ++ snapL a b ++ restL (haveL a b) b) := by
  have ka : KI a := keptB_KI ta ha
  have kb : KI b := keptB_KI tb hb
  have a2 := ka.h2; have b0 := kb.h0; have b1 := kb.h1; have b2 := kb.h2
  have ew : ∀ x, okR zr51 zo51 (some ([.one (.b x)], [])) = true := fun _ => rfl
  have eb : ∀ x, asB (resC (some ([.one (.b x)], [])) 0 0) = x := fun _ => rfl
  have wl : ∀ x, okR zr65 zo65 (some ([.one (.l x)], [])) = true := fun _ => rfl
  have el : ∀ x, asL (resC (some ([.one (.l x)], [])) 0 0) = x := fun _ => rfl
  have wc : ∀ t v si st sd l, okR zr53 zo53 (some ([.agg [.i .i64 t, .i .i64 v, .i .i64 si, .i .i64 st, .s sd, .l l]], [])) = true := fun _ _ _ _ _ _ => rfl
  have e1 : ∀ c : Nat, c ≤ 60 → w64 (w64 (b.si + (c : Int)) + 1) = b.si + (c : Int) + 1 := fun c hc => by rw [w64_in (b.si + (c : Int)) (by omega), w64_in _ (by omega)]
  have hH := hardL_len a b
  have hS := snapL_len a b
  obtain ⟨g1, g2⟩ := behindG_in ka b.si b.st
  have tail : ∀ (H L : List (List D)), L.length ≤ 3 → (∀ r ∈ L, ∃ x, r = rcD x) → restL H b = cutL H b (cpl H b.es (H.length + 1) 0) ++ entL b.si b.es (b.es.length - cpl H b.es (H.length + 1) 0) (cpl H b.es (H.length + 1) 0) := fun H L _ _ => rfl
  have hcopy := l3Copy_eq a.t a.v a.si a.st a.sd a.es ta (by omega)
  unfold t26 ta26
  simp only [keptOk_spec a.t a.v a.si a.st a.sd a.es (by omega) ta, keptOk_spec b.t b.v b.si b.st b.sd b.es (by omega) tb, ew, eb, ha, hb, Bool.not_true, Bool.or_self, Bool.true_or, Bool.false_eq_true, if_false, chk_true, behind_eq a ka b.si b.st b0 b1, wl, el, hcopy, wc]
  by_cases hd : ((a.t != b.t) || (a.v != b.v)) = true
  rotate_left
  · by_cases sd : snapD a b = true
    rotate_left
    · skip
      have eh : hardL a b = [] := if_neg hd
      have es : snapL a b = [] := if_neg sd
      have ev : haveL a b = a.es := if_neg sd
      have sd2 := sd
      unfold snapD at sd2
      have sd2 : (!((a.si == b.si) && ((a.st == b.st) && ((a.sd.toList == b.sd.toList) && true)))) = false := by simpa using sd2
      have hd2 : ((a.t != b.t) || (a.v != b.v)) = false := by simpa using hd
      rw [eh, es, ev]
      have c1 := rcD_chk (L := ([] : List (List D))) ⟨1, b.t, 0, b.v, ⟨#[]⟩⟩ (by simp)
      have c2 := rcD_chk (L := ([] : List (List D))) ⟨4, b.st, b.si, 0, b.sd⟩ (by simp)
      have c3 := fun c : Nat => rcD_chk (L := ([] : List (List D))) ⟨3, 0, b.si + (c : Int) + 1, 0, ⟨#[]⟩⟩ (by simp)
      simp only [rcD, List.cons_append, List.nil_append] at c1 c2 c3
      simp only [hd2, sd2, c1, c2, chk_true, if_true, Bool.false_eq_true, if_false, List.cons_append, List.nil_append]
      obtain ⟨l1, l2⟩ := cpl_le a.es b.es (a.es.length + 1) 0 (by omega) (by omega)
      refine sameS2 ta tb (by omega) (a.es.length + 1) 0 KK _ (by omega) (by omega) (by rw [KK_eq]; omega) (fun bb => ?_)
      unfold restL
      generalize cpl a.es b.es (a.es.length + 1) 0 = c at l1 l2 ⊢
      obtain ⟨M, hM⟩ : ∃ M, M = ([] : List (List D)) ++ (cutL a.es b c ++ entL b.si b.es (b.es.length - c) c) := ⟨_, rfl⟩
      have hcl := cutL_len a.es b c
      have wM : M.length ≤ 1000 := by rw [hM]; simp only [List.length_append, entL_len, List.length_cons, List.length_nil]; omega
      have rM : ∀ r ∈ M, ∃ x, r = rcD x := by
        rw [hM]
        exact app_rc (by simp) (app_rc hcl.2 (entL_rc _ _ _ _))
      have goalR : chR a ([] ++ [] ++ (cutL a.es b c ++ entL b.si b.es (b.es.length - c) c)) = chR a M := by rw [hM]; simp only [List.nil_append, List.append_assoc, List.cons_append]
      refine Eq.trans ?_ goalR.symm
      by_cases hc : c < a.es.length
      · have hc2 : decide ((c : Int) < (a.es.length : Int)) = true := nat_in hc
        unfold cutL at hM
        rw [if_pos hc] at hM
        simp only [hc2, e1 c (by omega), c3, chk_true, if_true, List.cons_append, List.nil_append]
        refine entS2 tb (by omega) b0 b1 (b.es.length - c) c KK _ _ (by omega) (by rw [KK_eq]; omega) (by simp; omega) (fun b2 => ?_)
        have hT : ∀ X, X = M → X = M := fun _ h => h
        rw [show _ ++ entL b.si b.es (b.es.length - c) c = M from by rw [hM]; rfl]
        unfold chR
        by_cases h80 : decide ((M.length : Int) > 80) = true
        · simp only [h80, if_true]
        · have h80' : decide ((M.length : Int) > 80) = false := by simpa using h80
          simp only [h80', Bool.false_eq_true, if_false, hcopy, wc, chk_true, resC, nthR, cellsDV, nthD, asI, asS, asL]
          refine (foldC2 (X := some ([.one (.l []), .one (.b false)], [])) (F := fun _ => some ([.one (.l M), .one (.b true)], [])) (fun _ _ _ _ _ _ _ _ _ _ _ _ _ _ _ => rfl) (fun _ _ _ _ _ => rfl) rM (by omega) M.length 0 KK a _ _ _ ka (by omega) (by rw [KK_eq]; omega)).trans ?_
          cases foldN M M.length 0 a <;> rfl
      · have hc2 : decide ((c : Int) < (a.es.length : Int)) = false := by simp; omega
        unfold cutL at hM
        rw [if_neg hc] at hM
        simp only [hc2, Bool.false_eq_true, if_false]
        refine entS2 tb (by omega) b0 b1 (b.es.length - c) c KK _ _ (by omega) (by rw [KK_eq]; omega) (by simp; omega) (fun b2 => ?_)
        have hT : ∀ X, X = M → X = M := fun _ h => h
        rw [show _ ++ entL b.si b.es (b.es.length - c) c = M from by rw [hM]; rfl]
        unfold chR
        by_cases h80 : decide ((M.length : Int) > 80) = true
        · simp only [h80, if_true]
        · have h80' : decide ((M.length : Int) > 80) = false := by simpa using h80
          simp only [h80', Bool.false_eq_true, if_false, hcopy, wc, chk_true, resC, nthR, cellsDV, nthD, asI, asS, asL]
          refine (foldC2 (X := some ([.one (.l []), .one (.b false)], [])) (F := fun _ => some ([.one (.l M), .one (.b true)], [])) (fun _ _ _ _ _ _ _ _ _ _ _ _ _ _ _ => rfl) (fun _ _ _ _ _ => rfl) rM (by omega) M.length 0 KK a _ _ _ ka (by omega) (by rw [KK_eq]; omega)).trans ?_
          cases foldN M M.length 0 a <;> rfl
    · skip
      have eh : hardL a b = [] := if_neg hd
      have es : snapL a b = [rcD ⟨4, b.st, b.si, 0, b.sd⟩] := if_pos sd
      have ev : haveL a b = (behindG a b.si b.st) := if_pos sd
      have sd2 := sd
      unfold snapD at sd2
      have hd2 : ((a.t != b.t) || (a.v != b.v)) = false := by simpa using hd
      rw [eh, es, ev]
      have c1 := rcD_chk (L := ([] : List (List D))) ⟨1, b.t, 0, b.v, ⟨#[]⟩⟩ (by simp)
      have c2 := rcD_chk (L := ([] : List (List D))) ⟨4, b.st, b.si, 0, b.sd⟩ (by simp)
      have c3 := fun c : Nat => rcD_chk (L := ([rcD ⟨4, b.st, b.si, 0, b.sd⟩] : List (List D))) ⟨3, 0, b.si + (c : Int) + 1, 0, ⟨#[]⟩⟩ (by simp)
      simp only [rcD, List.cons_append, List.nil_append] at c1 c2 c3
      simp only [hd2, sd2, c1, c2, chk_true, if_true, Bool.false_eq_true, if_false, List.cons_append, List.nil_append]
      obtain ⟨l1, l2⟩ := cpl_le (behindG a b.si b.st) b.es ((behindG a b.si b.st).length + 1) 0 (by omega) (by omega)
      refine sameS1 g2 tb (by omega) ((behindG a b.si b.st).length + 1) 0 KK _ (by omega) (by omega) (by rw [KK_eq]; omega) (fun bb => ?_)
      unfold restL
      generalize cpl (behindG a b.si b.st) b.es ((behindG a b.si b.st).length + 1) 0 = c at l1 l2 ⊢
      obtain ⟨M, hM⟩ : ∃ M, M = ([rcD ⟨4, b.st, b.si, 0, b.sd⟩] : List (List D)) ++ (cutL (behindG a b.si b.st) b c ++ entL b.si b.es (b.es.length - c) c) := ⟨_, rfl⟩
      have hcl := cutL_len (behindG a b.si b.st) b c
      have wM : M.length ≤ 1000 := by rw [hM]; simp only [List.length_append, entL_len, List.length_cons, List.length_nil]; omega
      have rM : ∀ r ∈ M, ∃ x, r = rcD x := by
        rw [hM]
        refine app_rc (fun r hr => ?_) (app_rc hcl.2 (entL_rc _ _ _ _))
        simp only [List.mem_cons, List.not_mem_nil, or_false] at hr
        subst hr; exact ⟨_, rfl⟩
      have goalR : chR a ([] ++ [rcD ⟨4, b.st, b.si, 0, b.sd⟩] ++ (cutL (behindG a b.si b.st) b c ++ entL b.si b.es (b.es.length - c) c)) = chR a M := by rw [hM]; simp only [List.nil_append, List.append_assoc, List.cons_append]
      refine Eq.trans ?_ goalR.symm
      by_cases hc : c < (behindG a b.si b.st).length
      · have hc2 : decide ((c : Int) < ((behindG a b.si b.st).length : Int)) = true := nat_in hc
        unfold cutL at hM
        rw [if_pos hc] at hM
        simp only [hc2, e1 c (by omega), c3, chk_true, if_true, List.cons_append, List.nil_append]
        refine entS1 tb (by omega) b0 b1 (b.es.length - c) c KK _ _ (by omega) (by rw [KK_eq]; omega) (by simp; omega) (fun b2 => ?_)
        have hT : ∀ X, X = M → X = M := fun _ h => h
        rw [show _ ++ entL b.si b.es (b.es.length - c) c = M from by rw [hM]; rfl]
        unfold chR
        by_cases h80 : decide ((M.length : Int) > 80) = true
        · simp only [h80, if_true]
        · have h80' : decide ((M.length : Int) > 80) = false := by simpa using h80
          simp only [h80', Bool.false_eq_true, if_false, hcopy, wc, chk_true, resC, nthR, cellsDV, nthD, asI, asS, asL]
          refine (foldC1 (X := some ([.one (.l []), .one (.b false)], [])) (F := fun _ => some ([.one (.l M), .one (.b true)], [])) (fun _ _ _ _ _ _ _ _ _ _ _ _ _ _ _ => rfl) (fun _ _ _ _ _ => rfl) rM (by omega) M.length 0 KK a _ _ _ ka (by omega) (by rw [KK_eq]; omega)).trans ?_
          cases foldN M M.length 0 a <;> rfl
      · have hc2 : decide ((c : Int) < ((behindG a b.si b.st).length : Int)) = false := by simp; omega
        unfold cutL at hM
        rw [if_neg hc] at hM
        simp only [hc2, Bool.false_eq_true, if_false]
        refine entS1 tb (by omega) b0 b1 (b.es.length - c) c KK _ _ (by omega) (by rw [KK_eq]; omega) (by simp; omega) (fun b2 => ?_)
        have hT : ∀ X, X = M → X = M := fun _ h => h
        rw [show _ ++ entL b.si b.es (b.es.length - c) c = M from by rw [hM]; rfl]
        unfold chR
        by_cases h80 : decide ((M.length : Int) > 80) = true
        · simp only [h80, if_true]
        · have h80' : decide ((M.length : Int) > 80) = false := by simpa using h80
          simp only [h80', Bool.false_eq_true, if_false, hcopy, wc, chk_true, resC, nthR, cellsDV, nthD, asI, asS, asL]
          refine (foldC1 (X := some ([.one (.l []), .one (.b false)], [])) (F := fun _ => some ([.one (.l M), .one (.b true)], [])) (fun _ _ _ _ _ _ _ _ _ _ _ _ _ _ _ => rfl) (fun _ _ _ _ _ => rfl) rM (by omega) M.length 0 KK a _ _ _ ka (by omega) (by rw [KK_eq]; omega)).trans ?_
          cases foldN M M.length 0 a <;> rfl
  · by_cases sd : snapD a b = true
    rotate_left
    · skip
      have eh : hardL a b = [rcD ⟨1, b.t, 0, b.v, ⟨#[]⟩⟩] := if_pos hd
      have es : snapL a b = [] := if_neg sd
      have ev : haveL a b = a.es := if_neg sd
      have sd2 := sd
      unfold snapD at sd2
      have sd2 : (!((a.si == b.si) && ((a.st == b.st) && ((a.sd.toList == b.sd.toList) && true)))) = false := by simpa using sd2
      rw [eh, es, ev]
      have c1 := rcD_chk (L := ([] : List (List D))) ⟨1, b.t, 0, b.v, ⟨#[]⟩⟩ (by simp)
      have c2 := rcD_chk (L := ([rcD ⟨1, b.t, 0, b.v, ⟨#[]⟩⟩] : List (List D))) ⟨4, b.st, b.si, 0, b.sd⟩ (by simp)
      have c3 := fun c : Nat => rcD_chk (L := ([rcD ⟨1, b.t, 0, b.v, ⟨#[]⟩⟩] : List (List D))) ⟨3, 0, b.si + (c : Int) + 1, 0, ⟨#[]⟩⟩ (by simp)
      simp only [rcD, List.cons_append, List.nil_append] at c1 c2 c3
      simp only [hd, sd2, c1, c2, chk_true, if_true, Bool.false_eq_true, if_false, List.cons_append, List.nil_append]
      obtain ⟨l1, l2⟩ := cpl_le a.es b.es (a.es.length + 1) 0 (by omega) (by omega)
      refine sameS2 ta tb (by omega) (a.es.length + 1) 0 KK _ (by omega) (by omega) (by rw [KK_eq]; omega) (fun bb => ?_)
      unfold restL
      generalize cpl a.es b.es (a.es.length + 1) 0 = c at l1 l2 ⊢
      obtain ⟨M, hM⟩ : ∃ M, M = ([rcD ⟨1, b.t, 0, b.v, ⟨#[]⟩⟩] : List (List D)) ++ (cutL a.es b c ++ entL b.si b.es (b.es.length - c) c) := ⟨_, rfl⟩
      have hcl := cutL_len a.es b c
      have wM : M.length ≤ 1000 := by rw [hM]; simp only [List.length_append, entL_len, List.length_cons, List.length_nil]; omega
      have rM : ∀ r ∈ M, ∃ x, r = rcD x := by
        rw [hM]
        refine app_rc (fun r hr => ?_) (app_rc hcl.2 (entL_rc _ _ _ _))
        simp only [List.mem_cons, List.not_mem_nil, or_false] at hr
        subst hr; exact ⟨_, rfl⟩
      have goalR : chR a ([rcD ⟨1, b.t, 0, b.v, ⟨#[]⟩⟩] ++ [] ++ (cutL a.es b c ++ entL b.si b.es (b.es.length - c) c)) = chR a M := by rw [hM]; simp only [List.nil_append, List.append_assoc, List.cons_append]
      refine Eq.trans ?_ goalR.symm
      by_cases hc : c < a.es.length
      · have hc2 : decide ((c : Int) < (a.es.length : Int)) = true := nat_in hc
        unfold cutL at hM
        rw [if_pos hc] at hM
        simp only [hc2, e1 c (by omega), c3, chk_true, if_true, List.cons_append, List.nil_append]
        refine entS2 tb (by omega) b0 b1 (b.es.length - c) c KK _ _ (by omega) (by rw [KK_eq]; omega) (by simp; omega) (fun b2 => ?_)
        have hT : ∀ X, X = M → X = M := fun _ h => h
        rw [show _ ++ entL b.si b.es (b.es.length - c) c = M from by rw [hM]; rfl]
        unfold chR
        by_cases h80 : decide ((M.length : Int) > 80) = true
        · simp only [h80, if_true]
        · have h80' : decide ((M.length : Int) > 80) = false := by simpa using h80
          simp only [h80', Bool.false_eq_true, if_false, hcopy, wc, chk_true, resC, nthR, cellsDV, nthD, asI, asS, asL]
          refine (foldC2 (X := some ([.one (.l []), .one (.b false)], [])) (F := fun _ => some ([.one (.l M), .one (.b true)], [])) (fun _ _ _ _ _ _ _ _ _ _ _ _ _ _ _ => rfl) (fun _ _ _ _ _ => rfl) rM (by omega) M.length 0 KK a _ _ _ ka (by omega) (by rw [KK_eq]; omega)).trans ?_
          cases foldN M M.length 0 a <;> rfl
      · have hc2 : decide ((c : Int) < (a.es.length : Int)) = false := by simp; omega
        unfold cutL at hM
        rw [if_neg hc] at hM
        simp only [hc2, Bool.false_eq_true, if_false]
        refine entS2 tb (by omega) b0 b1 (b.es.length - c) c KK _ _ (by omega) (by rw [KK_eq]; omega) (by simp; omega) (fun b2 => ?_)
        have hT : ∀ X, X = M → X = M := fun _ h => h
        rw [show _ ++ entL b.si b.es (b.es.length - c) c = M from by rw [hM]; rfl]
        unfold chR
        by_cases h80 : decide ((M.length : Int) > 80) = true
        · simp only [h80, if_true]
        · have h80' : decide ((M.length : Int) > 80) = false := by simpa using h80
          simp only [h80', Bool.false_eq_true, if_false, hcopy, wc, chk_true, resC, nthR, cellsDV, nthD, asI, asS, asL]
          refine (foldC2 (X := some ([.one (.l []), .one (.b false)], [])) (F := fun _ => some ([.one (.l M), .one (.b true)], [])) (fun _ _ _ _ _ _ _ _ _ _ _ _ _ _ _ => rfl) (fun _ _ _ _ _ => rfl) rM (by omega) M.length 0 KK a _ _ _ ka (by omega) (by rw [KK_eq]; omega)).trans ?_
          cases foldN M M.length 0 a <;> rfl
    · skip
      have eh : hardL a b = [rcD ⟨1, b.t, 0, b.v, ⟨#[]⟩⟩] := if_pos hd
      have es : snapL a b = [rcD ⟨4, b.st, b.si, 0, b.sd⟩] := if_pos sd
      have ev : haveL a b = (behindG a b.si b.st) := if_pos sd
      have sd2 := sd
      unfold snapD at sd2
      rw [eh, es, ev]
      have c1 := rcD_chk (L := ([] : List (List D))) ⟨1, b.t, 0, b.v, ⟨#[]⟩⟩ (by simp)
      have c2 := rcD_chk (L := ([rcD ⟨1, b.t, 0, b.v, ⟨#[]⟩⟩] : List (List D))) ⟨4, b.st, b.si, 0, b.sd⟩ (by simp)
      have c3 := fun c : Nat => rcD_chk (L := ([rcD ⟨1, b.t, 0, b.v, ⟨#[]⟩⟩, rcD ⟨4, b.st, b.si, 0, b.sd⟩] : List (List D))) ⟨3, 0, b.si + (c : Int) + 1, 0, ⟨#[]⟩⟩ (by simp)
      simp only [rcD, List.cons_append, List.nil_append] at c1 c2 c3
      simp only [hd, sd2, c1, c2, chk_true, if_true, Bool.false_eq_true, if_false, List.cons_append, List.nil_append]
      obtain ⟨l1, l2⟩ := cpl_le (behindG a b.si b.st) b.es ((behindG a b.si b.st).length + 1) 0 (by omega) (by omega)
      refine sameS1 g2 tb (by omega) ((behindG a b.si b.st).length + 1) 0 KK _ (by omega) (by omega) (by rw [KK_eq]; omega) (fun bb => ?_)
      unfold restL
      generalize cpl (behindG a b.si b.st) b.es ((behindG a b.si b.st).length + 1) 0 = c at l1 l2 ⊢
      obtain ⟨M, hM⟩ : ∃ M, M = ([rcD ⟨1, b.t, 0, b.v, ⟨#[]⟩⟩, rcD ⟨4, b.st, b.si, 0, b.sd⟩] : List (List D)) ++ (cutL (behindG a b.si b.st) b c ++ entL b.si b.es (b.es.length - c) c) := ⟨_, rfl⟩
      have hcl := cutL_len (behindG a b.si b.st) b c
      have wM : M.length ≤ 1000 := by rw [hM]; simp only [List.length_append, entL_len, List.length_cons, List.length_nil]; omega
      have rM : ∀ r ∈ M, ∃ x, r = rcD x := by
        rw [hM]
        refine app_rc (fun r hr => ?_) (app_rc hcl.2 (entL_rc _ _ _ _))
        simp only [List.mem_cons, List.not_mem_nil, or_false] at hr
        rcases hr with rfl | rfl <;> exact ⟨_, rfl⟩
      have goalR : chR a ([rcD ⟨1, b.t, 0, b.v, ⟨#[]⟩⟩] ++ [rcD ⟨4, b.st, b.si, 0, b.sd⟩] ++ (cutL (behindG a b.si b.st) b c ++ entL b.si b.es (b.es.length - c) c)) = chR a M := by rw [hM]; simp only [List.nil_append, List.append_assoc, List.cons_append]
      refine Eq.trans ?_ goalR.symm
      by_cases hc : c < (behindG a b.si b.st).length
      · have hc2 : decide ((c : Int) < ((behindG a b.si b.st).length : Int)) = true := nat_in hc
        unfold cutL at hM
        rw [if_pos hc] at hM
        simp only [hc2, e1 c (by omega), c3, chk_true, if_true, List.cons_append, List.nil_append]
        refine entS1 tb (by omega) b0 b1 (b.es.length - c) c KK _ _ (by omega) (by rw [KK_eq]; omega) (by simp; omega) (fun b2 => ?_)
        have hT : ∀ X, X = M → X = M := fun _ h => h
        rw [show _ ++ entL b.si b.es (b.es.length - c) c = M from by rw [hM]; rfl]
        unfold chR
        by_cases h80 : decide ((M.length : Int) > 80) = true
        · simp only [h80, if_true]
        · have h80' : decide ((M.length : Int) > 80) = false := by simpa using h80
          simp only [h80', Bool.false_eq_true, if_false, hcopy, wc, chk_true, resC, nthR, cellsDV, nthD, asI, asS, asL]
          refine (foldC1 (X := some ([.one (.l []), .one (.b false)], [])) (F := fun _ => some ([.one (.l M), .one (.b true)], [])) (fun _ _ _ _ _ _ _ _ _ _ _ _ _ _ _ => rfl) (fun _ _ _ _ _ => rfl) rM (by omega) M.length 0 KK a _ _ _ ka (by omega) (by rw [KK_eq]; omega)).trans ?_
          cases foldN M M.length 0 a <;> rfl
      · have hc2 : decide ((c : Int) < ((behindG a b.si b.st).length : Int)) = false := by simp; omega
        unfold cutL at hM
        rw [if_neg hc] at hM
        simp only [hc2, Bool.false_eq_true, if_false]
        refine entS1 tb (by omega) b0 b1 (b.es.length - c) c KK _ _ (by omega) (by rw [KK_eq]; omega) (by simp; omega) (fun b2 => ?_)
        have hT : ∀ X, X = M → X = M := fun _ h => h
        rw [show _ ++ entL b.si b.es (b.es.length - c) c = M from by rw [hM]; rfl]
        unfold chR
        by_cases h80 : decide ((M.length : Int) > 80) = true
        · simp only [h80, if_true]
        · have h80' : decide ((M.length : Int) > 80) = false := by simpa using h80
          simp only [h80', Bool.false_eq_true, if_false, hcopy, wc, chk_true, resC, nthR, cellsDV, nthD, asI, asS, asL]
          refine (foldC1 (X := some ([.one (.l []), .one (.b false)], [])) (F := fun _ => some ([.one (.l M), .one (.b true)], [])) (fun _ _ _ _ _ _ _ _ _ _ _ _ _ _ _ => rfl) (fun _ _ _ _ _ => rfl) rM (by omega) M.length 0 KK a _ _ _ ka (by omega) (by rw [KK_eq]; omega)).trans ?_
          cases foldN M M.length 0 a <;> rfl
theorem final_eq {a K : KS} {bad : Bool} {M : List (List D)} (h : NoteI a K bad M) : (if (bad || decide ((M.length : Int) > 80)) = true then some ([DV.one (.l []), .one (.b false)], ([] : List (List D))) else some ([DV.one (.l M), .one (.b true)], [])) = chR a M := by
  cases bad with
  | true => rw [chR_bad (h.no rfl)]; simp
  | false => unfold chR; rw [h.ok rfl]; simp only [Bool.false_or]
theorem ag6 (t v si st : Int) (sd : ByteArray) (l : List (List D)) : asI (resC (some ([.agg [.i .i64 t, .i .i64 v, .i .i64 si, .i .i64 st, .s sd, .l l]], [])) 0 0) = t ∧ asI (resC (some ([.agg [.i .i64 t, .i .i64 v, .i .i64 si, .i .i64 st, .s sd, .l l]], [])) 0 1) = v ∧ asI (resC (some ([.agg [.i .i64 t, .i .i64 v, .i .i64 si, .i .i64 st, .s sd, .l l]], [])) 0 2) = si ∧ asI (resC (some ([.agg [.i .i64 t, .i .i64 v, .i .i64 si, .i .i64 st, .s sd, .l l]], [])) 0 3) = st ∧ asS (resC (some ([.agg [.i .i64 t, .i .i64 v, .i .i64 si, .i .i64 st, .s sd, .l l]], [])) 0 4) = sd ∧ asL (resC (some ([.agg [.i .i64 t, .i .i64 v, .i .i64 si, .i .i64 st, .s sd, .l l]], [])) 0 5) = l := ⟨rfl, rfl, rfl, rfl, rfl, rfl⟩
theorem hard_note {a : KS} (ka : KI a) : NoteI a a false [] := ⟨ka, fun _ => rfl, fun h => (by cases h), by simp⟩
theorem stepK_hard {k : KS} {t v : Int} {d : ByteArray} {i : Int} (h1 : fitsB k ⟨1, t, i, v, d⟩ = true) (h2 : recOk ⟨1, t, i, v, d⟩ = true) : (stepK k ⟨1, t, i, v, d⟩).1.es = k.es ∧ (stepK k ⟨1, t, i, v, d⟩).1.si = k.si := by
  unfold stepK; simp [h1, h2]
theorem stepK_snap {k : KS} {t v : Int} {d : ByteArray} {i : Int} (h1 : fitsB k ⟨4, t, i, v, d⟩ = true) (h2 : recOk ⟨4, t, i, v, d⟩ = true) : (stepK k ⟨4, t, i, v, d⟩).1.es = behindG k i t := by
  have hf : k.si < i := by
    simp [fitsB] at h1; omega
  unfold stepK; simp only [h1, h2, Bool.and_self, if_true]
  show behindA k i t = behindG k i t
  unfold behindA behindG
  by_cases h : i - k.si ≤ (k.es.length : Int) ∧ asI (nthD (k.es.getD (i - k.si - 1).toNat []) 0) = t
  · rw [if_pos h, if_pos ⟨by omega, h.1, h.2⟩]
  · rw [if_neg h, if_neg (fun x => h x.2)]
theorem behindG_congr {k k' : KS} (h1 : k.es = k'.es) (h2 : k.si = k'.si) (i t : Int) : behindG k i t = behindG k' i t := by unfold behindG; rw [h1, h2]
theorem rest_eq {a b K : KS} {bad : Bool} {L : List (List D)} (h : NoteI a K bad L) (hb : bad = false → K.es = haveL a b) : chR a (L ++ restL K.es b) = chR a (L ++ restL (haveL a b) b) := by
  cases bad with
  | false => rw [hb rfl]
  | true => rw [chR_bad (foldN_none _ _ _ (h.no rfl)), chR_bad (foldN_none _ _ _ (h.no rfl))]
theorem changes_impl (a b : KS) (ha : keptB a.t a.v a.si a.st a.sd a.es = true) (hb : keptB b.t b.v b.si b.st b.sd b.es = true) (ta : ∀ r ∈ a.es, typL shEntry r) (tb : ∀ r ∈ b.es, typL shEntry r) :
    t66 a.t a.v a.si a.st a.sd a.es b.t b.v b.si b.st b.sd b.es = chR a (hardL a b ++ snapL a b ++ restL (haveL a b) b) := by
  have ka : KI a := keptB_KI ta ha
  have kb : KI b := keptB_KI tb hb
  have a2 := ka.h2; have b0 := kb.h0; have b1 := kb.h1; have b2 := kb.h2
  have wc : ∀ t v si st sd l, okR zr57 zo57 (some ([.agg [.i .i64 t, .i .i64 v, .i .i64 si, .i .i64 st, .s sd, .l l]], [])) = true := fun _ _ _ _ _ _ => rfl
  have e1 : ∀ c : Nat, c ≤ 60 → w64 (w64 (b.si + (c : Int)) + 1) = b.si + (c : Int) + 1 := fun c hc => by rw [w64_in (b.si + (c : Int)) (by omega), w64_in _ (by omega)]
  have e12 : ∀ c : Nat, c ≤ b.es.length → decide (0 ≤ (c : Int) ∧ (c : Int) ≤ (b.es.length : Int) ∧ (b.es.getD 0 z90).length = z90.length) = true := fun c hc => by
    refine decide_eq_true ⟨by omega, by omega, ?_⟩
    cases hes : b.es with
    | nil => rfl
    | cons x xs =>
      obtain ⟨a, b, rfl, _⟩ := Entry_row (tb x (by rw [hes]; simp))
      rfl
  have hcopy := copyKept_eq a.t a.v a.si a.st a.sd a.es ta (by omega)
  unfold t66 ta66
  obtain ⟨o0, o1, o2, o3, o4, o5⟩ := ag6 a.t a.v a.si a.st a.sd a.es
  simp only [hcopy, wc, chk_true, o0, o1, o2, o3, o4, o5]
  by_cases hd : ((a.t != b.t) || (a.v != b.v)) = true
  rotate_left
  · by_cases sd : snapD a b = true
    rotate_left
    · skip
      have eh : hardL a b = [] := if_neg hd
      have es : snapL a b = [] := if_neg sd
      have ev : haveL a b = a.es := if_neg sd
      have sd2 := sd
      unfold snapD at sd2
      have sd2 : (!((a.si == b.si) && ((a.st == b.st) && ((a.sd.toList == b.sd.toList) && true)))) = false := by simpa using sd2
      have hd2 : ((a.t != b.t) || (a.v != b.v)) = false := by simpa using hd
      rw [eh, es]
      have hbad : false = false → a.es = haveL a b := fun _ => ev.symm
      have hN0 := hard_note ka
      simp only [hd2, sd2, if_true, Bool.false_eq_true, if_false, chk_true, note_w]
      rw [show ([] ++ [] ++ restL (haveL a b) b : List (List D)) = ([] : List (List D)) ++ restL (haveL a b) b from by simp]
      have hK := hN0.ki.h3
      have hK2 := hN0.ki.h2
      refine Eq.trans ?_ (rest_eq hN0 hbad)
      obtain ⟨l1, l2⟩ := cpl_le a.es b.es (a.es.length + 1) 0 (by omega) (by omega)
      refine sameI hK tb (by omega) (a.es.length + 1) 0 KK _ (by omega) (by omega) (by rw [KK_eq]; omega) (fun bb => ?_)
      unfold restL
      generalize cpl a.es b.es (a.es.length + 1) 0 = c at l1 l2 ⊢
      by_cases hc : c < a.es.length
      · have hc2 : decide ((c : Int) < (a.es.length : Int)) = true := nat_in hc
        obtain ⟨K3, bad3, m1, m2, m3, m4⟩ := note_eq hN0 (by simp) ⟨3, 0, b.si + (c : Int) + 1, 0, ⟨#[]⟩⟩
        obtain ⟨p0, p1, p2, p3, p4, p5, p6, p7⟩ := note_o K3 (([] : List (List D)) ++ [rcD ⟨3, 0, b.si + (c : Int) + 1, 0, ⟨#[]⟩⟩]) bad3
        simp only at m1
        have ec : cutL a.es b c = [rcD ⟨3, 0, b.si + (c : Int) + 1, 0, ⟨#[]⟩⟩] := if_pos hc
        rw [ec, ← List.append_assoc]
        simp only [hc2, e1 c (by omega), m1, note_w, chk_true, if_true, p0, p1, p2, p3, p4, p5, p6, p7, e12 c l2, Int.toNat_natCast]
        refine entI tb (by omega) l2 b0 b1 (b.es.length - c) 0 KK _ _ K3 bad3 _ (by omega) (by rw [KK_eq]; omega) (by simp; omega) m2 (fun u n bq K bad hN => ?_)
        exact final_eq hN
      · have hc2 : decide ((c : Int) < (a.es.length : Int)) = false := by simp; omega
        have ec : cutL a.es b c = [] := if_neg hc
        rw [ec, List.nil_append]
        simp only [hc2, Bool.false_eq_true, if_false, chk_true, e12 c l2, Int.toNat_natCast]
        refine entI tb (by omega) l2 b0 b1 (b.es.length - c) 0 KK _ _ a _ _ (by omega) (by rw [KK_eq]; omega) (by simp; omega) hN0 (fun u n bq K bad hN => ?_)
        exact final_eq hN
    · skip
      have eh : hardL a b = [] := if_neg hd
      have es : snapL a b = [rcD ⟨4, b.st, b.si, 0, b.sd⟩] := if_pos sd
      have ev : haveL a b = behindG a b.si b.st := if_pos sd
      have sd2 := sd
      unfold snapD at sd2
      have hd2 : ((a.t != b.t) || (a.v != b.v)) = false := by simpa using hd
      rw [eh, es]
      obtain ⟨K2, bad2, g1, hN2, g3, g4⟩ := note_eq (hard_note ka) (by simp) ⟨4, b.st, b.si, 0, b.sd⟩
      obtain ⟨v0, v1, v2, v3, v4, v5, v6, v7⟩ := note_o K2 (([] : List (List D)) ++ [rcD ⟨4, b.st, b.si, 0, b.sd⟩]) bad2
      simp only at g1
      have hbad : bad2 = false → K2.es = haveL a b := fun hb => by
        obtain ⟨w1, w2, w3⟩ := g4 hb
        rw [w1, stepK_snap w2 w3, ev]
      simp only [hd2, sd2, if_true, Bool.false_eq_true, if_false, chk_true, note_w, g1, v0, v1, v2, v3, v4, v5, v6, v7]
      rw [show ([] ++ [rcD ⟨4, b.st, b.si, 0, b.sd⟩] ++ restL (haveL a b) b : List (List D)) = ([] ++ [rcD ⟨4, b.st, b.si, 0, b.sd⟩] : List (List D)) ++ restL (haveL a b) b from by simp]
      have hK := hN2.ki.h3
      have hK2 := hN2.ki.h2
      refine Eq.trans ?_ (rest_eq hN2 hbad)
      obtain ⟨l1, l2⟩ := cpl_le K2.es b.es (K2.es.length + 1) 0 (by omega) (by omega)
      refine sameI hK tb (by omega) (K2.es.length + 1) 0 KK _ (by omega) (by omega) (by rw [KK_eq]; omega) (fun bb => ?_)
      unfold restL
      generalize cpl K2.es b.es (K2.es.length + 1) 0 = c at l1 l2 ⊢
      by_cases hc : c < K2.es.length
      · have hc2 : decide ((c : Int) < (K2.es.length : Int)) = true := nat_in hc
        obtain ⟨K3, bad3, m1, m2, m3, m4⟩ := note_eq hN2 (by simp) ⟨3, 0, b.si + (c : Int) + 1, 0, ⟨#[]⟩⟩
        obtain ⟨p0, p1, p2, p3, p4, p5, p6, p7⟩ := note_o K3 (([] ++ [rcD ⟨4, b.st, b.si, 0, b.sd⟩] : List (List D)) ++ [rcD ⟨3, 0, b.si + (c : Int) + 1, 0, ⟨#[]⟩⟩]) bad3
        simp only at m1
        have ec : cutL K2.es b c = [rcD ⟨3, 0, b.si + (c : Int) + 1, 0, ⟨#[]⟩⟩] := if_pos hc
        rw [ec, ← List.append_assoc]
        simp only [hc2, e1 c (by omega), m1, note_w, chk_true, if_true, p0, p1, p2, p3, p4, p5, p6, p7, e12 c l2, Int.toNat_natCast]
        refine entI tb (by omega) l2 b0 b1 (b.es.length - c) 0 KK _ _ K3 bad3 _ (by omega) (by rw [KK_eq]; omega) (by simp; omega) m2 (fun u n bq K bad hN => ?_)
        exact final_eq hN
      · have hc2 : decide ((c : Int) < (K2.es.length : Int)) = false := by simp; omega
        have ec : cutL K2.es b c = [] := if_neg hc
        rw [ec, List.nil_append]
        simp only [hc2, Bool.false_eq_true, if_false, chk_true, e12 c l2, Int.toNat_natCast]
        refine entI tb (by omega) l2 b0 b1 (b.es.length - c) 0 KK _ _ K2 _ _ (by omega) (by rw [KK_eq]; omega) (by simp; omega) hN2 (fun u n bq K bad hN => ?_)
        exact final_eq hN
  · by_cases sd : snapD a b = true
    rotate_left
    · skip
      have eh : hardL a b = [rcD ⟨1, b.t, 0, b.v, ⟨#[]⟩⟩] := if_pos hd
      have es : snapL a b = [] := if_neg sd
      have ev : haveL a b = a.es := if_neg sd
      have sd2 := sd
      unfold snapD at sd2
      have sd2 : (!((a.si == b.si) && ((a.st == b.st) && ((a.sd.toList == b.sd.toList) && true)))) = false := by simpa using sd2
      rw [eh, es]
      obtain ⟨K1, bad1, h1, hN1, h3, h4⟩ := note_eq (hard_note ka) (by simp) ⟨1, b.t, 0, b.v, ⟨#[]⟩⟩
      obtain ⟨u0, u1, u2, u3, u4, u5, u6, u7⟩ := note_o K1 ([] ++ [rcD ⟨1, b.t, 0, b.v, ⟨#[]⟩⟩]) bad1
      simp only at h1
      have hbad : bad1 = false → K1.es = haveL a b := fun hb => by
        obtain ⟨q1, q2, q3⟩ := h4 hb
        rw [q1, (stepK_hard q2 q3).1, ev]
      simp only [hd, sd2, if_true, Bool.false_eq_true, if_false, chk_true, note_w, h1, u0, u1, u2, u3, u4, u5, u6, u7]
      rw [show ([rcD ⟨1, b.t, 0, b.v, ⟨#[]⟩⟩] ++ [] ++ restL (haveL a b) b : List (List D)) = ([] ++ [rcD ⟨1, b.t, 0, b.v, ⟨#[]⟩⟩] : List (List D)) ++ restL (haveL a b) b from by simp]
      have hK := hN1.ki.h3
      have hK2 := hN1.ki.h2
      refine Eq.trans ?_ (rest_eq hN1 hbad)
      obtain ⟨l1, l2⟩ := cpl_le K1.es b.es (K1.es.length + 1) 0 (by omega) (by omega)
      refine sameI hK tb (by omega) (K1.es.length + 1) 0 KK _ (by omega) (by omega) (by rw [KK_eq]; omega) (fun bb => ?_)
      unfold restL
      generalize cpl K1.es b.es (K1.es.length + 1) 0 = c at l1 l2 ⊢
      by_cases hc : c < K1.es.length
      · have hc2 : decide ((c : Int) < (K1.es.length : Int)) = true := nat_in hc
        obtain ⟨K3, bad3, m1, m2, m3, m4⟩ := note_eq hN1 (by simp) ⟨3, 0, b.si + (c : Int) + 1, 0, ⟨#[]⟩⟩
        obtain ⟨p0, p1, p2, p3, p4, p5, p6, p7⟩ := note_o K3 (([] ++ [rcD ⟨1, b.t, 0, b.v, ⟨#[]⟩⟩] : List (List D)) ++ [rcD ⟨3, 0, b.si + (c : Int) + 1, 0, ⟨#[]⟩⟩]) bad3
        simp only at m1
        have ec : cutL K1.es b c = [rcD ⟨3, 0, b.si + (c : Int) + 1, 0, ⟨#[]⟩⟩] := if_pos hc
        rw [ec, ← List.append_assoc]
        simp only [hc2, e1 c (by omega), m1, note_w, chk_true, if_true, p0, p1, p2, p3, p4, p5, p6, p7, e12 c l2, Int.toNat_natCast]
        refine entI tb (by omega) l2 b0 b1 (b.es.length - c) 0 KK _ _ K3 bad3 _ (by omega) (by rw [KK_eq]; omega) (by simp; omega) m2 (fun u n bq K bad hN => ?_)
        exact final_eq hN
      · have hc2 : decide ((c : Int) < (K1.es.length : Int)) = false := by simp; omega
        have ec : cutL K1.es b c = [] := if_neg hc
        rw [ec, List.nil_append]
        simp only [hc2, Bool.false_eq_true, if_false, chk_true, e12 c l2, Int.toNat_natCast]
        refine entI tb (by omega) l2 b0 b1 (b.es.length - c) 0 KK _ _ K1 _ _ (by omega) (by rw [KK_eq]; omega) (by simp; omega) hN1 (fun u n bq K bad hN => ?_)
        exact final_eq hN
    · skip
      have eh : hardL a b = [rcD ⟨1, b.t, 0, b.v, ⟨#[]⟩⟩] := if_pos hd
      have es : snapL a b = [rcD ⟨4, b.st, b.si, 0, b.sd⟩] := if_pos sd
      have ev : haveL a b = behindG a b.si b.st := if_pos sd
      have sd2 := sd
      unfold snapD at sd2
      rw [eh, es]
      obtain ⟨K1, bad1, h1, hN1, h3, h4⟩ := note_eq (hard_note ka) (by simp) ⟨1, b.t, 0, b.v, ⟨#[]⟩⟩
      obtain ⟨u0, u1, u2, u3, u4, u5, u6, u7⟩ := note_o K1 ([] ++ [rcD ⟨1, b.t, 0, b.v, ⟨#[]⟩⟩]) bad1
      simp only at h1
      obtain ⟨K2, bad2, g1, hN2, g3, g4⟩ := note_eq hN1 (by simp) ⟨4, b.st, b.si, 0, b.sd⟩
      obtain ⟨v0, v1, v2, v3, v4, v5, v6, v7⟩ := note_o K2 (([] ++ [rcD ⟨1, b.t, 0, b.v, ⟨#[]⟩⟩]) ++ [rcD ⟨4, b.st, b.si, 0, b.sd⟩]) bad2
      simp only at g1
      have hbad : bad2 = false → K2.es = haveL a b := fun hb => by
        have hb1 : bad1 = false := by cases bad1 <;> simp_all
        obtain ⟨q1, q2, q3⟩ := h4 hb1
        obtain ⟨w1, w2, w3⟩ := g4 hb
        obtain ⟨x1, x2⟩ := stepK_hard q2 q3
        rw [w1, stepK_snap w2 w3, ev]
        exact behindG_congr (by rw [q1, x1]) (by rw [q1, x2]) _ _
      simp only [hd, sd2, if_true, Bool.false_eq_true, if_false, chk_true, note_w, h1, u0, u1, u2, u3, u4, u5, u6, u7, g1, v0, v1, v2, v3, v4, v5, v6, v7]
      rw [show ([rcD ⟨1, b.t, 0, b.v, ⟨#[]⟩⟩] ++ [rcD ⟨4, b.st, b.si, 0, b.sd⟩] ++ restL (haveL a b) b : List (List D)) = (([] ++ [rcD ⟨1, b.t, 0, b.v, ⟨#[]⟩⟩]) ++ [rcD ⟨4, b.st, b.si, 0, b.sd⟩] : List (List D)) ++ restL (haveL a b) b from by simp]
      have hK := hN2.ki.h3
      have hK2 := hN2.ki.h2
      refine Eq.trans ?_ (rest_eq hN2 hbad)
      obtain ⟨l1, l2⟩ := cpl_le K2.es b.es (K2.es.length + 1) 0 (by omega) (by omega)
      refine sameI hK tb (by omega) (K2.es.length + 1) 0 KK _ (by omega) (by omega) (by rw [KK_eq]; omega) (fun bb => ?_)
      unfold restL
      generalize cpl K2.es b.es (K2.es.length + 1) 0 = c at l1 l2 ⊢
      by_cases hc : c < K2.es.length
      · have hc2 : decide ((c : Int) < (K2.es.length : Int)) = true := nat_in hc
        obtain ⟨K3, bad3, m1, m2, m3, m4⟩ := note_eq hN2 (by simp) ⟨3, 0, b.si + (c : Int) + 1, 0, ⟨#[]⟩⟩
        obtain ⟨p0, p1, p2, p3, p4, p5, p6, p7⟩ := note_o K3 ((([] ++ [rcD ⟨1, b.t, 0, b.v, ⟨#[]⟩⟩]) ++ [rcD ⟨4, b.st, b.si, 0, b.sd⟩] : List (List D)) ++ [rcD ⟨3, 0, b.si + (c : Int) + 1, 0, ⟨#[]⟩⟩]) bad3
        simp only at m1
        have ec : cutL K2.es b c = [rcD ⟨3, 0, b.si + (c : Int) + 1, 0, ⟨#[]⟩⟩] := if_pos hc
        rw [ec, ← List.append_assoc]
        simp only [hc2, e1 c (by omega), m1, note_w, chk_true, if_true, p0, p1, p2, p3, p4, p5, p6, p7, e12 c l2, Int.toNat_natCast]
        refine entI tb (by omega) l2 b0 b1 (b.es.length - c) 0 KK _ _ K3 bad3 _ (by omega) (by rw [KK_eq]; omega) (by simp; omega) m2 (fun u n bq K bad hN => ?_)
        exact final_eq hN
      · have hc2 : decide ((c : Int) < (K2.es.length : Int)) = false := by simp; omega
        have ec : cutL K2.es b c = [] := if_neg hc
        rw [ec, List.nil_append]
        simp only [hc2, Bool.false_eq_true, if_false, chk_true, e12 c l2, Int.toNat_natCast]
        refine entI tb (by omega) l2 b0 b1 (b.es.length - c) 0 KK _ _ K2 _ _ (by omega) (by rw [KK_eq]; omega) (by simp; omega) hN2 (fun u n bq K bad hN => ?_)
        exact final_eq hN
end Go.Den.L10

/- Draws: the cursor. -/
namespace Go.Den.L10
open Go
/-- A cursor over the bytes l, at i. -/
def Cu (l : List (List D)) (i : Int) : Prop := (l.length ≤ 1048576 ∧ ∀ r ∈ l, typL [.i .u8] r) ∧ 0 ≤ i ∧ i ≤ l.length
def PQ (zr : List DV) (zo : List (List D)) (P : Rs → Prop) (o : Rs) : Prop := okR zr zo o = true ∧ P o
theorem pq_chk {zr : List DV} {zo : List (List D)} {P : Rs → Prop} {b : Bool} {x : Rs} (h : b = true) (hx : PQ zr zo P x) : PQ zr zo P (chk b x) := by rw [chk_ok h]; exact hx
theorem pq_ite {zr : List DV} {zo : List (List D)} {P : Rs → Prop} {c : Bool} {x y : Rs} (h1 : c = true → PQ zr zo P x) (h2 : c = false → PQ zr zo P y) : PQ zr zo P (if c = true then x else y) := by
  cases c
  · exact h2 rfl
  · exact h1 rfl
theorem pq_mono {zr : List DV} {zo : List (List D)} {P Q : Rs → Prop} {o : Rs} (h : PQ zr zo P o) (hp : P o → Q o) : PQ zr zo Q o := ⟨h.1, hp h.2⟩
theorem wrap_in (n : Int) (h : 0 ≤ n ∧ n ≤ 255) : IntKind.wrap .i64 n = n := Go.IntWalk.i64_in n (by omega)
theorem and255 (x : Int) : 0 ≤ bitAnd .i64 x 255 ∧ bitAnd .i64 x 255 ≤ 255 := by
  have h : (BitVec.ofInt (IntKind.bits .i64) x &&& BitVec.ofInt (IntKind.bits .i64) 255).toNat ≤ 255 := by
    rw [BitVec.toNat_and]
    exact Nat.le_trans Nat.and_le_right (by decide)
  unfold bitAnd
  generalize (BitVec.ofInt (IntKind.bits .i64) x &&& BitVec.ofInt (IntKind.bits .i64) 255).toNat = k at h
  rw [wrap_in _ (by omega)]
  omega
theorem code_row {l : List (List D)} {i : Int} (C : Cu l i) (h : i < l.length) : isRow z5 (l.getD i.toNat []) = true := by
  have := getD_row C.1.2 (i := i.toNat) (by have := C.2.1; omega)
  obtain ⟨d, r, e, ⟨n, rfl, _⟩, rfl⟩ := this
  rw [e]; rfl
theorem Cu.step {l : List (List D)} {i : Int} (C : Cu l i) (h : i < l.length) : Cu l (w64 (i + 1)) := by
  have := C.1.1; have := C.2.1
  rw [w64_in _ (by omega)]
  exact ⟨C.1, by omega, by omega⟩
theorem d93 {l : List (List D)} {i : Int} (C : Cu l i) (h : Int) : PQ zr93 zo93 (fun o => Cu l (asI (outC o 0 1)) ∧ (0 ≤ asI (resC o 0 0) ∧ asI (resC o 0 0) ≤ 255) ∧ True) (t93 l i h) := by
  unfold t93
  extract_lets +onlyGivenNames -underBinder k1
  refine pq_ite (fun g => ?_) (fun g => ?_)
  · have hi : i < l.length := by simpa using g
    refine pq_chk (by rw [code_row C hi]; have := C.2.1; simp; omega) ?_
    exact ⟨rfl, C.step hi, and255 _, trivial⟩
  · exact ⟨rfl, C, and255 _, trivial⟩
theorem emod_le0 {x n : Int} (h : 0 ≤ x) (hn : 0 < n) : x % n ≤ x := by
  have h1 := Int.emod_add_mul_ediv x n
  have h2 := Int.mul_nonneg (Int.le_of_lt hn) (Int.ediv_nonneg h (Int.le_of_lt hn))
  omega
theorem d79 {l : List (List D)} {i : Int} (C : Cu l i) (h n : Int) : PQ zr79 zo79 (fun o => Cu l (asI (outC o 0 1)) ∧ (0 ≤ asI (resC o 0 0) ∧ asI (resC o 0 0) ≤ 4294967295 ∧ (0 < n → asI (resC o 0 0) < n)) ∧ True) (t79 l i h n) := by
  unfold t79 ta79
  refine pq_ite (fun g => ?_) (fun g => ?_)
  · have : n ≤ 0 := by simpa using g
    exact ⟨rfl, C, ⟨Int.le_refl 0, by show (0 : Int) ≤ _; decide, fun h => by omega⟩, trivial⟩
  have hn : 0 < n := by simpa using g
  have hz : (n != 0) = true := by simp; omega
  refine pq_ite (fun g2 => ?_) (fun g2 => ?_)
  · extract_lets +onlyGivenNames -underBinder y1
    obtain ⟨a1, c1, b1, -⟩ : PQ zr93 zo93 _ y1 := d93 C _
    clear_value y1
    refine pq_chk a1 (pq_chk hz ⟨rfl, c1, ?_, trivial⟩)
    have h1 := Int.tmod_nonneg n b1.1
    have h2 := Int.tmod_lt_of_pos (asI (resC y1 0 0)) hn
    have h3 : n ≤ 256 := by simpa using g2
    show 0 ≤ (asI (resC y1 0 0)).tmod n ∧ (asI (resC y1 0 0)).tmod n ≤ 4294967295 ∧ (0 < n → (asI (resC y1 0 0)).tmod n < n)
    omega
  · extract_lets +onlyGivenNames -underBinder y2
    obtain ⟨a2, c2, b2, -⟩ : PQ zr93 zo93 _ y2 := d93 C _
    clear_value y2
    refine pq_chk a2 ?_
    extract_lets +onlyGivenNames -underBinder y3
    obtain ⟨a3, c3, b3, -⟩ : PQ zr93 zo93 _ y3 := d93 c2 _
    clear_value y3
    refine pq_chk a3 ?_
    extract_lets +onlyGivenNames -underBinder y4
    obtain ⟨a4, c4, b4, -⟩ : PQ zr93 zo93 _ y4 := d93 c3 _
    clear_value y4
    refine pq_chk a4 ?_
    extract_lets +onlyGivenNames -underBinder y5
    obtain ⟨a5, c5, b5, -⟩ : PQ zr93 zo93 _ y5 := d93 c4 _
    clear_value y5
    refine pq_chk a5 (pq_chk hz ⟨rfl, c5, ?_, trivial⟩)
    show 0 ≤ Int.tmod _ n ∧ Int.tmod _ n ≤ 4294967295 ∧ (0 < n → Int.tmod _ n < n)
    rw [w64_in (asI (resC y2 0 0) * 16777216) (by omega), w64_in (asI (resC y3 0 0) * 65536) (by omega), w64_in (asI (resC y2 0 0) * 16777216 + asI (resC y3 0 0) * 65536) (by omega), w64_in (asI (resC y4 0 0) * 256) (by omega), w64_in (asI (resC y2 0 0) * 16777216 + asI (resC y3 0 0) * 65536 + asI (resC y4 0 0) * 256) (by omega), w64_in (asI (resC y2 0 0) * 16777216 + asI (resC y3 0 0) * 65536 + asI (resC y4 0 0) * 256 + asI (resC y5 0 0)) (by omega)]
    have hx : 0 ≤ asI (resC y2 0 0) * 16777216 + asI (resC y3 0 0) * 65536 + asI (resC y4 0 0) * 256 + asI (resC y5 0 0) ∧ asI (resC y2 0 0) * 16777216 + asI (resC y3 0 0) * 65536 + asI (resC y4 0 0) * 256 + asI (resC y5 0 0) ≤ 4294967295 := by omega
    have h1 := Int.tmod_nonneg n hx.1
    have h2 := Int.tmod_lt_of_pos (asI (resC y2 0 0) * 16777216 + asI (resC y3 0 0) * 65536 + asI (resC y4 0 0) * 256 + asI (resC y5 0 0)) hn
    have h3 : (asI (resC y2 0 0) * 16777216 + asI (resC y3 0 0) * 65536 + asI (resC y4 0 0) * 256 + asI (resC y5 0 0)).tmod n ≤ asI (resC y2 0 0) * 16777216 + asI (resC y3 0 0) * 65536 + asI (resC y4 0 0) * 256 + asI (resC y5 0 0) := by
      rw [Int.tmod_eq_emod_of_nonneg hx.1]; exact emod_le0 hx.1 hn
    omega
theorem d74 {l : List (List D)} {i : Int} (C : Cu l i) (h n : Int) : PQ zr74 zo74 (fun o => Cu l (asI (outC o 0 1)) ∧ True) (t74 l i h n) := by
  unfold t74 ta74
  extract_lets +onlyGivenNames -underBinder y1
  obtain ⟨a1, c1, -⟩ : PQ zr79 zo79 _ y1 := d79 C _ _
  clear_value y1
  exact pq_chk a1 ⟨rfl, c1, trivial⟩
/-- A list to pick from. -/
def okL (z : List D) (x : List (List D)) : Bool := !x.isEmpty && x.all (isRow z)
theorem okL_at {z : List D} {x : List (List D)} (h : okL z x = true) {y : Int} (h0 : 0 ≤ y) (h1 : 0 < (x.length : Int) → y < x.length) : (decide (0 ≤ y) && decide (y < x.length) && isRow z (x.getD y.toNat [])) = true := by
  simp only [okL, Bool.and_eq_true, Bool.not_eq_true', List.all_eq_true] at h
  have hl : 0 < x.length := by cases x with | nil => simp at h | cons _ _ => simp
  have h2 := h1 (by omega)
  simp only [Bool.and_eq_true, decide_eq_true_eq]
  exact ⟨⟨h0, h2⟩, h.2 _ (mem_getD (by omega))⟩
theorem d81 {l : List (List D)} {i : Int} (C : Cu l i) (h : Int) (x : List (List D)) (hx : okL z3 x = true) : PQ zr81 zo81 (fun o => Cu l (asI (outC o 0 1)) ∧ (asI (resC o 0 0)) ∈ x.map (fun r => asI (nthD r 0)) ∧ True) (t81 l i h x) := by
  unfold t81 ta81
  extract_lets +onlyGivenNames -underBinder y1
  obtain ⟨a1, c1, b1, -⟩ : PQ zr79 zo79 _ y1 := d79 C _ _
  clear_value y1
  refine pq_chk a1 ?_
  extract_lets +onlyGivenNames -underBinder y2 y3
  have hc : (decide (0 ≤ y2) && decide (y2 < x.length) && isRow z3 (x.getD y2.toNat [])) = true := okL_at hx b1.1 b1.2.2
  refine pq_chk hc ⟨rfl, c1, ?_, trivial⟩
  simp only [Bool.and_eq_true, decide_eq_true_eq] at hc
  exact List.mem_map.2 ⟨_, mem_getD (by omega), rfl⟩
theorem new_loop (l : List (List D)) (q : Int → Int → Bool → Rs) (hl : l.length ≤ 1048576) (ht : ∀ r ∈ l, typL [.i .u8] r) (Q : Rs → Prop) (hq : ∀ a b c, Q (q a b c)) :
    ∀ (k i m : Nat) (n6 : Int) (v : SV), i + k = l.length → k < m → Q (l72o0 l q m n6 (i : Int) v) := by
  intro k
  induction k with
  | zero =>
    intro i m n6 v e hm
    obtain ⟨m, rfl⟩ : ∃ m', m = m' + 1 := ⟨m - 1, by omega⟩
    unfold l72o0
    have : decide ((i : Int) < (l.length : Int)) = false := by simp; omega
    simp only [this, Bool.false_and, Bool.false_eq_true, if_false]
    exact hq _ _ _
  | succ k ih =>
    intro i m n6 v e hm
    obtain ⟨m, rfl⟩ : ∃ m', m = m' + 1 := ⟨m - 1, by omega⟩
    unfold l72o0
    have h1 : decide ((i : Int) < (l.length : Int)) = true := by simp; omega
    by_cases h2 : (i : Int) < 4000
    · have C : Cu l (i : Int) := ⟨⟨hl, ht⟩, by omega, by omega⟩
      have h3 := code_row C (by omega)
      have h4 : (decide ((0 : Int) ≤ (i : Int)) && true && isRow z5 (l.getD (i : Int).toNat [])) = true := by rw [h3]; simp
      simp only [h1, h2, decide_true, Bool.and_self, if_true]
      rw [chk_ok h4, w64_succ _ (by omega)]
      exact ih (i + 1) m _ _ (by omega) (by omega)
    · simp only [h1, h2, decide_false, Bool.and_false, Bool.false_eq_true, if_false]
      exact hq _ _ _
theorem d72 (l : List (List D)) (hl : l.length ≤ 1048576) (ht : ∀ r ∈ l, typL [.i .u8] r) : PQ zr72 zo72 (fun o => asL (resC o 0 0) = l ∧ Cu l (asI (resC o 0 1)) ∧ True) (t72 l) := by
  unfold t72
  refine new_loop l _ hl ht _ (fun a b c => ?_) l.length 0 KK _ _ (by omega) (by rw [KK_eq]; omega)
  exact ⟨rfl, rfl, ⟨⟨hl, ht⟩, Int.le_refl 0, by show (0 : Int) ≤ _; omega⟩, trivial⟩
theorem n72 (l : List (List D)) (hl : l.length ≤ 1048576) (ht : ∀ r ∈ l, typL [.i .u8] r) : PQ zr72 zo72 (fun o => Cu (asL (resC o 0 0)) (asI (resC o 0 1)) ∧ True) (t72 l) :=
  pq_mono (d72 l hl ht) fun ⟨h1, h2, _⟩ => ⟨by rw [h1]; exact h2, trivial⟩
end Go.Den.L10

/- Draws: texts, names, paths. -/
namespace Go.Den.L10
open Go
theorem bytesD_le : ∀ (l : List (List D)), (bytesD l).length ≤ l.length
  | [] => Nat.le_refl 0
  | r :: l => by
    have := bytesD_le l
    unfold bytesD
    split <;> simp_all <;> omega
theorem isBytes_app {a b : List (List D)} (ha : isBytes a = true) (hb : isBytes b = true) : isBytes (a ++ b) = true := by
  induction a with
  | nil => exact hb
  | cons r a ih =>
    match r, ha with
    | [.i .u8 n], ha => exact ih ha
theorem text_loop {n15 : Int} {s16 : ByteArray} (n17 : Int) (l : List (List D)) (q1 : Int → SV → Bool → SV → SV → Int → Int → List (List D) → Rs) (Q : Rs → Prop) (B : Nat) (hB : B ≤ 1048576)
    (hq : ∀ a b c d e i h (x : List (List D)), Cu l i → x.length ≤ B → isBytes x = true → Q (q1 a b c d e i h x)) :
    ∀ (k m : Nat) (v19 v20 v21 v22 : SV) (i h : Int) (x : List (List D)), Cu l i → x.length + k ≤ B → isBytes x = true → k < m → Q (la92o0 t79 t93 n15 s16 n17 l q1 m (k : Int) v19 v20 v21 v22 i h x) := by
  intro k
  induction k with
  | zero =>
    intro m v19 v20 v21 v22 i h x C hx hb hm
    obtain ⟨m, rfl⟩ : ∃ m', m = m' + 1 := ⟨m - 1, by omega⟩
    unfold la92o0
    exact hq _ _ _ _ _ _ _ _ C (by omega) hb
  | succ k ih =>
    intro m v19 v20 v21 v22 i h x C hx hb hm
    obtain ⟨m, rfl⟩ : ∃ m', m = m' + 1 := ⟨m - 1, by omega⟩
    unfold la92o0
    have h1 : decide (((k + 1 : Nat) : Int) > 0) = true := decide_eq_true (by omega)
    have h2 : w64 (((k + 1 : Nat) : Int) - 1) = (k : Int) := by rw [w64_in _ (by omega)]; omega
    obtain ⟨a, c, -⟩ := d93 C h
    have step : ∀ (n28 : Int) (v19 v20 v21 v22 : SV), Q (chk ((flatR 1 [[D.i .u8 (IntKind.wrap .u8 n28)]]) && decide (x.length + [[D.i .u8 (IntKind.wrap .u8 n28)]].length ≤ lim)) (la92o0 t79 t93 n15 s16 n17 l q1 m (k : Int) v19 v20 v21 v22 (asI (outC (t93 l i h) 0 1)) (asI (outC (t93 l i h) 0 2)) (x ++ [[D.i .u8 (IntKind.wrap .u8 n28)]]))) := by
      intro n28 v19 v20 v21 v22
      rw [chk_ok (by rw [Bool.and_eq_true]; exact ⟨rfl, decide_eq_true (by simp only [List.length_cons, List.length_nil]; unfold lim; omega)⟩)]
      exact ih m _ _ _ _ _ _ _ c (by simp; omega) (isBytes_app hb rfl) (by omega)
    simp only [h1, if_true, h2, chk_ok a]
    split <;> split <;> exact step _ _ _ _ _
theorem d92 {l : List (List D)} {i : Int} (C : Cu l i) (h n : Int) (hn : 0 ≤ n ∧ n ≤ 1000) : PQ zr92 zo92 (fun o => Cu l (asI (outC o 0 1)) ∧ (asS (resC o 0 0)).size ≤ 1000 ∧ True) (t92 l i h n) := by
  unfold t92 ta92
  extract_lets +onlyGivenNames -underBinder y1
  obtain ⟨a1, c1, b1, -⟩ : PQ zr79 zo79 _ y1 := d79 C _ _
  clear_value y1
  refine pq_chk a1 ?_
  extract_lets +onlyGivenNames -underBinder y2
  obtain ⟨a2, c2, b2, -⟩ : PQ zr79 zo79 _ y2 := d79 c1 _ _
  clear_value y2
  refine pq_chk a2 ?_
  obtain ⟨k, hk, hk2⟩ : ∃ k : Nat, asI (resC y2 0 0) = (k : Int) ∧ k ≤ 1000 := by
    refine ⟨(asI (resC y2 0 0)).toNat, by omega, ?_⟩
    have e := w64_in (n + 1) (by omega)
    rw [e] at b2
    omega
  rw [hk]
  refine text_loop _ l _ _ 1000 (by omega) (fun a b c d e i' h' x C' hx hb => ?_) k KK _ _ _ _ _ _ _ c2 (by simpa using hk2) rfl (by rw [KK_eq]; omega)
  refine pq_chk hb ⟨rfl, C', ?_, trivial⟩
  have := bytesD_le x
  show (bytesD x).toArray.size ≤ 1000
  simp; omega
end Go.Den.L10

/- Draws: facts of what is drawn; kept states. -/
namespace Go.Den.L10
open Go
def I64 (n : Int) : Prop := -9223372036854775808 ≤ n ∧ n ≤ 9223372036854775807
/-- Rows of a kind, not too many. -/
def EL (sh : List Sh) (N : Nat) (l : List (List D)) : Prop := l.length ≤ N ∧ ∀ r ∈ l, typL sh r
theorem i64_w64 (x : Int) : I64 (w64 x) := by unfold I64 w64; rw [IntKind.wrap_i64]; omega
theorem i64_b {v n : Int} (h : 0 ≤ v ∧ v ≤ 4294967295 ∧ (0 < n → v < n)) : I64 v := by unfold I64; omega
theorem i64_pick {v : Int} {x : List (List D)} (h : v ∈ x.map (fun r => asI (nthD r 0))) (hx : (x.all fun r => decide (-9223372036854775808 ≤ asI (nthD r 0) ∧ asI (nthD r 0) ≤ 9223372036854775807)) = true) : I64 v := by
  obtain ⟨r, hr, rfl⟩ := List.mem_map.1 h
  have h := List.all_eq_true.1 hx r hr
  exact of_decide_eq_true (p := _ ∧ _) h
theorem wfI {n : Int} (h : I64 n) : (Lit.int .i64 n).wf = true := by
  have e := w64_in n h
  unfold w64 at e
  simp [Lit.wf, e]
  exact h
theorem el_nil (sh : List Sh) : EL sh 0 [] := ⟨Nat.le_refl 0, fun r h => by cases h⟩
theorem el_one {sh : List Sh} {r : List D} (h : typL sh r) : EL sh 1 [r] := ⟨Nat.le_refl 1, fun q hq => by rw [List.mem_singleton.1 hq]; exact h⟩
theorem el_app {sh : List Sh} {a b : Nat} {x y : List (List D)} (hx : EL sh a x) (hy : EL sh b y) : EL sh (a + b) (x ++ y) := ⟨by rw [List.length_append]; have := hx.1; have := hy.1; omega, fun r h => by
  rcases List.mem_append.1 h with h | h
  · exact hx.2 r h
  · exact hy.2 r h⟩
theorem el_mono {sh : List Sh} {a b : Nat} {x : List (List D)} (h : a ≤ b) (hx : EL sh a x) : EL sh b x := ⟨Nat.le_trans hx.1 h, hx.2⟩
theorem el_take {sh : List Sh} {a n : Nat} {x : List (List D)} (hx : EL sh a x) : EL sh a (x.take n) := ⟨by rw [List.length_take]; have := hx.1; omega, fun r h => hx.2 r (List.mem_of_mem_take h)⟩
theorem el_drop {sh : List Sh} {a n : Nat} {x : List (List D)} (hx : EL sh a x) : EL sh a (x.drop n) := ⟨by rw [List.length_drop]; have := hx.1; omega, fun r h => hx.2 r (List.mem_of_mem_drop h)⟩
theorem sz_app {a b : Nat} {x y : ByteArray} (hx : x.size ≤ a) (hy : y.size ≤ b) : (x ++ y).size ≤ a + b := by rw [ByteArray.size_append]; omega
theorem typ_getD {sh : List Sh} {a i : Nat} {x : List (List D)} (hx : EL sh a x) (h : i < x.length) : typL sh (x.getD i []) := hx.2 _ (mem_getD h)
theorem row_is {r : List D} (h : typL [.i .i64, .s] r) : (decide (1 ≤ r.length) && isF z3 0 r) = true := by
  obtain ⟨d, r1, e, ⟨n, rfl, _⟩, d2, r2, e2, ⟨s, rfl, _⟩, e3⟩ := h
  subst e e2 e3; rfl
theorem ent_loop (n17 n19 : Int) (l24 : List (List D)) (q1 : Int → Int → Bool → Bool → Bool → Int → Int → List (List D) → Rs) (q2 : Int → Int → Bool → SV → SV → Int → Int → List (List D) → Rs) (Q : Rs → Prop)
    (h1 : ∀ a b c d e i h x, Cu l24 i → EL [.i .i64, .s] 60 x → Q (q1 a b c d e i h x)) (h2 : ∀ a b c d e i h x, Cu l24 i → EL [.i .i64, .s] 60 x → Q (q2 a b c d e i h x)) :
    ∀ (k m : Nat) (n18 : Int) (v1 v2 v3 : SV) (i h : Int) (x : List (List D)), I64 n18 → Cu l24 i → EL [.i .i64, .s] (60 - k) x → k ≤ 60 → k < m → Q (la96o0 t74 t79 t92 n17 n19 l24 q1 q2 m n18 (k : Int) v1 v2 v3 i h x) := by
  intro k
  induction k with
  | zero =>
    intro m n18 v1 v2 v3 i h x hi C hx hk hm
    obtain ⟨m, rfl⟩ : ∃ m', m = m' + 1 := ⟨m - 1, by omega⟩
    unfold la96o0
    exact h2 _ _ _ _ _ _ _ _ C (el_mono (by omega) hx)
  | succ k ih =>
    intro m n18 v1 v2 v3 i h x hi C hx hk hm
    obtain ⟨m, rfl⟩ : ∃ m', m = m' + 1 := ⟨m - 1, by omega⟩
    unfold la96o0
    have g1 : decide (((k + 1 : Nat) : Int) > 0) = true := decide_eq_true (by omega)
    have g2 : w64 (((k + 1 : Nat) : Int) - 1) = (k : Int) := by rw [w64_in _ (by omega)]; omega
    -- a round: one more
    have step : ∀ (n : Int) (i h : Int) (b1 b2 : Bool), I64 n → Cu l24 i → Q (if b1 = true then q1 n ((k + 1 : Nat) : Int) true b2 b1 i h x else
        (chk (okR zr92 zo92 (t92 l24 i h 8)) (chk ((flatR 2 [[D.i .i64 n, .s (asS (resC (t92 l24 i h 8) 0 0))]]) && decide (x.length + [[D.i .i64 n, .s (asS (resC (t92 l24 i h 8) 0 0))]].length ≤ lim))
          (la96o0 t74 t79 t92 n17 n19 l24 q1 q2 m n (k : Int) (.d (.b true)) (.d (.b b2)) (.d (.b b1)) (asI (outC (t92 l24 i h 8) 0 1)) (asI (outC (t92 l24 i h 8) 0 2)) (x ++ [[D.i .i64 n, .s (asS (resC (t92 l24 i h 8) 0 0))]]))))) := by
      intro n i h b1 b2 hn C
      cases b1 with
      | true => simp only [if_true]; exact h1 _ _ _ _ _ _ _ _ C (el_mono (by omega) hx)
      | false =>
        obtain ⟨a, c, p, -⟩ := d92 C h 8 (by decide)
        have hx1 := hx.1
        have el := el_app hx (el_one (sh := [.i .i64, .s]) (r := [D.i .i64 n, .s (asS (resC (t92 l24 i h 8) 0 0))]) ⟨_, _, rfl, ⟨_, rfl, wfI hn⟩, _, _, rfl, ⟨_, rfl, Nat.le_trans p (by decide)⟩, rfl⟩)
        simp only [Bool.false_eq_true, if_false]
        rw [chk_ok a, chk_ok (by rw [Bool.and_eq_true]; exact ⟨rfl, decide_eq_true (by simp only [List.length_cons, List.length_nil]; unfold lim; omega)⟩)]
        exact ih m _ _ _ _ _ _ _ hn c (el_mono (by omega) el) (by omega) (by omega)
    simp only [g1, if_true, g2]
    split
    · obtain ⟨a4, c4, -⟩ := d74 C h 3
      rw [chk_ok a4]
      split
      · exact step _ _ _ _ _ (i64_w64 _) c4
      · exact step _ _ _ _ _ hi c4
    · rename_i hg
      rw [chk_ok (by revert hg; generalize decide (n18 < 1) = u; generalize decide (n18 < n19) = v; revert u v; decide)]
      split
      · exact step _ _ _ _ _ (i64_w64 _) C
      · exact step _ _ _ _ _ hi C
theorem d96 {l : List (List D)} {i : Int} (C : Cu l i) (h n4 n5 n6 : Int) (h4 : 0 ≤ n4 ∧ n4 ≤ 50) (h5 : I64 n5) : PQ zr96 zo96 (fun o => Cu l (asI (outC o 0 1)) ∧ EL [.i .i64, .s] 60 (asL (resC o 0 0)) ∧ True) (t96 l i h n4 n5 n6) := by
  unfold t96 ta96
  extract_lets +onlyGivenNames -underBinder y1
  obtain ⟨a1, c1, b1, -⟩ : PQ zr79 zo79 _ y1 := d79 C _ _
  clear_value y1
  refine pq_chk a1 ?_
  rw [w64_in (n4 + 1) (by omega)] at b1
  obtain ⟨k, hk, hk2⟩ : ∃ k : Nat, asI (resC y1 0 0) = (k : Int) ∧ k ≤ 50 := ⟨(asI (resC y1 0 0)).toNat, by omega, by omega⟩
  rw [hk]
  refine ent_loop _ _ l _ _ _ (fun a b c d e i' h' x C' hx => ?_) (fun a b c d e i' h' x C' hx => ?_) k KK _ _ _ _ _ _ _ h5 c1 (el_mono (by omega) (el_nil _)) (by omega) (by rw [KK_eq]; omega)
  · exact ⟨rfl, C', hx, trivial⟩
  · exact ⟨rfl, C', hx, trivial⟩
theorem n53 (t v si st : Int) (sd : ByteArray) (l : List (List D)) (h0 : I64 t) (h1 : I64 v) (h2 : I64 si) (h3 : I64 st) (h4 : sd.size ≤ 5000) (h5 : EL [.i .i64, .s] 6200 l) : PQ zr53 zo53 (fun o => I64 (asI (resC o 0 0)) ∧ I64 (asI (resC o 0 1)) ∧ I64 (asI (resC o 0 2)) ∧ I64 (asI (resC o 0 3)) ∧ (asS (resC o 0 4)).size ≤ 5000 ∧ EL [.i .i64, .s] 6200 (asL (resC o 0 5)) ∧ True) (t53 t v si st sd l) := by
  rw [l3Copy_eq t v si st sd l h5.2 (Nat.le_trans h5.1 (by decide))]
  exact ⟨rfl, h0, h1, h2, h3, h4, h5, trivial⟩
end Go.Den.L10

namespace Go.Den.L10
open Go
theorem lp91_3 (n32 : Int) (b33 : Bool) (b34 : Bool) (b35 : Bool) (l37 : List (List D)) (n38 : Int) (n39 : Int) (n40 : Int) (n41 : Int) (n42 : Int) (n43 : Int) (s44 : ByteArray) (n45 : Int) (n46 : Int) (n47 : Int) (n48 : Int) (s49 : ByteArray) (q1 : Bool → List (List D) → Rs) (Q : Rs → Prop) (I_n45 : I64 n45) (hn : n32 ≤ 2000) (hq : ∀ a x, EL [.i .i64, .s] 6000 x → Q (q1 a x)) : ∀ (k m : Nat) (v : SV) (x : List (List D)), 2000 - x.length ≤ k → k < m → EL [.i .i64, .s] 6000 x → Q (la91o3 t74 t79 t92 t96 n32 b33 b34 b35 l37 n38 n39 n40 n41 n42 n43 s44 n45 n46 n47 n48 s49 q1 m v x) := by
  intro k
  induction k with
  | zero =>
    intro m v x hk hm hx
    obtain ⟨m, rfl⟩ : ∃ m', m = m' + 1 := ⟨m - 1, by omega⟩
    unfold la91o3
    have : decide ((x.length : Int) < n32) = false := decide_eq_false (by omega)
    simp only [this, Bool.false_eq_true, if_false]
    exact hq _ _ hx
  | succ k ih =>
    intro m v x hk hm hx
    obtain ⟨m, rfl⟩ : ∃ m', m = m' + 1 := ⟨m - 1, by omega⟩
    unfold la91o3
    by_cases g : (x.length : Int) < n32
    · simp only [decide_eq_true g, if_true]
      have hx1 := hx.1
      have el := el_app hx (el_one (sh := [.i .i64, .s]) (by exact ⟨_, _, rfl, ⟨_, rfl, wfI I_n45⟩, ⟨_, _, rfl, ⟨_, rfl, Nat.le_trans (show (⟨#[]⟩ : ByteArray).size ≤ 0 from Nat.le_of_eq rfl) (by decide)⟩, rfl⟩⟩))
      rw [chk_ok (by rw [Bool.and_eq_true]; exact ⟨rfl, decide_eq_true (by simp only [List.length_cons, List.length_nil]; unfold lim; omega)⟩)]
      exact ih m _ _ (by simp; omega) (by omega) ⟨by simp; omega, el.2⟩
    · simp only [decide_eq_false g, Bool.false_eq_true, if_false]
      exact hq _ _ hx

theorem d91 {l1 : List (List D)} {n2 : Int} (C : Cu l1 n2) (n3 : Int)  : PQ zr91 zo91 (fun o => Cu l1 (asI (outC o 0 1)) ∧ I64 (asI (resC o 0 0)) ∧ I64 (asI (resC o 0 1)) ∧ I64 (asI (resC o 0 2)) ∧ I64 (asI (resC o 0 3)) ∧ (asS (resC o 0 4)).size ≤ 1000 ∧ EL [.i .i64, .s] 6000 (asL (resC o 0 5)) ∧ True) (t91 l1 n2 n3) := by
  unfold t91 ta91
  extract_lets -merge -useContext +onlyGivenNames -underBinder y1
  obtain ⟨a_y1, c_y1, b_y1, -⟩ : PQ zr79 zo79 _ y1 := d79 C _ _
  clear_value y1
  refine pq_chk a_y1 ?_
  extract_lets -merge -useContext +onlyGivenNames -underBinder y2
  obtain ⟨a_y2, c_y2, b_y2, -⟩ : PQ zr79 zo79 _ y2 := d79 c_y1 _ _
  clear_value y2
  refine pq_chk a_y2 ?_
  extract_lets -merge -useContext +onlyGivenNames -underBinder y3
  extract_lets -merge -useContext +onlyGivenNames -underBinder y4
  refine pq_ite (fun g1 => ?_) (fun g1 => ?_)
  ·
    extract_lets -merge -useContext +onlyGivenNames -underBinder y5
    extract_lets -merge -useContext +onlyGivenNames -underBinder y6
    extract_lets -merge -useContext +onlyGivenNames -underBinder y7
    obtain ⟨a_y7, c_y7, -⟩ : PQ zr74 zo74 _ y7 := d74 c_y2 _ _
    clear_value y7
    refine pq_chk a_y7 ?_
    extract_lets -merge -useContext +onlyGivenNames -underBinder k1
    have h_k1 : ∀ (n4 : Int) (n5 : Int) (n6 : Int) (n7 : Int) (s8 : ByteArray) (C_k1_n4 : Cu l1 n4) (I_k1_n6 : I64 n6) (I_k1_n7 : I64 n7) (S_k1_s8 : s8.size ≤ 1000), PQ zr91 zo91 (fun o => Cu l1 (asI (outC o 0 1)) ∧ I64 (asI (resC o 0 0)) ∧ I64 (asI (resC o 0 1)) ∧ I64 (asI (resC o 0 2)) ∧ I64 (asI (resC o 0 3)) ∧ (asS (resC o 0 4)).size ≤ 1000 ∧ EL [.i .i64, .s] 6000 (asL (resC o 0 5)) ∧ True) (k1 n4 n5 n6 n7 s8) := by
      intro n4 n5 n6 n7 s8 C_k1_n4 I_k1_n6 I_k1_n7 S_k1_s8
      dsimp -zeta only [k1]
      extract_lets -merge -useContext +onlyGivenNames -underBinder y8
      obtain ⟨a_y8, c_y8, p_y8, -⟩ : PQ zr96 zo96 _ y8 := d96 C_k1_n4 _ _ _ _ (by decide) I_k1_n7
      clear_value y8
      refine pq_chk a_y8 ?_
      extract_lets -merge -useContext +onlyGivenNames -underBinder y9
      refine pq_ite (fun g2 => ?_) (fun g2 => ?_)
      ·
        extract_lets -merge -useContext +onlyGivenNames -underBinder y10
        extract_lets -merge -useContext +onlyGivenNames -underBinder y11
        extract_lets -merge -useContext +onlyGivenNames -underBinder y12
        obtain ⟨a_y12, c_y12, -⟩ : PQ zr74 zo74 _ y12 := d74 c_y8 _ _
        clear_value y12
        refine pq_chk a_y12 ?_
        extract_lets -merge -useContext +onlyGivenNames -underBinder k2
        have h_k2 : ∀ (n9 : Int) (n10 : Int) (n11 : Int) (n12 : Int) (s13 : ByteArray) (C_k2_n9 : Cu l1 n9) (I_k2_n11 : I64 n11) (I_k2_n12 : I64 n12) (S_k2_s13 : s13.size ≤ 1000), PQ zr91 zo91 (fun o => Cu l1 (asI (outC o 0 1)) ∧ I64 (asI (resC o 0 0)) ∧ I64 (asI (resC o 0 1)) ∧ I64 (asI (resC o 0 2)) ∧ I64 (asI (resC o 0 3)) ∧ (asS (resC o 0 4)).size ≤ 1000 ∧ EL [.i .i64, .s] 6000 (asL (resC o 0 5)) ∧ True) (k2 n9 n10 n11 n12 s13) := by
          intro n9 n10 n11 n12 s13 C_k2_n9 I_k2_n11 I_k2_n12 S_k2_s13
          dsimp -zeta only [k2]
          extract_lets -merge -useContext +onlyGivenNames -underBinder y13
          refine pq_ite (fun g3 => ?_) (fun g3 => ?_)
          ·
            extract_lets -merge -useContext +onlyGivenNames -underBinder y14
            obtain ⟨a_y14, c_y14, -⟩ : PQ zr74 zo74 _ y14 := d74 C_k2_n9 _ _
            clear_value y14
            refine pq_chk a_y14 ?_
            extract_lets -merge -useContext +onlyGivenNames -underBinder y15
            refine pq_ite (fun g4 => ?_) (fun g4 => ?_)
            ·
              extract_lets -merge -useContext +onlyGivenNames -underBinder y16
              extract_lets -merge -useContext +onlyGivenNames -underBinder y17
              extract_lets -merge -useContext +onlyGivenNames -underBinder y18
              obtain ⟨a_y18, c_y18, b_y18, -⟩ : PQ zr79 zo79 _ y18 := d79 c_y14 _ _
              clear_value y18
              refine pq_chk a_y18 ?_
              extract_lets -merge -useContext +onlyGivenNames -underBinder y19
              extract_lets -merge -useContext +onlyGivenNames -underBinder y20
              extract_lets -merge -useContext +onlyGivenNames -underBinder y21
              extract_lets -merge -useContext +onlyGivenNames -underBinder y22
              extract_lets -merge -useContext +onlyGivenNames -underBinder y23
              extract_lets -merge -useContext +onlyGivenNames -underBinder y24
              refine lp91_3 _ _ _ _ _ _ _ _ _ _ _ _ _ _ _ _ _ _ _ (show I64 y3 from (show I64 (asI (resC y1 0 0)) from (i64_b b_y1))) (by have n0 : ([] : List (List D)).length = 0 := rfl; have q_y18 := b_y18; rw [w64_in _ (by omega)]; omega) (fun b72 l73 F_l73 => ?_) 2000 KK _ _ (by omega) (by rw [KK_eq]; omega) (el_mono (by decide) (show EL [.i .i64, .s] 60 y24 from (show EL [.i .i64, .s] 60 (asL (resC y8 0 0)) from p_y8)))
              exact ⟨rfl, c_y18, (show I64 y3 from (show I64 (asI (resC y1 0 0)) from (i64_b b_y1))), (show I64 y23 from (i64_w64 _)), I_k2_n11, I_k2_n12, (Nat.le_trans S_k2_s13 (by decide)), (el_mono (by decide) F_l73), trivial⟩
            ·
              extract_lets -merge -useContext +onlyGivenNames -underBinder y25
              extract_lets -merge -useContext +onlyGivenNames -underBinder y26
              extract_lets -merge -useContext +onlyGivenNames -underBinder y27
              extract_lets -merge -useContext +onlyGivenNames -underBinder y28
              exact ⟨rfl, c_y14, (show I64 y3 from (show I64 (asI (resC y1 0 0)) from (i64_b b_y1))), (show I64 y25 from (i64_w64 _)), I_k2_n11, I_k2_n12, (Nat.le_trans S_k2_s13 (by decide)), (el_mono (by decide) (show EL [.i .i64, .s] 60 y26 from (show EL [.i .i64, .s] 60 (asL (resC y8 0 0)) from p_y8))), trivial⟩
          ·
            refine pq_chk (by revert g3; generalize y13 = u_y13; revert u_y13; decide) ?_
            extract_lets -merge -useContext +onlyGivenNames -underBinder y29
            extract_lets -merge -useContext +onlyGivenNames -underBinder y30
            exact ⟨rfl, C_k2_n9, (show I64 y3 from (show I64 (asI (resC y1 0 0)) from (i64_b b_y1))), (show I64 y29 from (i64_w64 _)), I_k2_n11, I_k2_n12, (Nat.le_trans S_k2_s13 (by decide)), (el_mono (by decide) (show EL [.i .i64, .s] 60 y30 from (show EL [.i .i64, .s] 60 (asL (resC y8 0 0)) from p_y8))), trivial⟩
        extract_lets -merge -useContext +onlyGivenNames -underBinder y31
        refine pq_ite (fun g5 => ?_) (fun g5 => ?_)
        ·
          extract_lets -merge -useContext +onlyGivenNames -underBinder y32
          extract_lets -merge -useContext +onlyGivenNames -underBinder y33
          extract_lets -merge -useContext +onlyGivenNames -underBinder y34
          obtain ⟨a_y34, c_y34, b_y34, -⟩ : PQ zr79 zo79 _ y34 := d79 c_y12 _ _
          clear_value y34
          refine pq_chk a_y34 ?_
          extract_lets -merge -useContext +onlyGivenNames -underBinder y35
          exact h_k2 (asI (outC y34 0 1)) (asI (outC y34 0 2)) (w64 ((w64 ((100000 : Int) - (y35.length : Int))) + (asI (resC y34 0 0)))) (1 : Int) (⟨#[]⟩ : ByteArray) c_y34 (i64_w64 _) (show I64 (1) by unfold I64; omega) (Nat.le_trans (show (⟨#[]⟩ : ByteArray).size ≤ 0 from Nat.le_of_eq rfl) (by decide))
        ·
          extract_lets -merge -useContext +onlyGivenNames -underBinder y36
          extract_lets -merge -useContext +onlyGivenNames -underBinder y37
          exact h_k2 y36 y37 n6 n7 s8 c_y12 I_k1_n6 I_k1_n7 (Nat.le_trans S_k1_s8 (by decide))
      ·
        refine pq_chk (by revert g2; generalize y9 = u_y9; revert u_y9; decide) ?_
        extract_lets -merge -useContext +onlyGivenNames -underBinder y38
        refine pq_ite (fun g6 => ?_) (fun g6 => ?_)
        ·
          extract_lets -merge -useContext +onlyGivenNames -underBinder y39
          extract_lets -merge -useContext +onlyGivenNames -underBinder y40
          extract_lets -merge -useContext +onlyGivenNames -underBinder y41
          obtain ⟨a_y41, c_y41, -⟩ : PQ zr74 zo74 _ y41 := d74 c_y8 _ _
          clear_value y41
          refine pq_chk a_y41 ?_
          extract_lets -merge -useContext +onlyGivenNames -underBinder y42
          refine pq_ite (fun g7 => ?_) (fun g7 => ?_)
          ·
            extract_lets -merge -useContext +onlyGivenNames -underBinder y43
            extract_lets -merge -useContext +onlyGivenNames -underBinder y44
            extract_lets -merge -useContext +onlyGivenNames -underBinder y45
            obtain ⟨a_y45, c_y45, b_y45, -⟩ : PQ zr79 zo79 _ y45 := d79 c_y41 _ _
            clear_value y45
            refine pq_chk a_y45 ?_
            extract_lets -merge -useContext +onlyGivenNames -underBinder y46
            extract_lets -merge -useContext +onlyGivenNames -underBinder y47
            extract_lets -merge -useContext +onlyGivenNames -underBinder y48
            extract_lets -merge -useContext +onlyGivenNames -underBinder y49
            extract_lets -merge -useContext +onlyGivenNames -underBinder y50
            refine lp91_3 _ _ _ _ _ _ _ _ _ _ _ _ _ _ _ _ _ _ _ (show I64 y3 from (show I64 (asI (resC y1 0 0)) from (i64_b b_y1))) (by have n0 : ([] : List (List D)).length = 0 := rfl; have q_y45 := b_y45; rw [w64_in _ (by omega)]; omega) (fun b132 l133 F_l133 => ?_) 2000 KK _ _ (by omega) (by rw [KK_eq]; omega) (el_mono (by decide) (show EL [.i .i64, .s] 60 y50 from (show EL [.i .i64, .s] 60 (asL (resC y8 0 0)) from p_y8)))
            exact ⟨rfl, c_y45, (show I64 y3 from (show I64 (asI (resC y1 0 0)) from (i64_b b_y1))), (show I64 y49 from (i64_w64 _)), I_k1_n6, I_k1_n7, (Nat.le_trans S_k1_s8 (by decide)), (el_mono (by decide) F_l133), trivial⟩
          ·
            extract_lets -merge -useContext +onlyGivenNames -underBinder y51
            extract_lets -merge -useContext +onlyGivenNames -underBinder y52
            extract_lets -merge -useContext +onlyGivenNames -underBinder y53
            extract_lets -merge -useContext +onlyGivenNames -underBinder y54
            exact ⟨rfl, c_y41, (show I64 y3 from (show I64 (asI (resC y1 0 0)) from (i64_b b_y1))), (show I64 y51 from (i64_w64 _)), I_k1_n6, I_k1_n7, (Nat.le_trans S_k1_s8 (by decide)), (el_mono (by decide) (show EL [.i .i64, .s] 60 y52 from (show EL [.i .i64, .s] 60 (asL (resC y8 0 0)) from p_y8))), trivial⟩
        ·
          refine pq_chk (by revert g6; generalize y38 = u_y38; revert u_y38; decide) ?_
          extract_lets -merge -useContext +onlyGivenNames -underBinder y55
          extract_lets -merge -useContext +onlyGivenNames -underBinder y56
          extract_lets -merge -useContext +onlyGivenNames -underBinder y57
          extract_lets -merge -useContext +onlyGivenNames -underBinder y58
          exact ⟨rfl, c_y8, (show I64 y3 from (show I64 (asI (resC y1 0 0)) from (i64_b b_y1))), (show I64 y55 from (i64_w64 _)), I_k1_n6, I_k1_n7, (Nat.le_trans S_k1_s8 (by decide)), (el_mono (by decide) (show EL [.i .i64, .s] 60 y56 from (show EL [.i .i64, .s] 60 (asL (resC y8 0 0)) from p_y8))), trivial⟩
    extract_lets -merge -useContext +onlyGivenNames -underBinder y59
    refine pq_ite (fun g8 => ?_) (fun g8 => ?_)
    ·
      extract_lets -merge -useContext +onlyGivenNames -underBinder y60
      extract_lets -merge -useContext +onlyGivenNames -underBinder y61
      extract_lets -merge -useContext +onlyGivenNames -underBinder y62
      obtain ⟨a_y62, c_y62, b_y62, -⟩ : PQ zr79 zo79 _ y62 := d79 c_y7 _ _
      clear_value y62
      refine pq_chk a_y62 ?_
      extract_lets -merge -useContext +onlyGivenNames -underBinder y63
      obtain ⟨a_y63, c_y63, b_y63, -⟩ : PQ zr79 zo79 _ y63 := d79 c_y62 _ _
      clear_value y63
      refine pq_chk a_y63 ?_
      extract_lets -merge -useContext +onlyGivenNames -underBinder y64
      obtain ⟨a_y64, c_y64, p_y64, -⟩ : PQ zr92 zo92 _ y64 := d92 c_y63 _ _ (by decide)
      clear_value y64
      refine pq_chk a_y64 ?_
      exact h_k1 (asI (outC y64 0 1)) (asI (outC y64 0 2)) (w64 ((1 : Int) + (asI (resC y62 0 0)))) (w64 ((1 : Int) + (asI (resC y63 0 0)))) (asS (resC y64 0 0)) c_y64 (i64_w64 _) (i64_w64 _) (Nat.le_trans (show (asS (resC y64 0 0)).size ≤ 1000 from p_y64) (by decide))
    ·
      extract_lets -merge -useContext +onlyGivenNames -underBinder y65
      extract_lets -merge -useContext +onlyGivenNames -underBinder y66
      exact h_k1 y65 y66 (0 : Int) (0 : Int) (⟨#[]⟩ : ByteArray) c_y7 (show I64 (0) by unfold I64; omega) (show I64 (0) by unfold I64; omega) (Nat.le_trans (show (⟨#[]⟩ : ByteArray).size ≤ 0 from Nat.le_of_eq rfl) (by decide))
  ·
    refine pq_chk (by revert g1; generalize y4 = u_y4; revert u_y4; decide) ?_
    extract_lets -merge -useContext +onlyGivenNames -underBinder y67
    extract_lets -merge -useContext +onlyGivenNames -underBinder y68
    extract_lets -merge -useContext +onlyGivenNames -underBinder y69
    obtain ⟨a_y69, c_y69, p_y69, -⟩ : PQ zr96 zo96 _ y69 := d96 c_y2 _ _ _ _ (by decide) (show I64 (0) by unfold I64; omega)
    clear_value y69
    refine pq_chk a_y69 ?_
    extract_lets -merge -useContext +onlyGivenNames -underBinder y70
    refine pq_ite (fun g9 => ?_) (fun g9 => ?_)
    ·
      extract_lets -merge -useContext +onlyGivenNames -underBinder y71
      extract_lets -merge -useContext +onlyGivenNames -underBinder y72
      extract_lets -merge -useContext +onlyGivenNames -underBinder y73
      obtain ⟨a_y73, c_y73, -⟩ : PQ zr74 zo74 _ y73 := d74 c_y69 _ _
      clear_value y73
      refine pq_chk a_y73 ?_
      extract_lets -merge -useContext +onlyGivenNames -underBinder k3
      have h_k3 : ∀ (n134 : Int) (n135 : Int) (n136 : Int) (n137 : Int) (C_k3_n134 : Cu l1 n134) (I_k3_n136 : I64 n136) (I_k3_n137 : I64 n137), PQ zr91 zo91 (fun o => Cu l1 (asI (outC o 0 1)) ∧ I64 (asI (resC o 0 0)) ∧ I64 (asI (resC o 0 1)) ∧ I64 (asI (resC o 0 2)) ∧ I64 (asI (resC o 0 3)) ∧ (asS (resC o 0 4)).size ≤ 1000 ∧ EL [.i .i64, .s] 6000 (asL (resC o 0 5)) ∧ True) (k3 n134 n135 n136 n137) := by
        intro n134 n135 n136 n137 C_k3_n134 I_k3_n136 I_k3_n137
        dsimp -zeta only [k3]
        extract_lets -merge -useContext +onlyGivenNames -underBinder y74
        refine pq_ite (fun g10 => ?_) (fun g10 => ?_)
        ·
          extract_lets -merge -useContext +onlyGivenNames -underBinder y75
          obtain ⟨a_y75, c_y75, -⟩ : PQ zr74 zo74 _ y75 := d74 C_k3_n134 _ _
          clear_value y75
          refine pq_chk a_y75 ?_
          extract_lets -merge -useContext +onlyGivenNames -underBinder y76
          refine pq_ite (fun g11 => ?_) (fun g11 => ?_)
          ·
            extract_lets -merge -useContext +onlyGivenNames -underBinder y77
            extract_lets -merge -useContext +onlyGivenNames -underBinder y78
            extract_lets -merge -useContext +onlyGivenNames -underBinder y79
            obtain ⟨a_y79, c_y79, b_y79, -⟩ : PQ zr79 zo79 _ y79 := d79 c_y75 _ _
            clear_value y79
            refine pq_chk a_y79 ?_
            extract_lets -merge -useContext +onlyGivenNames -underBinder y80
            extract_lets -merge -useContext +onlyGivenNames -underBinder y81
            extract_lets -merge -useContext +onlyGivenNames -underBinder y82
            extract_lets -merge -useContext +onlyGivenNames -underBinder y83
            extract_lets -merge -useContext +onlyGivenNames -underBinder y84
            refine lp91_3 _ _ _ _ _ _ _ _ _ _ _ _ _ _ _ _ _ _ _ (show I64 y3 from (show I64 (asI (resC y1 0 0)) from (i64_b b_y1))) (by have n0 : ([] : List (List D)).length = 0 := rfl; have q_y79 := b_y79; rw [w64_in _ (by omega)]; omega) (fun b196 l197 F_l197 => ?_) 2000 KK _ _ (by omega) (by rw [KK_eq]; omega) (el_mono (by decide) (show EL [.i .i64, .s] 60 y84 from (show EL [.i .i64, .s] 60 (asL (resC y69 0 0)) from p_y69)))
            exact ⟨rfl, c_y79, (show I64 y3 from (show I64 (asI (resC y1 0 0)) from (i64_b b_y1))), (show I64 y83 from (i64_w64 _)), I_k3_n136, I_k3_n137, (Nat.le_trans (show (⟨#[]⟩ : ByteArray).size ≤ 0 from Nat.le_of_eq rfl) (by decide)), (el_mono (by decide) F_l197), trivial⟩
          ·
            extract_lets -merge -useContext +onlyGivenNames -underBinder y85
            extract_lets -merge -useContext +onlyGivenNames -underBinder y86
            extract_lets -merge -useContext +onlyGivenNames -underBinder y87
            extract_lets -merge -useContext +onlyGivenNames -underBinder y88
            exact ⟨rfl, c_y75, (show I64 y3 from (show I64 (asI (resC y1 0 0)) from (i64_b b_y1))), (show I64 y85 from (i64_w64 _)), I_k3_n136, I_k3_n137, (Nat.le_trans (show (⟨#[]⟩ : ByteArray).size ≤ 0 from Nat.le_of_eq rfl) (by decide)), (el_mono (by decide) (show EL [.i .i64, .s] 60 y86 from (show EL [.i .i64, .s] 60 (asL (resC y69 0 0)) from p_y69))), trivial⟩
        ·
          refine pq_chk (by revert g10; generalize y74 = u_y74; revert u_y74; decide) ?_
          extract_lets -merge -useContext +onlyGivenNames -underBinder y89
          extract_lets -merge -useContext +onlyGivenNames -underBinder y90
          exact ⟨rfl, C_k3_n134, (show I64 y3 from (show I64 (asI (resC y1 0 0)) from (i64_b b_y1))), (show I64 y89 from (i64_w64 _)), I_k3_n136, I_k3_n137, (Nat.le_trans (show (⟨#[]⟩ : ByteArray).size ≤ 0 from Nat.le_of_eq rfl) (by decide)), (el_mono (by decide) (show EL [.i .i64, .s] 60 y90 from (show EL [.i .i64, .s] 60 (asL (resC y69 0 0)) from p_y69))), trivial⟩
      extract_lets -merge -useContext +onlyGivenNames -underBinder y91
      refine pq_ite (fun g12 => ?_) (fun g12 => ?_)
      ·
        extract_lets -merge -useContext +onlyGivenNames -underBinder y92
        extract_lets -merge -useContext +onlyGivenNames -underBinder y93
        extract_lets -merge -useContext +onlyGivenNames -underBinder y94
        obtain ⟨a_y94, c_y94, b_y94, -⟩ : PQ zr79 zo79 _ y94 := d79 c_y73 _ _
        clear_value y94
        refine pq_chk a_y94 ?_
        extract_lets -merge -useContext +onlyGivenNames -underBinder y95
        exact h_k3 (asI (outC y94 0 1)) (asI (outC y94 0 2)) (w64 ((w64 ((100000 : Int) - (y95.length : Int))) + (asI (resC y94 0 0)))) (1 : Int) c_y94 (i64_w64 _) (show I64 (1) by unfold I64; omega)
      ·
        extract_lets -merge -useContext +onlyGivenNames -underBinder y96
        extract_lets -merge -useContext +onlyGivenNames -underBinder y97
        exact h_k3 y96 y97 (0 : Int) (0 : Int) c_y73 (show I64 (0) by unfold I64; omega) (show I64 (0) by unfold I64; omega)
    ·
      refine pq_chk (by revert g9; generalize y70 = u_y70; revert u_y70; decide) ?_
      extract_lets -merge -useContext +onlyGivenNames -underBinder y98
      refine pq_ite (fun g13 => ?_) (fun g13 => ?_)
      ·
        extract_lets -merge -useContext +onlyGivenNames -underBinder y99
        extract_lets -merge -useContext +onlyGivenNames -underBinder y100
        extract_lets -merge -useContext +onlyGivenNames -underBinder y101
        obtain ⟨a_y101, c_y101, -⟩ : PQ zr74 zo74 _ y101 := d74 c_y69 _ _
        clear_value y101
        refine pq_chk a_y101 ?_
        extract_lets -merge -useContext +onlyGivenNames -underBinder y102
        refine pq_ite (fun g14 => ?_) (fun g14 => ?_)
        ·
          extract_lets -merge -useContext +onlyGivenNames -underBinder y103
          extract_lets -merge -useContext +onlyGivenNames -underBinder y104
          extract_lets -merge -useContext +onlyGivenNames -underBinder y105
          obtain ⟨a_y105, c_y105, b_y105, -⟩ : PQ zr79 zo79 _ y105 := d79 c_y101 _ _
          clear_value y105
          refine pq_chk a_y105 ?_
          extract_lets -merge -useContext +onlyGivenNames -underBinder y106
          extract_lets -merge -useContext +onlyGivenNames -underBinder y107
          extract_lets -merge -useContext +onlyGivenNames -underBinder y108
          extract_lets -merge -useContext +onlyGivenNames -underBinder y109
          refine lp91_3 _ _ _ _ _ _ _ _ _ _ _ _ _ _ _ _ _ _ _ (show I64 y3 from (show I64 (asI (resC y1 0 0)) from (i64_b b_y1))) (by have n0 : ([] : List (List D)).length = 0 := rfl; have q_y105 := b_y105; rw [w64_in _ (by omega)]; omega) (fun b256 l257 F_l257 => ?_) 2000 KK _ _ (by omega) (by rw [KK_eq]; omega) (el_mono (by decide) (show EL [.i .i64, .s] 60 y109 from (show EL [.i .i64, .s] 60 (asL (resC y69 0 0)) from p_y69)))
          exact ⟨rfl, c_y105, (show I64 y3 from (show I64 (asI (resC y1 0 0)) from (i64_b b_y1))), (show I64 y108 from (i64_w64 _)), (show I64 (0) by unfold I64; omega), (show I64 (0) by unfold I64; omega), (Nat.le_trans (show (⟨#[]⟩ : ByteArray).size ≤ 0 from Nat.le_of_eq rfl) (by decide)), (el_mono (by decide) F_l257), trivial⟩
        ·
          extract_lets -merge -useContext +onlyGivenNames -underBinder y110
          extract_lets -merge -useContext +onlyGivenNames -underBinder y111
          extract_lets -merge -useContext +onlyGivenNames -underBinder y112
          extract_lets -merge -useContext +onlyGivenNames -underBinder y113
          exact ⟨rfl, c_y101, (show I64 y3 from (show I64 (asI (resC y1 0 0)) from (i64_b b_y1))), (show I64 y110 from (i64_w64 _)), (show I64 (0) by unfold I64; omega), (show I64 (0) by unfold I64; omega), (Nat.le_trans (show (⟨#[]⟩ : ByteArray).size ≤ 0 from Nat.le_of_eq rfl) (by decide)), (el_mono (by decide) (show EL [.i .i64, .s] 60 y111 from (show EL [.i .i64, .s] 60 (asL (resC y69 0 0)) from p_y69))), trivial⟩
      ·
        refine pq_chk (by revert g13; generalize y98 = u_y98; revert u_y98; decide) ?_
        extract_lets -merge -useContext +onlyGivenNames -underBinder y114
        extract_lets -merge -useContext +onlyGivenNames -underBinder y115
        extract_lets -merge -useContext +onlyGivenNames -underBinder y116
        extract_lets -merge -useContext +onlyGivenNames -underBinder y117
        exact ⟨rfl, c_y69, (show I64 y3 from (show I64 (asI (resC y1 0 0)) from (i64_b b_y1))), (show I64 y114 from (i64_w64 _)), (show I64 (0) by unfold I64; omega), (show I64 (0) by unfold I64; omega), (Nat.le_trans (show (⟨#[]⟩ : ByteArray).size ≤ 0 from Nat.le_of_eq rfl) (by decide)), (el_mono (by decide) (show EL [.i .i64, .s] 60 y115 from (show EL [.i .i64, .s] 60 (asL (resC y69 0 0)) from p_y69))), trivial⟩

theorem d73 {l1 : List (List D)} {n2 : Int} (C : Cu l1 n2) (n3 : Int)  : PQ zr73 zo73 (fun o => Cu l1 (asI (outC o 0 1)) ∧ I64 (asI (resC o 0 0)) ∧ I64 (asI (resC o 0 1)) ∧ I64 (asI (resC o 0 2)) ∧ I64 (asI (resC o 0 3)) ∧ (asS (resC o 0 4)).size ≤ 1001 ∧ EL [.i .i64, .s] 6001 (asL (resC o 0 5)) ∧ True) (t73 l1 n2 n3) := by
  unfold t73 ta73
  extract_lets -merge -useContext +onlyGivenNames -underBinder y1
  obtain ⟨a_y1, c_y1, p0_0_y1, p0_1_y1, p0_2_y1, p0_3_y1, p0_4_y1, p0_5_y1, -⟩ : PQ zr91 zo91 _ y1 := d91 C _
  clear_value y1
  refine pq_chk a_y1 ?_
  extract_lets -merge -useContext +onlyGivenNames -underBinder y2
  obtain ⟨a_y2, c_y2, -⟩ : PQ zr74 zo74 _ y2 := d74 c_y1 _ _
  clear_value y2
  refine pq_chk a_y2 ?_
  refine pq_ite (fun g1 => ?_) (fun g1 => ?_)
  ·
    extract_lets -merge -useContext +onlyGivenNames -underBinder y3
    extract_lets -merge -useContext +onlyGivenNames -underBinder y4
    extract_lets -merge -useContext +onlyGivenNames -underBinder y5
    obtain ⟨a_y5, c_y5, b_y5, -⟩ : PQ zr79 zo79 _ y5 := d79 c_y2 _ _
    clear_value y5
    refine pq_chk a_y5 ?_
    extract_lets -merge -useContext +onlyGivenNames -underBinder y6
    refine pq_ite (fun g2 => ?_) (fun g2 => ?_)
    ·
      extract_lets -merge -useContext +onlyGivenNames -underBinder y7
      extract_lets -merge -useContext +onlyGivenNames -underBinder y8
      extract_lets -merge -useContext +onlyGivenNames -underBinder y9
      obtain ⟨a_y9, c_y9, m_y9, -⟩ : PQ zr81 zo81 _ y9 := d81 c_y5 _ _ rfl
      clear_value y9
      refine pq_chk a_y9 ?_
      extract_lets -merge -useContext +onlyGivenNames -underBinder y10
      extract_lets -merge -useContext +onlyGivenNames -underBinder y11
      extract_lets -merge -useContext +onlyGivenNames -underBinder y12
      extract_lets -merge -useContext +onlyGivenNames -underBinder y13
      extract_lets -merge -useContext +onlyGivenNames -underBinder y14
      exact ⟨rfl, c_y9, (show I64 (asI (resC y9 0 0)) from (i64_pick m_y9 (by decide))), (show I64 y10 from (show I64 (asI (resC y1 0 1)) from p0_1_y1)), (show I64 y11 from (show I64 (asI (resC y1 0 2)) from p0_2_y1)), (show I64 y12 from (show I64 (asI (resC y1 0 3)) from p0_3_y1)), (Nat.le_trans (show y13.size ≤ 1000 from (show (asS (resC y1 0 4)).size ≤ 1000 from p0_4_y1)) (by decide)), (el_mono (by decide) (show EL [.i .i64, .s] 6000 y14 from (show EL [.i .i64, .s] 6000 (asL (resC y1 0 5)) from p0_5_y1))), trivial⟩
    ·
      refine pq_ite (fun g3 => ?_) (fun g3 => ?_)
      ·
        extract_lets -merge -useContext +onlyGivenNames -underBinder y15
        extract_lets -merge -useContext +onlyGivenNames -underBinder y16
        extract_lets -merge -useContext +onlyGivenNames -underBinder y17
        obtain ⟨a_y17, c_y17, m_y17, -⟩ : PQ zr81 zo81 _ y17 := d81 c_y5 _ _ rfl
        clear_value y17
        refine pq_chk a_y17 ?_
        extract_lets -merge -useContext +onlyGivenNames -underBinder y18
        extract_lets -merge -useContext +onlyGivenNames -underBinder y19
        extract_lets -merge -useContext +onlyGivenNames -underBinder y20
        extract_lets -merge -useContext +onlyGivenNames -underBinder y21
        extract_lets -merge -useContext +onlyGivenNames -underBinder y22
        exact ⟨rfl, c_y17, (show I64 y18 from (show I64 (asI (resC y1 0 0)) from p0_0_y1)), (show I64 (asI (resC y17 0 0)) from (i64_pick m_y17 (by decide))), (show I64 y19 from (show I64 (asI (resC y1 0 2)) from p0_2_y1)), (show I64 y20 from (show I64 (asI (resC y1 0 3)) from p0_3_y1)), (Nat.le_trans (show y21.size ≤ 1000 from (show (asS (resC y1 0 4)).size ≤ 1000 from p0_4_y1)) (by decide)), (el_mono (by decide) (show EL [.i .i64, .s] 6000 y22 from (show EL [.i .i64, .s] 6000 (asL (resC y1 0 5)) from p0_5_y1))), trivial⟩
      ·
        refine pq_ite (fun g4 => ?_) (fun g4 => ?_)
        ·
          extract_lets -merge -useContext +onlyGivenNames -underBinder y23
          extract_lets -merge -useContext +onlyGivenNames -underBinder y24
          extract_lets -merge -useContext +onlyGivenNames -underBinder y25
          obtain ⟨a_y25, c_y25, m_y25, -⟩ : PQ zr81 zo81 _ y25 := d81 c_y5 _ _ rfl
          clear_value y25
          refine pq_chk a_y25 ?_
          extract_lets -merge -useContext +onlyGivenNames -underBinder y26
          extract_lets -merge -useContext +onlyGivenNames -underBinder y27
          extract_lets -merge -useContext +onlyGivenNames -underBinder y28
          extract_lets -merge -useContext +onlyGivenNames -underBinder y29
          extract_lets -merge -useContext +onlyGivenNames -underBinder y30
          exact ⟨rfl, c_y25, (show I64 y26 from (show I64 (asI (resC y1 0 0)) from p0_0_y1)), (show I64 y27 from (show I64 (asI (resC y1 0 1)) from p0_1_y1)), (show I64 (asI (resC y25 0 0)) from (i64_pick m_y25 (by decide))), (show I64 y28 from (show I64 (asI (resC y1 0 3)) from p0_3_y1)), (Nat.le_trans (show y29.size ≤ 1000 from (show (asS (resC y1 0 4)).size ≤ 1000 from p0_4_y1)) (by decide)), (el_mono (by decide) (show EL [.i .i64, .s] 6000 y30 from (show EL [.i .i64, .s] 6000 (asL (resC y1 0 5)) from p0_5_y1))), trivial⟩
        ·
          refine pq_ite (fun g5 => ?_) (fun g5 => ?_)
          ·
            extract_lets -merge -useContext +onlyGivenNames -underBinder y31
            extract_lets -merge -useContext +onlyGivenNames -underBinder y32
            extract_lets -merge -useContext +onlyGivenNames -underBinder y33
            obtain ⟨a_y33, c_y33, b_y33, -⟩ : PQ zr79 zo79 _ y33 := d79 c_y5 _ _
            clear_value y33
            refine pq_chk a_y33 ?_
            extract_lets -merge -useContext +onlyGivenNames -underBinder y34
            extract_lets -merge -useContext +onlyGivenNames -underBinder y35
            extract_lets -merge -useContext +onlyGivenNames -underBinder y36
            extract_lets -merge -useContext +onlyGivenNames -underBinder y37
            extract_lets -merge -useContext +onlyGivenNames -underBinder y38
            exact ⟨rfl, c_y33, (show I64 y34 from (show I64 (asI (resC y1 0 0)) from p0_0_y1)), (show I64 y35 from (show I64 (asI (resC y1 0 1)) from p0_1_y1)), (show I64 y36 from (show I64 (asI (resC y1 0 2)) from p0_2_y1)), (i64_w64 _), (Nat.le_trans (show y37.size ≤ 1000 from (show (asS (resC y1 0 4)).size ≤ 1000 from p0_4_y1)) (by decide)), (el_mono (by decide) (show EL [.i .i64, .s] 6000 y38 from (show EL [.i .i64, .s] 6000 (asL (resC y1 0 5)) from p0_5_y1))), trivial⟩
          ·
            extract_lets -merge -useContext +onlyGivenNames -underBinder k1
            have h_k1 : ∀ (n4 : Int) (n5 : Int) (s6 : ByteArray) (l7 : List (List D)) (C_k1_n4 : Cu l1 n4) (S_k1_s6 : s6.size ≤ 1001) (L_k1_l7 : EL [.i .i64, .s] 6001 l7), PQ zr73 zo73 (fun o => Cu l1 (asI (outC o 0 1)) ∧ I64 (asI (resC o 0 0)) ∧ I64 (asI (resC o 0 1)) ∧ I64 (asI (resC o 0 2)) ∧ I64 (asI (resC o 0 3)) ∧ (asS (resC o 0 4)).size ≤ 1001 ∧ EL [.i .i64, .s] 6001 (asL (resC o 0 5)) ∧ True) (k1 n4 n5 s6 l7) := by
              intro n4 n5 s6 l7 C_k1_n4 S_k1_s6 L_k1_l7
              dsimp -zeta only [k1]
              extract_lets -merge -useContext +onlyGivenNames -underBinder y39
              extract_lets -merge -useContext +onlyGivenNames -underBinder y40
              extract_lets -merge -useContext +onlyGivenNames -underBinder y41
              extract_lets -merge -useContext +onlyGivenNames -underBinder y42
              exact ⟨rfl, C_k1_n4, (show I64 y39 from (show I64 (asI (resC y1 0 0)) from p0_0_y1)), (show I64 y40 from (show I64 (asI (resC y1 0 1)) from p0_1_y1)), (show I64 y41 from (show I64 (asI (resC y1 0 2)) from p0_2_y1)), (show I64 y42 from (show I64 (asI (resC y1 0 3)) from p0_3_y1)), (Nat.le_trans S_k1_s6 (by decide)), (el_mono (by decide) L_k1_l7), trivial⟩
            refine pq_ite (fun g6 => ?_) (fun g6 => ?_)
            ·
              extract_lets -merge -useContext +onlyGivenNames -underBinder y43
              extract_lets -merge -useContext +onlyGivenNames -underBinder y44
              extract_lets -merge -useContext +onlyGivenNames -underBinder y45
              obtain ⟨a_y45, c_y45, b_y45, -⟩ : PQ zr79 zo79 _ y45 := d79 c_y5 _ _
              clear_value y45
              refine pq_chk a_y45 ?_
              extract_lets -merge -useContext +onlyGivenNames -underBinder y46
              extract_lets -merge -useContext +onlyGivenNames -underBinder y47
              refine pq_chk (by rw [Bool.and_eq_true]; exact ⟨rfl, decide_eq_true (by have q1 := ((show EL [.i .i64, .s] 6000 y47 from (show EL [.i .i64, .s] 6000 (asL (resC y1 0 5)) from p0_5_y1))).1; have q2 := ((show EL [.i .i64, .s] 1 y46 from (el_one (sh := [.i .i64, .s]) (by exact ⟨_, _, rfl, ⟨_, rfl, wfI (i64_w64 _)⟩, ⟨_, _, rfl, ⟨_, rfl, Nat.le_trans (show (⟨#[]⟩ : ByteArray).size ≤ 0 from Nat.le_of_eq rfl) (by decide)⟩, rfl⟩⟩)))).1; unfold lim; omega)⟩) ?_
              extract_lets -merge -useContext +onlyGivenNames -underBinder y48
              exact h_k1 (asI (outC y45 0 1)) (asI (outC y45 0 2)) y48 (y47 ++ y46) c_y45 (Nat.le_trans (show y48.size ≤ 1000 from (show (asS (resC y1 0 4)).size ≤ 1000 from p0_4_y1)) (by decide)) (el_mono (by decide) (el_app (show EL [.i .i64, .s] 6000 y47 from (show EL [.i .i64, .s] 6000 (asL (resC y1 0 5)) from p0_5_y1)) (show EL [.i .i64, .s] 1 y46 from (el_one (sh := [.i .i64, .s]) (by exact ⟨_, _, rfl, ⟨_, rfl, wfI (i64_w64 _)⟩, ⟨_, _, rfl, ⟨_, rfl, Nat.le_trans (show (⟨#[]⟩ : ByteArray).size ≤ 0 from Nat.le_of_eq rfl) (by decide)⟩, rfl⟩⟩)))))
            ·
              extract_lets -merge -useContext +onlyGivenNames -underBinder y49
              refine pq_chk (decide_eq_true (by have q1 := (show y49.size ≤ 1000 from (show (asS (resC y1 0 4)).size ≤ 1000 from p0_4_y1)); have q2 := (show (⟨#[120]⟩ : ByteArray).size ≤ 1 from Nat.le_of_eq rfl); unfold lim; omega)) ?_
              extract_lets -merge -useContext +onlyGivenNames -underBinder y50
              extract_lets -merge -useContext +onlyGivenNames -underBinder y51
              extract_lets -merge -useContext +onlyGivenNames -underBinder y52
              exact h_k1 y50 y51 (y49 ++ (⟨#[120]⟩ : ByteArray)) y52 c_y5 (Nat.le_trans (sz_app (show y49.size ≤ 1000 from (show (asS (resC y1 0 4)).size ≤ 1000 from p0_4_y1)) (show (⟨#[120]⟩ : ByteArray).size ≤ 1 from Nat.le_of_eq rfl)) (by decide)) (el_mono (by decide) (show EL [.i .i64, .s] 6000 y52 from (show EL [.i .i64, .s] 6000 (asL (resC y1 0 5)) from p0_5_y1)))
  ·
    extract_lets -merge -useContext +onlyGivenNames -underBinder y53
    extract_lets -merge -useContext +onlyGivenNames -underBinder y54
    extract_lets -merge -useContext +onlyGivenNames -underBinder y55
    extract_lets -merge -useContext +onlyGivenNames -underBinder y56
    extract_lets -merge -useContext +onlyGivenNames -underBinder y57
    extract_lets -merge -useContext +onlyGivenNames -underBinder y58
    extract_lets -merge -useContext +onlyGivenNames -underBinder y59
    extract_lets -merge -useContext +onlyGivenNames -underBinder y60
    exact ⟨rfl, c_y2, (show I64 y53 from (show I64 (asI (resC y1 0 0)) from p0_0_y1)), (show I64 y54 from (show I64 (asI (resC y1 0 1)) from p0_1_y1)), (show I64 y55 from (show I64 (asI (resC y1 0 2)) from p0_2_y1)), (show I64 y56 from (show I64 (asI (resC y1 0 3)) from p0_3_y1)), (Nat.le_trans (show y57.size ≤ 1000 from (show (asS (resC y1 0 4)).size ≤ 1000 from p0_4_y1)) (by decide)), (el_mono (by decide) (show EL [.i .i64, .s] 6000 y58 from (show EL [.i .i64, .s] 6000 (asL (resC y1 0 5)) from p0_5_y1))), trivial⟩

theorem lp75_300006 (n539 : Int) (n540 : Int) (n541 : Int) (n542 : Int) (s543 : ByteArray) (l544 : List (List D)) (n545 : Int) (b547 : Bool) (b548 : Bool) (b549 : Bool) (b550 : Bool) (b551 : Bool) (l553 : List (List D)) (n556 : Int) (n557 : Int) (n558 : Int) (n559 : Int) (s560 : ByteArray) (l561 : List (List D)) (n562 : Int) (n563 : Int) (n564 : Int) (n565 : Int) (s566 : ByteArray) (n567 : Int) (n568 : Int) (n569 : Int) (n570 : Int) (s571 : ByteArray) (n572 : Int) (n573 : Int) (s574 : ByteArray) (q1 : Int → Bool → Int → Int → List (List D) → Rs) (Q : Rs → Prop) (hi : I64 n567) (hq : ∀ (z0 : Int) (z1 : Bool) (z2 : Int) (z3 : Int) (z4 : List (List D)), Cu l553 z2 → EL [.i .i64, .s] 8000 z4 → Q (q1 z0 z1 z2 z3 z4)) : ∀ (k m : Nat) (n546 : Int) (v552 : SV) (n554 : Int) (n555 : Int) (l575 : List (List D)), 2000 - l575.length ≤ k → k < m → Cu l553 n554 → EL [.i .i64, .s] 8000 l575 → Q (la75o300006 t53 t74 t79 t92 n539 n540 n541 n542 s543 l544 n545 b547 b548 b549 b550 b551 l553 n556 n557 n558 n559 s560 l561 n562 n563 n564 n565 s566 n567 n568 n569 n570 s571 n572 n573 s574 q1 m n546 v552 n554 n555 l575) := by
  intro k
  induction k with
  | zero =>
    intro m n546 v552 n554 n555 l575 hk hm hC hx
    obtain ⟨m, rfl⟩ : ∃ m', m = m' + 1 := ⟨m - 1, by omega⟩
    unfold la75o300006
    cases hy : ((((decide (n546 > (0 : Int))) && (decide (n567 > (0 : Int)))) && (decide ((l575.length : Int) < (60 : Int)))) && (decide ((w64 (n569 + (l575.length : Int))) < (100000 : Int)))) with
    | true =>
      exfalso
      simp only [Bool.and_eq_true, decide_eq_true_eq] at hy
      omega
    | false =>
      simp only [hy, Bool.false_eq_true, if_false]
      exact hq _ _ _ _ _ hC hx
  | succ k ih =>
    intro m n546 v552 n554 n555 l575 hk hm hC hx
    obtain ⟨m, rfl⟩ : ∃ m', m = m' + 1 := ⟨m - 1, by omega⟩
    unfold la75o300006
    cases hy : ((((decide (n546 > (0 : Int))) && (decide (n567 > (0 : Int)))) && (decide ((l575.length : Int) < (60 : Int)))) && (decide ((w64 (n569 + (l575.length : Int))) < (100000 : Int)))) with
    | true =>
      simp only [hy, if_true]
      simp only [Bool.and_eq_true, decide_eq_true_eq] at hy
      obtain ⟨a2, c2, p2, -⟩ := d92 hC n555 (6 : Int) (by decide)
      rw [chk_ok a2]
      have hx1 := hx.1
      have el := el_app hx (el_one (sh := [.i .i64, .s]) (r := [.i .i64 n567, .s (asS (resC (t92 l553 n554 n555 (6 : Int)) 0 0))]) ⟨_, _, rfl, ⟨_, rfl, wfI hi⟩, _, _, rfl, ⟨_, rfl, Nat.le_trans p2 (by decide)⟩, rfl⟩)
      rw [chk_ok (by rw [Bool.and_eq_true]; exact ⟨rfl, decide_eq_true (by simp only [List.length_cons, List.length_nil]; unfold lim; omega)⟩)]
      exact ih m _ _ _ _ _ (by simp; omega) (by omega) c2 ⟨by simp; omega, el.2⟩
    | false =>
      simp only [hy, Bool.false_eq_true, if_false]
      exact hq _ _ _ _ _ hC hx

theorem lp75_400006 (n663 : Int) (n664 : Int) (n665 : Int) (n666 : Int) (s667 : ByteArray) (l668 : List (List D)) (n669 : Int) (b671 : Bool) (b672 : Bool) (b673 : Bool) (b674 : Bool) (b675 : Bool) (l677 : List (List D)) (n680 : Int) (n681 : Int) (n682 : Int) (n683 : Int) (s684 : ByteArray) (l685 : List (List D)) (n686 : Int) (n687 : Int) (n688 : Int) (n689 : Int) (s690 : ByteArray) (n691 : Int) (n692 : Int) (n693 : Int) (n694 : Int) (s695 : ByteArray) (n696 : Int) (n697 : Int) (s698 : ByteArray) (l700 : List (List D)) (q1 : Int → Bool → Int → Int → List (List D) → Rs) (Q : Rs → Prop) (hi : I64 n691) (hq : ∀ (z0 : Int) (z1 : Bool) (z2 : Int) (z3 : Int) (z4 : List (List D)), Cu l677 z2 → EL [.i .i64, .s] 8000 z4 → Q (q1 z0 z1 z2 z3 z4)) : ∀ (k m : Nat) (n670 : Int) (v676 : SV) (n678 : Int) (n679 : Int) (l699 : List (List D)), 2000 - l699.length ≤ k → k < m → Cu l677 n678 → EL [.i .i64, .s] 8000 l699 → Q (la75o400006 t53 t74 t79 t92 n663 n664 n665 n666 s667 l668 n669 b671 b672 b673 b674 b675 l677 n680 n681 n682 n683 s684 l685 n686 n687 n688 n689 s690 n691 n692 n693 n694 s695 n696 n697 s698 l700 q1 m n670 v676 n678 n679 l699) := by
  intro k
  induction k with
  | zero =>
    intro m n670 v676 n678 n679 l699 hk hm hC hx
    obtain ⟨m, rfl⟩ : ∃ m', m = m' + 1 := ⟨m - 1, by omega⟩
    unfold la75o400006
    cases hy : ((((decide (n670 > (0 : Int))) && (decide (n691 > (0 : Int)))) && (decide ((l699.length : Int) < (60 : Int)))) && (decide ((w64 (n693 + (l699.length : Int))) < (100000 : Int)))) with
    | true =>
      exfalso
      simp only [Bool.and_eq_true, decide_eq_true_eq] at hy
      omega
    | false =>
      simp only [hy, Bool.false_eq_true, if_false]
      exact hq _ _ _ _ _ hC hx
  | succ k ih =>
    intro m n670 v676 n678 n679 l699 hk hm hC hx
    obtain ⟨m, rfl⟩ : ∃ m', m = m' + 1 := ⟨m - 1, by omega⟩
    unfold la75o400006
    cases hy : ((((decide (n670 > (0 : Int))) && (decide (n691 > (0 : Int)))) && (decide ((l699.length : Int) < (60 : Int)))) && (decide ((w64 (n693 + (l699.length : Int))) < (100000 : Int)))) with
    | true =>
      simp only [hy, if_true]
      simp only [Bool.and_eq_true, decide_eq_true_eq] at hy
      obtain ⟨a2, c2, p2, -⟩ := d92 hC n679 (6 : Int) (by decide)
      rw [chk_ok a2]
      have hx1 := hx.1
      have el := el_app hx (el_one (sh := [.i .i64, .s]) (r := [.i .i64 n691, .s (asS (resC (t92 l677 n678 n679 (6 : Int)) 0 0))]) ⟨_, _, rfl, ⟨_, rfl, wfI hi⟩, _, _, rfl, ⟨_, rfl, Nat.le_trans p2 (by decide)⟩, rfl⟩)
      rw [chk_ok (by rw [Bool.and_eq_true]; exact ⟨rfl, decide_eq_true (by simp only [List.length_cons, List.length_nil]; unfold lim; omega)⟩)]
      exact ih m _ _ _ _ _ (by simp; omega) (by omega) c2 ⟨by simp; omega, el.2⟩
    | false =>
      simp only [hy, Bool.false_eq_true, if_false]
      exact hq _ _ _ _ _ hC hx

theorem lp75_500006 (n782 : Int) (n783 : Int) (n784 : Int) (n785 : Int) (s786 : ByteArray) (l787 : List (List D)) (b789 : Bool) (b790 : Bool) (b791 : Bool) (l793 : List (List D)) (n796 : Int) (n797 : Int) (n798 : Int) (n799 : Int) (s800 : ByteArray) (l801 : List (List D)) (n802 : Int) (n803 : Int) (n804 : Int) (n805 : Int) (s806 : ByteArray) (n807 : Int) (n808 : Int) (n809 : Int) (n810 : Int) (s811 : ByteArray) (q1 : Int → Bool → Int → Int → List (List D) → Rs) (Q : Rs → Prop) (hi : I64 n807) (hq : ∀ (z0 : Int) (z1 : Bool) (z2 : Int) (z3 : Int) (z4 : List (List D)), Cu l793 z2 → EL [.i .i64, .s] 8000 z4 → Q (q1 z0 z1 z2 z3 z4)) : ∀ (k m : Nat) (n788 : Int) (v792 : SV) (n794 : Int) (n795 : Int) (l812 : List (List D)), 2000 - l812.length ≤ k → k < m → Cu l793 n794 → EL [.i .i64, .s] 8000 l812 → Q (la75o500006 t53 t74 t79 t92 n782 n783 n784 n785 s786 l787 b789 b790 b791 l793 n796 n797 n798 n799 s800 l801 n802 n803 n804 n805 s806 n807 n808 n809 n810 s811 q1 m n788 v792 n794 n795 l812) := by
  intro k
  induction k with
  | zero =>
    intro m n788 v792 n794 n795 l812 hk hm hC hx
    obtain ⟨m, rfl⟩ : ∃ m', m = m' + 1 := ⟨m - 1, by omega⟩
    unfold la75o500006
    cases hy : ((((decide (n788 > (0 : Int))) && (decide (n807 > (0 : Int)))) && (decide ((l812.length : Int) < (60 : Int)))) && (decide ((w64 (n809 + (l812.length : Int))) < (100000 : Int)))) with
    | true =>
      exfalso
      simp only [Bool.and_eq_true, decide_eq_true_eq] at hy
      omega
    | false =>
      simp only [hy, Bool.false_eq_true, if_false]
      exact hq _ _ _ _ _ hC hx
  | succ k ih =>
    intro m n788 v792 n794 n795 l812 hk hm hC hx
    obtain ⟨m, rfl⟩ : ∃ m', m = m' + 1 := ⟨m - 1, by omega⟩
    unfold la75o500006
    cases hy : ((((decide (n788 > (0 : Int))) && (decide (n807 > (0 : Int)))) && (decide ((l812.length : Int) < (60 : Int)))) && (decide ((w64 (n809 + (l812.length : Int))) < (100000 : Int)))) with
    | true =>
      simp only [hy, if_true]
      simp only [Bool.and_eq_true, decide_eq_true_eq] at hy
      obtain ⟨a2, c2, p2, -⟩ := d92 hC n795 (6 : Int) (by decide)
      rw [chk_ok a2]
      have hx1 := hx.1
      have el := el_app hx (el_one (sh := [.i .i64, .s]) (r := [.i .i64 n807, .s (asS (resC (t92 l793 n794 n795 (6 : Int)) 0 0))]) ⟨_, _, rfl, ⟨_, rfl, wfI hi⟩, _, _, rfl, ⟨_, rfl, Nat.le_trans p2 (by decide)⟩, rfl⟩)
      rw [chk_ok (by rw [Bool.and_eq_true]; exact ⟨rfl, decide_eq_true (by simp only [List.length_cons, List.length_nil]; unfold lim; omega)⟩)]
      exact ih m _ _ _ _ _ (by simp; omega) (by omega) c2 ⟨by simp; omega, el.2⟩
    | false =>
      simp only [hy, Bool.false_eq_true, if_false]
      exact hq _ _ _ _ _ hC hx

theorem lp75_6 (n63 : Int) (n64 : Int) (n65 : Int) (n66 : Int) (s67 : ByteArray) (l68 : List (List D)) (n69 : Int) (b71 : Bool) (b72 : Bool) (b73 : Bool) (b74 : Bool) (b75 : Bool) (b76 : Bool) (l78 : List (List D)) (n81 : Int) (n82 : Int) (n83 : Int) (n84 : Int) (s85 : ByteArray) (l86 : List (List D)) (n87 : Int) (n88 : Int) (n89 : Int) (n90 : Int) (s91 : ByteArray) (n92 : Int) (n93 : Int) (n94 : Int) (n95 : Int) (s96 : ByteArray) (n97 : Int) (n98 : Int) (s99 : ByteArray) (q1 : Int → Bool → Int → Int → List (List D) → Rs) (Q : Rs → Prop) (hi : I64 n92) (hq : ∀ (z0 : Int) (z1 : Bool) (z2 : Int) (z3 : Int) (z4 : List (List D)), Cu l78 z2 → EL [.i .i64, .s] 8000 z4 → Q (q1 z0 z1 z2 z3 z4)) : ∀ (k m : Nat) (n70 : Int) (v77 : SV) (n79 : Int) (n80 : Int) (l100 : List (List D)), 2000 - l100.length ≤ k → k < m → Cu l78 n79 → EL [.i .i64, .s] 8000 l100 → Q (la75o6 t53 t74 t79 t92 n63 n64 n65 n66 s67 l68 n69 b71 b72 b73 b74 b75 b76 l78 n81 n82 n83 n84 s85 l86 n87 n88 n89 n90 s91 n92 n93 n94 n95 s96 n97 n98 s99 q1 m n70 v77 n79 n80 l100) := by
  intro k
  induction k with
  | zero =>
    intro m n70 v77 n79 n80 l100 hk hm hC hx
    obtain ⟨m, rfl⟩ : ∃ m', m = m' + 1 := ⟨m - 1, by omega⟩
    unfold la75o6
    cases hy : ((((decide (n70 > (0 : Int))) && (decide (n92 > (0 : Int)))) && (decide ((l100.length : Int) < (60 : Int)))) && (decide ((w64 (n94 + (l100.length : Int))) < (100000 : Int)))) with
    | true =>
      exfalso
      simp only [Bool.and_eq_true, decide_eq_true_eq] at hy
      omega
    | false =>
      simp only [hy, Bool.false_eq_true, if_false]
      exact hq _ _ _ _ _ hC hx
  | succ k ih =>
    intro m n70 v77 n79 n80 l100 hk hm hC hx
    obtain ⟨m, rfl⟩ : ∃ m', m = m' + 1 := ⟨m - 1, by omega⟩
    unfold la75o6
    cases hy : ((((decide (n70 > (0 : Int))) && (decide (n92 > (0 : Int)))) && (decide ((l100.length : Int) < (60 : Int)))) && (decide ((w64 (n94 + (l100.length : Int))) < (100000 : Int)))) with
    | true =>
      simp only [hy, if_true]
      simp only [Bool.and_eq_true, decide_eq_true_eq] at hy
      obtain ⟨a2, c2, p2, -⟩ := d92 hC n80 (6 : Int) (by decide)
      rw [chk_ok a2]
      have hx1 := hx.1
      have el := el_app hx (el_one (sh := [.i .i64, .s]) (r := [.i .i64 n92, .s (asS (resC (t92 l78 n79 n80 (6 : Int)) 0 0))]) ⟨_, _, rfl, ⟨_, rfl, wfI hi⟩, _, _, rfl, ⟨_, rfl, Nat.le_trans p2 (by decide)⟩, rfl⟩)
      rw [chk_ok (by rw [Bool.and_eq_true]; exact ⟨rfl, decide_eq_true (by simp only [List.length_cons, List.length_nil]; unfold lim; omega)⟩)]
      exact ih m _ _ _ _ _ (by simp; omega) (by omega) c2 ⟨by simp; omega, el.2⟩
    | false =>
      simp only [hy, Bool.false_eq_true, if_false]
      exact hq _ _ _ _ _ hC hx

theorem lp75_100006 (n190 : Int) (n191 : Int) (n192 : Int) (n193 : Int) (s194 : ByteArray) (l195 : List (List D)) (n196 : Int) (b198 : Bool) (b199 : Bool) (b200 : Bool) (b201 : Bool) (b202 : Bool) (b203 : Bool) (l205 : List (List D)) (n208 : Int) (n209 : Int) (n210 : Int) (n211 : Int) (s212 : ByteArray) (l213 : List (List D)) (n214 : Int) (n215 : Int) (n216 : Int) (n217 : Int) (s218 : ByteArray) (n219 : Int) (n220 : Int) (n221 : Int) (n222 : Int) (s223 : ByteArray) (n224 : Int) (n225 : Int) (s226 : ByteArray) (l228 : List (List D)) (q1 : Int → Bool → Int → Int → List (List D) → Rs) (Q : Rs → Prop) (hi : I64 n219) (hq : ∀ (z0 : Int) (z1 : Bool) (z2 : Int) (z3 : Int) (z4 : List (List D)), Cu l205 z2 → EL [.i .i64, .s] 8000 z4 → Q (q1 z0 z1 z2 z3 z4)) : ∀ (k m : Nat) (n197 : Int) (v204 : SV) (n206 : Int) (n207 : Int) (l227 : List (List D)), 2000 - l227.length ≤ k → k < m → Cu l205 n206 → EL [.i .i64, .s] 8000 l227 → Q (la75o100006 t53 t74 t79 t92 n190 n191 n192 n193 s194 l195 n196 b198 b199 b200 b201 b202 b203 l205 n208 n209 n210 n211 s212 l213 n214 n215 n216 n217 s218 n219 n220 n221 n222 s223 n224 n225 s226 l228 q1 m n197 v204 n206 n207 l227) := by
  intro k
  induction k with
  | zero =>
    intro m n197 v204 n206 n207 l227 hk hm hC hx
    obtain ⟨m, rfl⟩ : ∃ m', m = m' + 1 := ⟨m - 1, by omega⟩
    unfold la75o100006
    cases hy : ((((decide (n197 > (0 : Int))) && (decide (n219 > (0 : Int)))) && (decide ((l227.length : Int) < (60 : Int)))) && (decide ((w64 (n221 + (l227.length : Int))) < (100000 : Int)))) with
    | true =>
      exfalso
      simp only [Bool.and_eq_true, decide_eq_true_eq] at hy
      omega
    | false =>
      simp only [hy, Bool.false_eq_true, if_false]
      exact hq _ _ _ _ _ hC hx
  | succ k ih =>
    intro m n197 v204 n206 n207 l227 hk hm hC hx
    obtain ⟨m, rfl⟩ : ∃ m', m = m' + 1 := ⟨m - 1, by omega⟩
    unfold la75o100006
    cases hy : ((((decide (n197 > (0 : Int))) && (decide (n219 > (0 : Int)))) && (decide ((l227.length : Int) < (60 : Int)))) && (decide ((w64 (n221 + (l227.length : Int))) < (100000 : Int)))) with
    | true =>
      simp only [hy, if_true]
      simp only [Bool.and_eq_true, decide_eq_true_eq] at hy
      obtain ⟨a2, c2, p2, -⟩ := d92 hC n207 (6 : Int) (by decide)
      rw [chk_ok a2]
      have hx1 := hx.1
      have el := el_app hx (el_one (sh := [.i .i64, .s]) (r := [.i .i64 n219, .s (asS (resC (t92 l205 n206 n207 (6 : Int)) 0 0))]) ⟨_, _, rfl, ⟨_, rfl, wfI hi⟩, _, _, rfl, ⟨_, rfl, Nat.le_trans p2 (by decide)⟩, rfl⟩)
      rw [chk_ok (by rw [Bool.and_eq_true]; exact ⟨rfl, decide_eq_true (by simp only [List.length_cons, List.length_nil]; unfold lim; omega)⟩)]
      exact ih m _ _ _ _ _ (by simp; omega) (by omega) c2 ⟨by simp; omega, el.2⟩
    | false =>
      simp only [hy, Bool.false_eq_true, if_false]
      exact hq _ _ _ _ _ hC hx

theorem lp75_200006 (n312 : Int) (n313 : Int) (n314 : Int) (n315 : Int) (s316 : ByteArray) (l317 : List (List D)) (b319 : Bool) (b320 : Bool) (b321 : Bool) (b322 : Bool) (l324 : List (List D)) (n327 : Int) (n328 : Int) (n329 : Int) (n330 : Int) (s331 : ByteArray) (l332 : List (List D)) (n333 : Int) (n334 : Int) (n335 : Int) (n336 : Int) (s337 : ByteArray) (n338 : Int) (n339 : Int) (n340 : Int) (n341 : Int) (s342 : ByteArray) (q1 : Int → Bool → Int → Int → List (List D) → Rs) (Q : Rs → Prop) (hi : I64 n338) (hq : ∀ (z0 : Int) (z1 : Bool) (z2 : Int) (z3 : Int) (z4 : List (List D)), Cu l324 z2 → EL [.i .i64, .s] 8000 z4 → Q (q1 z0 z1 z2 z3 z4)) : ∀ (k m : Nat) (n318 : Int) (v323 : SV) (n325 : Int) (n326 : Int) (l343 : List (List D)), 2000 - l343.length ≤ k → k < m → Cu l324 n325 → EL [.i .i64, .s] 8000 l343 → Q (la75o200006 t53 t74 t79 t92 n312 n313 n314 n315 s316 l317 b319 b320 b321 b322 l324 n327 n328 n329 n330 s331 l332 n333 n334 n335 n336 s337 n338 n339 n340 n341 s342 q1 m n318 v323 n325 n326 l343) := by
  intro k
  induction k with
  | zero =>
    intro m n318 v323 n325 n326 l343 hk hm hC hx
    obtain ⟨m, rfl⟩ : ∃ m', m = m' + 1 := ⟨m - 1, by omega⟩
    unfold la75o200006
    cases hy : ((((decide (n318 > (0 : Int))) && (decide (n338 > (0 : Int)))) && (decide ((l343.length : Int) < (60 : Int)))) && (decide ((w64 (n340 + (l343.length : Int))) < (100000 : Int)))) with
    | true =>
      exfalso
      simp only [Bool.and_eq_true, decide_eq_true_eq] at hy
      omega
    | false =>
      simp only [hy, Bool.false_eq_true, if_false]
      exact hq _ _ _ _ _ hC hx
  | succ k ih =>
    intro m n318 v323 n325 n326 l343 hk hm hC hx
    obtain ⟨m, rfl⟩ : ∃ m', m = m' + 1 := ⟨m - 1, by omega⟩
    unfold la75o200006
    cases hy : ((((decide (n318 > (0 : Int))) && (decide (n338 > (0 : Int)))) && (decide ((l343.length : Int) < (60 : Int)))) && (decide ((w64 (n340 + (l343.length : Int))) < (100000 : Int)))) with
    | true =>
      simp only [hy, if_true]
      simp only [Bool.and_eq_true, decide_eq_true_eq] at hy
      obtain ⟨a2, c2, p2, -⟩ := d92 hC n326 (6 : Int) (by decide)
      rw [chk_ok a2]
      have hx1 := hx.1
      have el := el_app hx (el_one (sh := [.i .i64, .s]) (r := [.i .i64 n338, .s (asS (resC (t92 l324 n325 n326 (6 : Int)) 0 0))]) ⟨_, _, rfl, ⟨_, rfl, wfI hi⟩, _, _, rfl, ⟨_, rfl, Nat.le_trans p2 (by decide)⟩, rfl⟩)
      rw [chk_ok (by rw [Bool.and_eq_true]; exact ⟨rfl, decide_eq_true (by simp only [List.length_cons, List.length_nil]; unfold lim; omega)⟩)]
      exact ih m _ _ _ _ _ (by simp; omega) (by omega) c2 ⟨by simp; omega, el.2⟩
    | false =>
      simp only [hy, Bool.false_eq_true, if_false]
      exact hq _ _ _ _ _ hC hx

theorem d75 {l1 : List (List D)} {n2 : Int} (C : Cu l1 n2) (n3 : Int) (n4 : Int) (n5 : Int) (n6 : Int) (n7 : Int) (s8 : ByteArray) (l9 : List (List D)) (H4 : I64 n4) (H5 : I64 n5) (H6 : I64 n6) (H7 : I64 n7) (H8 : s8.size ≤ 5000) (H9 : EL [.i .i64, .s] 6100 l9) : PQ zr75 zo75 (fun o => Cu l1 (asI (outC o 0 1)) ∧ I64 (asI (resC o 0 0)) ∧ I64 (asI (resC o 0 1)) ∧ I64 (asI (resC o 0 2)) ∧ (asS (resC o 0 4)).size ≤ 5000 ∧ EL [.i .i64, .s] 8000 (asL (resC o 0 5)) ∧ True) (t75 l1 n2 n3 n4 n5 n6 n7 s8 l9) := by
  unfold t75 ta75
  extract_lets -merge -useContext +onlyGivenNames -underBinder y1
  obtain ⟨a_y1, p0_y1, p1_y1, p2_y1, p3_y1, p4_y1, p5_y1, -⟩ : PQ zr53 zo53 _ y1 := n53 _ _ _ _ _ _ H4 H5 H6 H7 (by have q := H8; omega) (el_mono (by decide) H9)
  clear_value y1
  refine pq_chk a_y1 ?_
  extract_lets -merge -useContext +onlyGivenNames -underBinder y2
  obtain ⟨a_y2, c_y2, -⟩ : PQ zr74 zo74 _ y2 := d74 C _ _
  clear_value y2
  refine pq_chk a_y2 ?_
  extract_lets -merge -useContext +onlyGivenNames -underBinder k2
  have h_k2 : ∀ (b13 : Bool) (n14 : Int) (n15 : Int) (n16 : Int) (C_k2_n14 : Cu l1 n14) (I_k2_n16 : I64 n16), PQ zr75 zo75 (fun o => Cu l1 (asI (outC o 0 1)) ∧ I64 (asI (resC o 0 0)) ∧ I64 (asI (resC o 0 1)) ∧ I64 (asI (resC o 0 2)) ∧ (asS (resC o 0 4)).size ≤ 5000 ∧ EL [.i .i64, .s] 8000 (asL (resC o 0 5)) ∧ True) (k2 b13 n14 n15 n16) := by
    intro b13 n14 n15 n16 C_k2_n14 I_k2_n16
    dsimp -zeta only [k2]
    extract_lets -merge -useContext +onlyGivenNames -underBinder y3
    extract_lets -merge -useContext +onlyGivenNames -underBinder y4
    refine pq_ite (fun g1 => ?_) (fun g1 => ?_)
    ·
      extract_lets -merge -useContext +onlyGivenNames -underBinder y5
      obtain ⟨a_y5, c_y5, -⟩ : PQ zr74 zo74 _ y5 := d74 C_k2_n14 _ _
      clear_value y5
      refine pq_chk a_y5 ?_
      extract_lets -merge -useContext +onlyGivenNames -underBinder y6
      refine pq_ite (fun g2 => ?_) (fun g2 => ?_)
      ·
        extract_lets -merge -useContext +onlyGivenNames -underBinder y7
        extract_lets -merge -useContext +onlyGivenNames -underBinder y8
        extract_lets -merge -useContext +onlyGivenNames -underBinder y9
        extract_lets -merge -useContext +onlyGivenNames -underBinder y10
        obtain ⟨a_y10, c_y10, b_y10, -⟩ : PQ zr79 zo79 _ y10 := d79 c_y5 _ _
        clear_value y10
        refine pq_chk a_y10 ?_
        extract_lets -merge -useContext +onlyGivenNames -underBinder y11
        obtain ⟨a_y11, c_y11, p_y11, -⟩ : PQ zr92 zo92 _ y11 := d92 c_y10 _ _ (by decide)
        clear_value y11
        refine pq_chk a_y11 ?_
        extract_lets -merge -useContext +onlyGivenNames -underBinder y12
        extract_lets -merge -useContext +onlyGivenNames -underBinder y13
        refine pq_ite (fun g3 => ?_) (fun g3 => ?_)
        ·
          extract_lets -merge -useContext +onlyGivenNames -underBinder y14
          refine pq_chk (by have n0 : ([] : List (List D)).length = 0 := rfl; have q_y10 := b_y10; have q_y9 : y9.length ≤ 6200 := ((show EL [.i .i64, .s] 6200 y9 from (show EL [.i .i64, .s] 6200 (asL (resC y1 0 5)) from p5_y1))).1; have e_y12 : y12 = ((1 : Int) + (asI (resC y10 0 0))) := w64_in _ (by omega); have e_y14 : y14 = (y12 - (1 : Int)) := w64_in _ (by omega); have w_y10 : w64 ((y9.length : Int) + (2 : Int)) = ((y9.length : Int) + (2 : Int)) := w64_in _ (by omega); have h_g3 : (y12 ≤ (y9.length : Int)) := (by have := g3; simpa [y13] using this); first | exact decide_eq_true (by omega) | (rw [Bool.and_eq_true]; exact ⟨decide_eq_true (by omega), decide_eq_true (by omega)⟩)) ?_
          extract_lets -merge -useContext +onlyGivenNames -underBinder y15
          refine pq_chk (row_is (typ_getD (show EL [.i .i64, .s] 6200 y9 from (show EL [.i .i64, .s] 6200 (asL (resC y1 0 5)) from p5_y1)) (by have n0 : ([] : List (List D)).length = 0 := rfl; have q_y10 := b_y10; have q_y9 : y9.length ≤ 6200 := ((show EL [.i .i64, .s] 6200 y9 from (show EL [.i .i64, .s] 6200 (asL (resC y1 0 5)) from p5_y1))).1; have e_y12 : y12 = ((1 : Int) + (asI (resC y10 0 0))) := w64_in _ (by omega); have e_y14 : y14 = (y12 - (1 : Int)) := w64_in _ (by omega); have w_y10 : w64 ((y9.length : Int) + (2 : Int)) = ((y9.length : Int) + (2 : Int)) := w64_in _ (by omega); have h_g3 : (y12 ≤ (y9.length : Int)) := (by have := g3; simpa [y13] using this); omega))) ?_
          refine pq_chk (by have n0 : ([] : List (List D)).length = 0 := rfl; have q_y10 := b_y10; have q_y9 : y9.length ≤ 6200 := ((show EL [.i .i64, .s] 6200 y9 from (show EL [.i .i64, .s] 6200 (asL (resC y1 0 5)) from p5_y1))).1; have e_y12 : y12 = ((1 : Int) + (asI (resC y10 0 0))) := w64_in _ (by omega); have w_y10 : w64 ((y9.length : Int) + (2 : Int)) = ((y9.length : Int) + (2 : Int)) := w64_in _ (by omega); have h_g3 : (y12 ≤ (y9.length : Int)) := (by have := g3; simpa [y13] using this); first | exact decide_eq_true (by omega) | (rw [Bool.and_eq_true]; exact ⟨decide_eq_true (by omega), decide_eq_true (by omega)⟩)) ?_
          extract_lets -merge -useContext +onlyGivenNames -underBinder k3
          have h_k3 : ∀ (n17 : Int) (n18 : Int) (s19 : ByteArray) (I_k3_n17 : I64 n17) (S_k3_s19 : s19.size ≤ 5000), PQ zr75 zo75 (fun o => Cu l1 (asI (outC o 0 1)) ∧ I64 (asI (resC o 0 0)) ∧ I64 (asI (resC o 0 1)) ∧ I64 (asI (resC o 0 2)) ∧ (asS (resC o 0 4)).size ≤ 5000 ∧ EL [.i .i64, .s] 8000 (asL (resC o 0 5)) ∧ True) (k3 n17 n18 s19) := by
            intro n17 n18 s19 I_k3_n17 S_k3_s19
            dsimp -zeta only [k3]
            extract_lets -merge -useContext +onlyGivenNames -underBinder y16
            extract_lets -merge -useContext +onlyGivenNames -underBinder y17
            extract_lets -merge -useContext +onlyGivenNames -underBinder y18
            obtain ⟨a_y18, c_y18, -⟩ : PQ zr74 zo74 _ y18 := d74 c_y11 _ _
            clear_value y18
            refine pq_chk a_y18 ?_
            extract_lets -merge -useContext +onlyGivenNames -underBinder k5
            have h_k5 : ∀ (n23 : Int) (n24 : Int) (l25 : List (List D)) (C_k5_n23 : Cu l1 n23) (L_k5_l25 : EL [.i .i64, .s] 6200 l25), PQ zr75 zo75 (fun o => Cu l1 (asI (outC o 0 1)) ∧ I64 (asI (resC o 0 0)) ∧ I64 (asI (resC o 0 1)) ∧ I64 (asI (resC o 0 2)) ∧ (asS (resC o 0 4)).size ≤ 5000 ∧ EL [.i .i64, .s] 8000 (asL (resC o 0 5)) ∧ True) (k5 n23 n24 l25) := by
              intro n23 n24 l25 C_k5_n23 L_k5_l25
              dsimp -zeta only [k5]
              extract_lets -merge -useContext +onlyGivenNames -underBinder y19
              obtain ⟨a_y19, c_y19, b_y19, -⟩ : PQ zr79 zo79 _ y19 := d79 C_k5_n23 _ _
              clear_value y19
              refine pq_chk a_y19 ?_
              extract_lets -merge -useContext +onlyGivenNames -underBinder y20
              extract_lets -merge -useContext +onlyGivenNames -underBinder y21
              extract_lets -merge -useContext +onlyGivenNames -underBinder y22
              extract_lets -merge -useContext +onlyGivenNames -underBinder y23
              extract_lets -merge -useContext +onlyGivenNames -underBinder y24
              extract_lets -merge -useContext +onlyGivenNames -underBinder y25
              extract_lets -merge -useContext +onlyGivenNames -underBinder y26
              refine lp75_6 _ _ _ _ _ _ _ _ _ _ _ _ _ _ _ _ _ _ _ _ _ _ _ _ _ _ _ _ _ _ _ _ _ _ _ (show I64 y3 from (show I64 (asI (resC y1 0 0)) from p0_y1)) (fun n144 b145 n146 n147 l148 C_n146 F_l148 => ?_) 2000 KK _ _ _ _ _ (by omega) (by rw [KK_eq]; omega) c_y19 (el_mono (by decide) L_k5_l25)
              exact ⟨rfl, C_n146, (show I64 y3 from (show I64 (asI (resC y1 0 0)) from p0_y1)), I_k2_n16, I_k3_n17, (Nat.le_trans S_k3_s19 (by decide)), (el_mono (by decide) F_l148), trivial⟩
            extract_lets -merge -useContext +onlyGivenNames -underBinder y27
            refine pq_ite (fun g4 => ?_) (fun g4 => ?_)
            ·
              extract_lets -merge -useContext +onlyGivenNames -underBinder y28
              extract_lets -merge -useContext +onlyGivenNames -underBinder y29
              extract_lets -merge -useContext +onlyGivenNames -underBinder y30
              extract_lets -merge -useContext +onlyGivenNames -underBinder y31
              obtain ⟨a_y31, c_y31, b_y31, -⟩ : PQ zr79 zo79 _ y31 := d79 c_y18 _ _
              clear_value y31
              refine pq_chk a_y31 ?_
              extract_lets -merge -useContext +onlyGivenNames -underBinder y32
              refine pq_chk (by have n0 : ([] : List (List D)).length = 0 := rfl; have q_y10 := b_y10; have q_y31 := b_y31; have q_y9 : y9.length ≤ 6200 := ((show EL [.i .i64, .s] 6200 y9 from (show EL [.i .i64, .s] 6200 (asL (resC y1 0 5)) from p5_y1))).1; have q_y30 : y30.length ≤ 6200 := ((show EL [.i .i64, .s] 6200 y30 from (el_drop (show EL [.i .i64, .s] 6200 y9 from (show EL [.i .i64, .s] 6200 (asL (resC y1 0 5)) from p5_y1))))).1; have e_y12 : y12 = ((1 : Int) + (asI (resC y10 0 0))) := w64_in _ (by omega); have e_y30 : y30.length = y9.length - y12.toNat := List.length_drop; have e_y32 : y32 = asI (resC y31 0 0) := rfl; have w_y10 : w64 ((y9.length : Int) + (2 : Int)) = ((y9.length : Int) + (2 : Int)) := w64_in _ (by omega); have w_y31 : w64 ((y30.length : Int) + (1 : Int)) = ((y30.length : Int) + (1 : Int)) := w64_in _ (by omega); have h_g3 : (y12 ≤ (y9.length : Int)) := (by have := g3; simpa [y13] using this); first | exact decide_eq_true (by omega) | (rw [Bool.and_eq_true]; exact ⟨decide_eq_true (by omega), decide_eq_true (by omega)⟩)) ?_
              exact h_k5 (asI (outC y31 0 1)) (asI (outC y31 0 2)) (y30.take y32.toNat) c_y31 (el_mono (by decide) (el_take (show EL [.i .i64, .s] 6200 y30 from (el_drop (show EL [.i .i64, .s] 6200 y9 from (show EL [.i .i64, .s] 6200 (asL (resC y1 0 5)) from p5_y1))))))
            ·
              extract_lets -merge -useContext +onlyGivenNames -underBinder y33
              extract_lets -merge -useContext +onlyGivenNames -underBinder y34
              extract_lets -merge -useContext +onlyGivenNames -underBinder y35
              exact h_k5 y33 y34 y35 c_y18 (el_mono (by decide) (show EL [.i .i64, .s] 6200 y35 from (el_drop (show EL [.i .i64, .s] 6200 y9 from (show EL [.i .i64, .s] 6200 (asL (resC y1 0 5)) from p5_y1)))))
          extract_lets -merge -useContext +onlyGivenNames -underBinder y36
          extract_lets -merge -useContext +onlyGivenNames -underBinder y37
          extract_lets -merge -useContext +onlyGivenNames -underBinder y38
          refine pq_ite (fun g5 => ?_) (fun g5 => ?_)
          ·
            extract_lets -merge -useContext +onlyGivenNames -underBinder y39
            extract_lets -merge -useContext +onlyGivenNames -underBinder y40
            exact h_k3 y37 y39 y40 (show I64 y37 from (i64_w64 _)) (Nat.le_trans (show y40.size ≤ 1000 from (show (asS (resC y11 0 0)).size ≤ 1000 from p_y11)) (by decide))
          ·
            extract_lets -merge -useContext +onlyGivenNames -underBinder y41
            extract_lets -merge -useContext +onlyGivenNames -underBinder y42
            exact h_k3 y36 y41 y42 (show I64 y36 from (show I64 (asI (resC y1 0 2)) from p2_y1)) (Nat.le_trans (show y42.size ≤ 5000 from (show (asS (resC y1 0 4)).size ≤ 5000 from p4_y1)) (by decide))
        ·
          extract_lets -merge -useContext +onlyGivenNames -underBinder k4
          have h_k4 : ∀ (n20 : Int) (n21 : Int) (s22 : ByteArray) (I_k4_n20 : I64 n20) (I_k4_n21 : I64 n21) (S_k4_s22 : s22.size ≤ 5000), PQ zr75 zo75 (fun o => Cu l1 (asI (outC o 0 1)) ∧ I64 (asI (resC o 0 0)) ∧ I64 (asI (resC o 0 1)) ∧ I64 (asI (resC o 0 2)) ∧ (asS (resC o 0 4)).size ≤ 5000 ∧ EL [.i .i64, .s] 8000 (asL (resC o 0 5)) ∧ True) (k4 n20 n21 s22) := by
            intro n20 n21 s22 I_k4_n20 I_k4_n21 S_k4_s22
            dsimp -zeta only [k4]
            extract_lets -merge -useContext +onlyGivenNames -underBinder y43
            extract_lets -merge -useContext +onlyGivenNames -underBinder y44
            extract_lets -merge -useContext +onlyGivenNames -underBinder y45
            obtain ⟨a_y45, c_y45, -⟩ : PQ zr74 zo74 _ y45 := d74 c_y11 _ _
            clear_value y45
            refine pq_chk a_y45 ?_
            extract_lets -merge -useContext +onlyGivenNames -underBinder k6
            have h_k6 : ∀ (n149 : Int) (n150 : Int) (l151 : List (List D)) (C_k6_n149 : Cu l1 n149) (L_k6_l151 : EL [.i .i64, .s] 0 l151), PQ zr75 zo75 (fun o => Cu l1 (asI (outC o 0 1)) ∧ I64 (asI (resC o 0 0)) ∧ I64 (asI (resC o 0 1)) ∧ I64 (asI (resC o 0 2)) ∧ (asS (resC o 0 4)).size ≤ 5000 ∧ EL [.i .i64, .s] 8000 (asL (resC o 0 5)) ∧ True) (k6 n149 n150 l151) := by
              intro n149 n150 l151 C_k6_n149 L_k6_l151
              dsimp -zeta only [k6]
              extract_lets -merge -useContext +onlyGivenNames -underBinder y46
              obtain ⟨a_y46, c_y46, b_y46, -⟩ : PQ zr79 zo79 _ y46 := d79 C_k6_n149 _ _
              clear_value y46
              refine pq_chk a_y46 ?_
              extract_lets -merge -useContext +onlyGivenNames -underBinder y47
              extract_lets -merge -useContext +onlyGivenNames -underBinder y48
              extract_lets -merge -useContext +onlyGivenNames -underBinder y49
              extract_lets -merge -useContext +onlyGivenNames -underBinder y50
              extract_lets -merge -useContext +onlyGivenNames -underBinder y51
              extract_lets -merge -useContext +onlyGivenNames -underBinder y52
              refine lp75_100006 _ _ _ _ _ _ _ _ _ _ _ _ _ _ _ _ _ _ _ _ _ _ _ _ _ _ _ _ _ _ _ _ _ _ _ _ (show I64 y3 from (show I64 (asI (resC y1 0 0)) from p0_y1)) (fun n273 b274 n275 n276 l277 C_n275 F_l277 => ?_) 2000 KK _ _ _ _ _ (by omega) (by rw [KK_eq]; omega) c_y46 (el_mono (by decide) L_k6_l151)
              exact ⟨rfl, C_n275, (show I64 y3 from (show I64 (asI (resC y1 0 0)) from p0_y1)), I_k2_n16, I_k4_n20, (Nat.le_trans S_k4_s22 (by decide)), (el_mono (by decide) F_l277), trivial⟩
            extract_lets -merge -useContext +onlyGivenNames -underBinder y53
            refine pq_ite (fun g6 => ?_) (fun g6 => ?_)
            ·
              extract_lets -merge -useContext +onlyGivenNames -underBinder y54
              extract_lets -merge -useContext +onlyGivenNames -underBinder y55
              extract_lets -merge -useContext +onlyGivenNames -underBinder y56
              obtain ⟨a_y56, c_y56, b_y56, -⟩ : PQ zr79 zo79 _ y56 := d79 c_y45 _ _
              clear_value y56
              refine pq_chk a_y56 ?_
              extract_lets -merge -useContext +onlyGivenNames -underBinder y57
              refine pq_chk (by have n0 : ([] : List (List D)).length = 0 := rfl; have q_y56 := b_y56; have e_y57 : y57 = asI (resC y56 0 0) := rfl; have w_y56 : w64 ((([] : List (List D)).length : Int) + (1 : Int)) = ((([] : List (List D)).length : Int) + (1 : Int)) := w64_in _ (by omega); first | exact decide_eq_true (by omega) | (rw [Bool.and_eq_true]; exact ⟨decide_eq_true (by omega), decide_eq_true (by omega)⟩)) ?_
              exact h_k6 (asI (outC y56 0 1)) (asI (outC y56 0 2)) (([] : List (List D)).take y57.toNat) c_y56 (el_mono (by decide) (el_take (el_nil _)))
            ·
              extract_lets -merge -useContext +onlyGivenNames -underBinder y58
              extract_lets -merge -useContext +onlyGivenNames -underBinder y59
              exact h_k6 y58 y59 ([] : List (List D)) c_y45 (el_mono (by decide) (el_nil _))
          extract_lets -merge -useContext +onlyGivenNames -underBinder y60
          extract_lets -merge -useContext +onlyGivenNames -underBinder y61
          extract_lets -merge -useContext +onlyGivenNames -underBinder y62
          refine pq_ite (fun g7 => ?_) (fun g7 => ?_)
          ·
            extract_lets -merge -useContext +onlyGivenNames -underBinder y63
            exact h_k4 y61 y3 y63 (show I64 y61 from (i64_w64 _)) (show I64 y3 from (show I64 (asI (resC y1 0 0)) from p0_y1)) (Nat.le_trans (show y63.size ≤ 1000 from (show (asS (resC y11 0 0)).size ≤ 1000 from p_y11)) (by decide))
          ·
            extract_lets -merge -useContext +onlyGivenNames -underBinder y64
            extract_lets -merge -useContext +onlyGivenNames -underBinder y65
            exact h_k4 y60 y64 y65 (show I64 y60 from (show I64 (asI (resC y1 0 2)) from p2_y1)) (show I64 y64 from (show I64 (asI (resC y1 0 3)) from p3_y1)) (Nat.le_trans (show y65.size ≤ 5000 from (show (asS (resC y1 0 4)).size ≤ 5000 from p4_y1)) (by decide))
      ·
        extract_lets -merge -useContext +onlyGivenNames -underBinder y66
        extract_lets -merge -useContext +onlyGivenNames -underBinder y67
        extract_lets -merge -useContext +onlyGivenNames -underBinder y68
        obtain ⟨a_y68, c_y68, -⟩ : PQ zr74 zo74 _ y68 := d74 c_y5 _ _
        clear_value y68
        refine pq_chk a_y68 ?_
        extract_lets -merge -useContext +onlyGivenNames -underBinder k7
        have h_k7 : ∀ (n278 : Int) (n279 : Int) (l280 : List (List D)) (C_k7_n278 : Cu l1 n278) (L_k7_l280 : EL [.i .i64, .s] 6200 l280), PQ zr75 zo75 (fun o => Cu l1 (asI (outC o 0 1)) ∧ I64 (asI (resC o 0 0)) ∧ I64 (asI (resC o 0 1)) ∧ I64 (asI (resC o 0 2)) ∧ (asS (resC o 0 4)).size ≤ 5000 ∧ EL [.i .i64, .s] 8000 (asL (resC o 0 5)) ∧ True) (k7 n278 n279 l280) := by
          intro n278 n279 l280 C_k7_n278 L_k7_l280
          dsimp -zeta only [k7]
          extract_lets -merge -useContext +onlyGivenNames -underBinder y69
          obtain ⟨a_y69, c_y69, b_y69, -⟩ : PQ zr79 zo79 _ y69 := d79 C_k7_n278 _ _
          clear_value y69
          refine pq_chk a_y69 ?_
          extract_lets -merge -useContext +onlyGivenNames -underBinder y70
          extract_lets -merge -useContext +onlyGivenNames -underBinder y71
          extract_lets -merge -useContext +onlyGivenNames -underBinder y72
          extract_lets -merge -useContext +onlyGivenNames -underBinder y73
          extract_lets -merge -useContext +onlyGivenNames -underBinder y74
          refine lp75_200006 _ _ _ _ _ _ _ _ _ _ _ _ _ _ _ _ _ _ _ _ _ _ _ _ _ _ _ _ _ (show I64 y3 from (show I64 (asI (resC y1 0 0)) from p0_y1)) (fun n381 b382 n383 n384 l385 C_n383 F_l385 => ?_) 2000 KK _ _ _ _ _ (by omega) (by rw [KK_eq]; omega) c_y69 (el_mono (by decide) L_k7_l280)
          exact ⟨rfl, C_n383, (show I64 y3 from (show I64 (asI (resC y1 0 0)) from p0_y1)), I_k2_n16, (show I64 y72 from (show I64 (asI (resC y1 0 2)) from p2_y1)), (Nat.le_trans (show y74.size ≤ 5000 from (show (asS (resC y1 0 4)).size ≤ 5000 from p4_y1)) (by decide)), (el_mono (by decide) F_l385), trivial⟩
        extract_lets -merge -useContext +onlyGivenNames -underBinder y75
        refine pq_ite (fun g8 => ?_) (fun g8 => ?_)
        ·
          extract_lets -merge -useContext +onlyGivenNames -underBinder y76
          extract_lets -merge -useContext +onlyGivenNames -underBinder y77
          extract_lets -merge -useContext +onlyGivenNames -underBinder y78
          extract_lets -merge -useContext +onlyGivenNames -underBinder y79
          obtain ⟨a_y79, c_y79, b_y79, -⟩ : PQ zr79 zo79 _ y79 := d79 c_y68 _ _
          clear_value y79
          refine pq_chk a_y79 ?_
          extract_lets -merge -useContext +onlyGivenNames -underBinder y80
          refine pq_chk (by have n0 : ([] : List (List D)).length = 0 := rfl; have q_y79 := b_y79; have q_y78 : y78.length ≤ 6200 := ((show EL [.i .i64, .s] 6200 y78 from (show EL [.i .i64, .s] 6200 (asL (resC y1 0 5)) from p5_y1))).1; have e_y80 : y80 = asI (resC y79 0 0) := rfl; have w_y79 : w64 ((y78.length : Int) + (1 : Int)) = ((y78.length : Int) + (1 : Int)) := w64_in _ (by omega); first | exact decide_eq_true (by omega) | (rw [Bool.and_eq_true]; exact ⟨decide_eq_true (by omega), decide_eq_true (by omega)⟩)) ?_
          exact h_k7 (asI (outC y79 0 1)) (asI (outC y79 0 2)) (y78.take y80.toNat) c_y79 (el_mono (by decide) (el_take (show EL [.i .i64, .s] 6200 y78 from (show EL [.i .i64, .s] 6200 (asL (resC y1 0 5)) from p5_y1))))
        ·
          extract_lets -merge -useContext +onlyGivenNames -underBinder y81
          extract_lets -merge -useContext +onlyGivenNames -underBinder y82
          extract_lets -merge -useContext +onlyGivenNames -underBinder y83
          exact h_k7 y81 y82 y83 c_y68 (el_mono (by decide) (show EL [.i .i64, .s] 6200 y83 from (show EL [.i .i64, .s] 6200 (asL (resC y1 0 5)) from p5_y1)))
    ·
      refine pq_chk (by revert g1; generalize y4 = u_y4; revert u_y4; decide) ?_
      extract_lets -merge -useContext +onlyGivenNames -underBinder y84
      obtain ⟨a_y84, c_y84, -⟩ : PQ zr74 zo74 _ y84 := d74 C_k2_n14 _ _
      clear_value y84
      refine pq_chk a_y84 ?_
      extract_lets -merge -useContext +onlyGivenNames -underBinder k8
      have h_k8 : ∀ (n386 : Int) (n387 : Int) (l388 : List (List D)) (C_k8_n386 : Cu l1 n386) (L_k8_l388 : EL [.i .i64, .s] 6200 l388), PQ zr75 zo75 (fun o => Cu l1 (asI (outC o 0 1)) ∧ I64 (asI (resC o 0 0)) ∧ I64 (asI (resC o 0 1)) ∧ I64 (asI (resC o 0 2)) ∧ (asS (resC o 0 4)).size ≤ 5000 ∧ EL [.i .i64, .s] 8000 (asL (resC o 0 5)) ∧ True) (k8 n386 n387 l388) := by
        intro n386 n387 l388 C_k8_n386 L_k8_l388
        dsimp -zeta only [k8]
        extract_lets -merge -useContext +onlyGivenNames -underBinder y85
        obtain ⟨a_y85, c_y85, b_y85, -⟩ : PQ zr79 zo79 _ y85 := d79 C_k8_n386 _ _
        clear_value y85
        refine pq_chk a_y85 ?_
        extract_lets -merge -useContext +onlyGivenNames -underBinder y86
        extract_lets -merge -useContext +onlyGivenNames -underBinder y87
        extract_lets -merge -useContext +onlyGivenNames -underBinder y88
        extract_lets -merge -useContext +onlyGivenNames -underBinder y89
        extract_lets -merge -useContext +onlyGivenNames -underBinder y90
        refine lp75_200006 _ _ _ _ _ _ _ _ _ _ _ _ _ _ _ _ _ _ _ _ _ _ _ _ _ _ _ _ _ (show I64 y3 from (show I64 (asI (resC y1 0 0)) from p0_y1)) (fun n489 b490 n491 n492 l493 C_n491 F_l493 => ?_) 2000 KK _ _ _ _ _ (by omega) (by rw [KK_eq]; omega) c_y85 (el_mono (by decide) L_k8_l388)
        exact ⟨rfl, C_n491, (show I64 y3 from (show I64 (asI (resC y1 0 0)) from p0_y1)), I_k2_n16, (show I64 y88 from (show I64 (asI (resC y1 0 2)) from p2_y1)), (Nat.le_trans (show y90.size ≤ 5000 from (show (asS (resC y1 0 4)).size ≤ 5000 from p4_y1)) (by decide)), (el_mono (by decide) F_l493), trivial⟩
      extract_lets -merge -useContext +onlyGivenNames -underBinder y91
      refine pq_ite (fun g9 => ?_) (fun g9 => ?_)
      ·
        extract_lets -merge -useContext +onlyGivenNames -underBinder y92
        extract_lets -merge -useContext +onlyGivenNames -underBinder y93
        extract_lets -merge -useContext +onlyGivenNames -underBinder y94
        extract_lets -merge -useContext +onlyGivenNames -underBinder y95
        obtain ⟨a_y95, c_y95, b_y95, -⟩ : PQ zr79 zo79 _ y95 := d79 c_y84 _ _
        clear_value y95
        refine pq_chk a_y95 ?_
        extract_lets -merge -useContext +onlyGivenNames -underBinder y96
        refine pq_chk (by have n0 : ([] : List (List D)).length = 0 := rfl; have q_y95 := b_y95; have q_y94 : y94.length ≤ 6200 := ((show EL [.i .i64, .s] 6200 y94 from (show EL [.i .i64, .s] 6200 (asL (resC y1 0 5)) from p5_y1))).1; have e_y96 : y96 = asI (resC y95 0 0) := rfl; have w_y95 : w64 ((y94.length : Int) + (1 : Int)) = ((y94.length : Int) + (1 : Int)) := w64_in _ (by omega); first | exact decide_eq_true (by omega) | (rw [Bool.and_eq_true]; exact ⟨decide_eq_true (by omega), decide_eq_true (by omega)⟩)) ?_
        exact h_k8 (asI (outC y95 0 1)) (asI (outC y95 0 2)) (y94.take y96.toNat) c_y95 (el_mono (by decide) (el_take (show EL [.i .i64, .s] 6200 y94 from (show EL [.i .i64, .s] 6200 (asL (resC y1 0 5)) from p5_y1))))
      ·
        extract_lets -merge -useContext +onlyGivenNames -underBinder y97
        extract_lets -merge -useContext +onlyGivenNames -underBinder y98
        extract_lets -merge -useContext +onlyGivenNames -underBinder y99
        exact h_k8 y97 y98 y99 c_y84 (el_mono (by decide) (show EL [.i .i64, .s] 6200 y99 from (show EL [.i .i64, .s] 6200 (asL (resC y1 0 5)) from p5_y1)))
  extract_lets -merge -useContext +onlyGivenNames -underBinder y100
  extract_lets -merge -useContext +onlyGivenNames -underBinder y101
  refine pq_ite (fun g10 => ?_) (fun g10 => ?_)
  ·
    extract_lets -merge -useContext +onlyGivenNames -underBinder y102
    extract_lets -merge -useContext +onlyGivenNames -underBinder y103
    extract_lets -merge -useContext +onlyGivenNames -underBinder y104
    obtain ⟨a_y104, c_y104, b_y104, -⟩ : PQ zr79 zo79 _ y104 := d79 c_y2 _ _
    clear_value y104
    refine pq_chk a_y104 ?_
    extract_lets -merge -useContext +onlyGivenNames -underBinder y105
    extract_lets -merge -useContext +onlyGivenNames -underBinder y106
    refine pq_ite (fun g11 => ?_) (fun g11 => ?_)
    ·
      extract_lets -merge -useContext +onlyGivenNames -underBinder y107
      extract_lets -merge -useContext +onlyGivenNames -underBinder y108
      extract_lets -merge -useContext +onlyGivenNames -underBinder y109
      obtain ⟨a_y109, c_y109, -⟩ : PQ zr74 zo74 _ y109 := d74 c_y104 _ _
      clear_value y109
      refine pq_chk a_y109 ?_
      extract_lets -merge -useContext +onlyGivenNames -underBinder y110
      refine pq_ite (fun g12 => ?_) (fun g12 => ?_)
      ·
        extract_lets -merge -useContext +onlyGivenNames -underBinder y111
        extract_lets -merge -useContext +onlyGivenNames -underBinder y112
        extract_lets -merge -useContext +onlyGivenNames -underBinder y113
        extract_lets -merge -useContext +onlyGivenNames -underBinder y114
        obtain ⟨a_y114, c_y114, b_y114, -⟩ : PQ zr79 zo79 _ y114 := d79 c_y109 _ _
        clear_value y114
        refine pq_chk a_y114 ?_
        extract_lets -merge -useContext +onlyGivenNames -underBinder y115
        obtain ⟨a_y115, c_y115, p_y115, -⟩ : PQ zr92 zo92 _ y115 := d92 c_y114 _ _ (by decide)
        clear_value y115
        refine pq_chk a_y115 ?_
        extract_lets -merge -useContext +onlyGivenNames -underBinder y116
        extract_lets -merge -useContext +onlyGivenNames -underBinder y117
        refine pq_ite (fun g13 => ?_) (fun g13 => ?_)
        ·
          extract_lets -merge -useContext +onlyGivenNames -underBinder y118
          refine pq_chk (by have n0 : ([] : List (List D)).length = 0 := rfl; have q_y114 := b_y114; have q_y113 : y113.length ≤ 6200 := ((show EL [.i .i64, .s] 6200 y113 from (show EL [.i .i64, .s] 6200 (asL (resC y1 0 5)) from p5_y1))).1; have e_y116 : y116 = ((1 : Int) + (asI (resC y114 0 0))) := w64_in _ (by omega); have e_y118 : y118 = (y116 - (1 : Int)) := w64_in _ (by omega); have w_y114 : w64 ((y113.length : Int) + (2 : Int)) = ((y113.length : Int) + (2 : Int)) := w64_in _ (by omega); have h_g13 : (y116 ≤ (y113.length : Int)) := (by have := g13; simpa [y117] using this); first | exact decide_eq_true (by omega) | (rw [Bool.and_eq_true]; exact ⟨decide_eq_true (by omega), decide_eq_true (by omega)⟩)) ?_
          extract_lets -merge -useContext +onlyGivenNames -underBinder y119
          refine pq_chk (row_is (typ_getD (show EL [.i .i64, .s] 6200 y113 from (show EL [.i .i64, .s] 6200 (asL (resC y1 0 5)) from p5_y1)) (by have n0 : ([] : List (List D)).length = 0 := rfl; have q_y114 := b_y114; have q_y113 : y113.length ≤ 6200 := ((show EL [.i .i64, .s] 6200 y113 from (show EL [.i .i64, .s] 6200 (asL (resC y1 0 5)) from p5_y1))).1; have e_y116 : y116 = ((1 : Int) + (asI (resC y114 0 0))) := w64_in _ (by omega); have e_y118 : y118 = (y116 - (1 : Int)) := w64_in _ (by omega); have w_y114 : w64 ((y113.length : Int) + (2 : Int)) = ((y113.length : Int) + (2 : Int)) := w64_in _ (by omega); have h_g13 : (y116 ≤ (y113.length : Int)) := (by have := g13; simpa [y117] using this); omega))) ?_
          refine pq_chk (by have n0 : ([] : List (List D)).length = 0 := rfl; have q_y114 := b_y114; have q_y113 : y113.length ≤ 6200 := ((show EL [.i .i64, .s] 6200 y113 from (show EL [.i .i64, .s] 6200 (asL (resC y1 0 5)) from p5_y1))).1; have e_y116 : y116 = ((1 : Int) + (asI (resC y114 0 0))) := w64_in _ (by omega); have w_y114 : w64 ((y113.length : Int) + (2 : Int)) = ((y113.length : Int) + (2 : Int)) := w64_in _ (by omega); have h_g13 : (y116 ≤ (y113.length : Int)) := (by have := g13; simpa [y117] using this); first | exact decide_eq_true (by omega) | (rw [Bool.and_eq_true]; exact ⟨decide_eq_true (by omega), decide_eq_true (by omega)⟩)) ?_
          extract_lets -merge -useContext +onlyGivenNames -underBinder k9
          have h_k9 : ∀ (n494 : Int) (n495 : Int) (s496 : ByteArray) (I_k9_n494 : I64 n494) (S_k9_s496 : s496.size ≤ 5000), PQ zr75 zo75 (fun o => Cu l1 (asI (outC o 0 1)) ∧ I64 (asI (resC o 0 0)) ∧ I64 (asI (resC o 0 1)) ∧ I64 (asI (resC o 0 2)) ∧ (asS (resC o 0 4)).size ≤ 5000 ∧ EL [.i .i64, .s] 8000 (asL (resC o 0 5)) ∧ True) (k9 n494 n495 s496) := by
            intro n494 n495 s496 I_k9_n494 S_k9_s496
            dsimp -zeta only [k9]
            extract_lets -merge -useContext +onlyGivenNames -underBinder y120
            extract_lets -merge -useContext +onlyGivenNames -underBinder y121
            extract_lets -merge -useContext +onlyGivenNames -underBinder y122
            obtain ⟨a_y122, c_y122, -⟩ : PQ zr74 zo74 _ y122 := d74 c_y115 _ _
            clear_value y122
            refine pq_chk a_y122 ?_
            extract_lets -merge -useContext +onlyGivenNames -underBinder k11
            have h_k11 : ∀ (n500 : Int) (n501 : Int) (l502 : List (List D)) (C_k11_n500 : Cu l1 n500) (L_k11_l502 : EL [.i .i64, .s] 6200 l502), PQ zr75 zo75 (fun o => Cu l1 (asI (outC o 0 1)) ∧ I64 (asI (resC o 0 0)) ∧ I64 (asI (resC o 0 1)) ∧ I64 (asI (resC o 0 2)) ∧ (asS (resC o 0 4)).size ≤ 5000 ∧ EL [.i .i64, .s] 8000 (asL (resC o 0 5)) ∧ True) (k11 n500 n501 l502) := by
              intro n500 n501 l502 C_k11_n500 L_k11_l502
              dsimp -zeta only [k11]
              extract_lets -merge -useContext +onlyGivenNames -underBinder y123
              obtain ⟨a_y123, c_y123, b_y123, -⟩ : PQ zr79 zo79 _ y123 := d79 C_k11_n500 _ _
              clear_value y123
              refine pq_chk a_y123 ?_
              extract_lets -merge -useContext +onlyGivenNames -underBinder y124
              extract_lets -merge -useContext +onlyGivenNames -underBinder y125
              extract_lets -merge -useContext +onlyGivenNames -underBinder y126
              extract_lets -merge -useContext +onlyGivenNames -underBinder y127
              extract_lets -merge -useContext +onlyGivenNames -underBinder y128
              extract_lets -merge -useContext +onlyGivenNames -underBinder y129
              extract_lets -merge -useContext +onlyGivenNames -underBinder y130
              refine lp75_300006 _ _ _ _ _ _ _ _ _ _ _ _ _ _ _ _ _ _ _ _ _ _ _ _ _ _ _ _ _ _ _ _ _ _ (show I64 y105 from (i64_w64 _)) (fun n618 b619 n620 n621 l622 C_n620 F_l622 => ?_) 2000 KK _ _ _ _ _ (by omega) (by rw [KK_eq]; omega) c_y123 (el_mono (by decide) L_k11_l502)
              exact ⟨rfl, C_n620, (show I64 y105 from (i64_w64 _)), (show I64 y128 from (i64_w64 _)), I_k9_n494, (Nat.le_trans S_k9_s496 (by decide)), (el_mono (by decide) F_l622), trivial⟩
            extract_lets -merge -useContext +onlyGivenNames -underBinder y131
            refine pq_ite (fun g14 => ?_) (fun g14 => ?_)
            ·
              extract_lets -merge -useContext +onlyGivenNames -underBinder y132
              extract_lets -merge -useContext +onlyGivenNames -underBinder y133
              extract_lets -merge -useContext +onlyGivenNames -underBinder y134
              extract_lets -merge -useContext +onlyGivenNames -underBinder y135
              obtain ⟨a_y135, c_y135, b_y135, -⟩ : PQ zr79 zo79 _ y135 := d79 c_y122 _ _
              clear_value y135
              refine pq_chk a_y135 ?_
              extract_lets -merge -useContext +onlyGivenNames -underBinder y136
              refine pq_chk (by have n0 : ([] : List (List D)).length = 0 := rfl; have q_y114 := b_y114; have q_y135 := b_y135; have q_y113 : y113.length ≤ 6200 := ((show EL [.i .i64, .s] 6200 y113 from (show EL [.i .i64, .s] 6200 (asL (resC y1 0 5)) from p5_y1))).1; have q_y134 : y134.length ≤ 6200 := ((show EL [.i .i64, .s] 6200 y134 from (el_drop (show EL [.i .i64, .s] 6200 y113 from (show EL [.i .i64, .s] 6200 (asL (resC y1 0 5)) from p5_y1))))).1; have e_y116 : y116 = ((1 : Int) + (asI (resC y114 0 0))) := w64_in _ (by omega); have e_y134 : y134.length = y113.length - y116.toNat := List.length_drop; have e_y136 : y136 = asI (resC y135 0 0) := rfl; have w_y114 : w64 ((y113.length : Int) + (2 : Int)) = ((y113.length : Int) + (2 : Int)) := w64_in _ (by omega); have w_y135 : w64 ((y134.length : Int) + (1 : Int)) = ((y134.length : Int) + (1 : Int)) := w64_in _ (by omega); have h_g13 : (y116 ≤ (y113.length : Int)) := (by have := g13; simpa [y117] using this); first | exact decide_eq_true (by omega) | (rw [Bool.and_eq_true]; exact ⟨decide_eq_true (by omega), decide_eq_true (by omega)⟩)) ?_
              exact h_k11 (asI (outC y135 0 1)) (asI (outC y135 0 2)) (y134.take y136.toNat) c_y135 (el_mono (by decide) (el_take (show EL [.i .i64, .s] 6200 y134 from (el_drop (show EL [.i .i64, .s] 6200 y113 from (show EL [.i .i64, .s] 6200 (asL (resC y1 0 5)) from p5_y1))))))
            ·
              extract_lets -merge -useContext +onlyGivenNames -underBinder y137
              extract_lets -merge -useContext +onlyGivenNames -underBinder y138
              extract_lets -merge -useContext +onlyGivenNames -underBinder y139
              exact h_k11 y137 y138 y139 c_y122 (el_mono (by decide) (show EL [.i .i64, .s] 6200 y139 from (el_drop (show EL [.i .i64, .s] 6200 y113 from (show EL [.i .i64, .s] 6200 (asL (resC y1 0 5)) from p5_y1)))))
          extract_lets -merge -useContext +onlyGivenNames -underBinder y140
          extract_lets -merge -useContext +onlyGivenNames -underBinder y141
          extract_lets -merge -useContext +onlyGivenNames -underBinder y142
          refine pq_ite (fun g15 => ?_) (fun g15 => ?_)
          ·
            extract_lets -merge -useContext +onlyGivenNames -underBinder y143
            extract_lets -merge -useContext +onlyGivenNames -underBinder y144
            exact h_k9 y141 y143 y144 (show I64 y141 from (i64_w64 _)) (Nat.le_trans (show y144.size ≤ 1000 from (show (asS (resC y115 0 0)).size ≤ 1000 from p_y115)) (by decide))
          ·
            extract_lets -merge -useContext +onlyGivenNames -underBinder y145
            extract_lets -merge -useContext +onlyGivenNames -underBinder y146
            exact h_k9 y140 y145 y146 (show I64 y140 from (show I64 (asI (resC y1 0 2)) from p2_y1)) (Nat.le_trans (show y146.size ≤ 5000 from (show (asS (resC y1 0 4)).size ≤ 5000 from p4_y1)) (by decide))
        ·
          extract_lets -merge -useContext +onlyGivenNames -underBinder k10
          have h_k10 : ∀ (n497 : Int) (n498 : Int) (s499 : ByteArray) (I_k10_n497 : I64 n497) (I_k10_n498 : I64 n498) (S_k10_s499 : s499.size ≤ 5000), PQ zr75 zo75 (fun o => Cu l1 (asI (outC o 0 1)) ∧ I64 (asI (resC o 0 0)) ∧ I64 (asI (resC o 0 1)) ∧ I64 (asI (resC o 0 2)) ∧ (asS (resC o 0 4)).size ≤ 5000 ∧ EL [.i .i64, .s] 8000 (asL (resC o 0 5)) ∧ True) (k10 n497 n498 s499) := by
            intro n497 n498 s499 I_k10_n497 I_k10_n498 S_k10_s499
            dsimp -zeta only [k10]
            extract_lets -merge -useContext +onlyGivenNames -underBinder y147
            extract_lets -merge -useContext +onlyGivenNames -underBinder y148
            extract_lets -merge -useContext +onlyGivenNames -underBinder y149
            obtain ⟨a_y149, c_y149, -⟩ : PQ zr74 zo74 _ y149 := d74 c_y115 _ _
            clear_value y149
            refine pq_chk a_y149 ?_
            extract_lets -merge -useContext +onlyGivenNames -underBinder k12
            have h_k12 : ∀ (n623 : Int) (n624 : Int) (l625 : List (List D)) (C_k12_n623 : Cu l1 n623) (L_k12_l625 : EL [.i .i64, .s] 0 l625), PQ zr75 zo75 (fun o => Cu l1 (asI (outC o 0 1)) ∧ I64 (asI (resC o 0 0)) ∧ I64 (asI (resC o 0 1)) ∧ I64 (asI (resC o 0 2)) ∧ (asS (resC o 0 4)).size ≤ 5000 ∧ EL [.i .i64, .s] 8000 (asL (resC o 0 5)) ∧ True) (k12 n623 n624 l625) := by
              intro n623 n624 l625 C_k12_n623 L_k12_l625
              dsimp -zeta only [k12]
              extract_lets -merge -useContext +onlyGivenNames -underBinder y150
              obtain ⟨a_y150, c_y150, b_y150, -⟩ : PQ zr79 zo79 _ y150 := d79 C_k12_n623 _ _
              clear_value y150
              refine pq_chk a_y150 ?_
              extract_lets -merge -useContext +onlyGivenNames -underBinder y151
              extract_lets -merge -useContext +onlyGivenNames -underBinder y152
              extract_lets -merge -useContext +onlyGivenNames -underBinder y153
              extract_lets -merge -useContext +onlyGivenNames -underBinder y154
              extract_lets -merge -useContext +onlyGivenNames -underBinder y155
              extract_lets -merge -useContext +onlyGivenNames -underBinder y156
              refine lp75_400006 _ _ _ _ _ _ _ _ _ _ _ _ _ _ _ _ _ _ _ _ _ _ _ _ _ _ _ _ _ _ _ _ _ _ _ (show I64 y105 from (i64_w64 _)) (fun n744 b745 n746 n747 l748 C_n746 F_l748 => ?_) 2000 KK _ _ _ _ _ (by omega) (by rw [KK_eq]; omega) c_y150 (el_mono (by decide) L_k12_l625)
              exact ⟨rfl, C_n746, (show I64 y105 from (i64_w64 _)), (show I64 y155 from (i64_w64 _)), I_k10_n497, (Nat.le_trans S_k10_s499 (by decide)), (el_mono (by decide) F_l748), trivial⟩
            extract_lets -merge -useContext +onlyGivenNames -underBinder y157
            refine pq_ite (fun g16 => ?_) (fun g16 => ?_)
            ·
              extract_lets -merge -useContext +onlyGivenNames -underBinder y158
              extract_lets -merge -useContext +onlyGivenNames -underBinder y159
              extract_lets -merge -useContext +onlyGivenNames -underBinder y160
              obtain ⟨a_y160, c_y160, b_y160, -⟩ : PQ zr79 zo79 _ y160 := d79 c_y149 _ _
              clear_value y160
              refine pq_chk a_y160 ?_
              extract_lets -merge -useContext +onlyGivenNames -underBinder y161
              refine pq_chk (by have n0 : ([] : List (List D)).length = 0 := rfl; have q_y160 := b_y160; have e_y161 : y161 = asI (resC y160 0 0) := rfl; have w_y160 : w64 ((([] : List (List D)).length : Int) + (1 : Int)) = ((([] : List (List D)).length : Int) + (1 : Int)) := w64_in _ (by omega); first | exact decide_eq_true (by omega) | (rw [Bool.and_eq_true]; exact ⟨decide_eq_true (by omega), decide_eq_true (by omega)⟩)) ?_
              exact h_k12 (asI (outC y160 0 1)) (asI (outC y160 0 2)) (([] : List (List D)).take y161.toNat) c_y160 (el_mono (by decide) (el_take (el_nil _)))
            ·
              extract_lets -merge -useContext +onlyGivenNames -underBinder y162
              extract_lets -merge -useContext +onlyGivenNames -underBinder y163
              exact h_k12 y162 y163 ([] : List (List D)) c_y149 (el_mono (by decide) (el_nil _))
          extract_lets -merge -useContext +onlyGivenNames -underBinder y164
          extract_lets -merge -useContext +onlyGivenNames -underBinder y165
          extract_lets -merge -useContext +onlyGivenNames -underBinder y166
          refine pq_ite (fun g17 => ?_) (fun g17 => ?_)
          ·
            extract_lets -merge -useContext +onlyGivenNames -underBinder y167
            exact h_k10 y165 y105 y167 (show I64 y165 from (i64_w64 _)) (show I64 y105 from (i64_w64 _)) (Nat.le_trans (show y167.size ≤ 1000 from (show (asS (resC y115 0 0)).size ≤ 1000 from p_y115)) (by decide))
          ·
            extract_lets -merge -useContext +onlyGivenNames -underBinder y168
            extract_lets -merge -useContext +onlyGivenNames -underBinder y169
            exact h_k10 y164 y168 y169 (show I64 y164 from (show I64 (asI (resC y1 0 2)) from p2_y1)) (show I64 y168 from (show I64 (asI (resC y1 0 3)) from p3_y1)) (Nat.le_trans (show y169.size ≤ 5000 from (show (asS (resC y1 0 4)).size ≤ 5000 from p4_y1)) (by decide))
      ·
        extract_lets -merge -useContext +onlyGivenNames -underBinder y170
        extract_lets -merge -useContext +onlyGivenNames -underBinder y171
        extract_lets -merge -useContext +onlyGivenNames -underBinder y172
        obtain ⟨a_y172, c_y172, -⟩ : PQ zr74 zo74 _ y172 := d74 c_y109 _ _
        clear_value y172
        refine pq_chk a_y172 ?_
        extract_lets -merge -useContext +onlyGivenNames -underBinder k13
        have h_k13 : ∀ (n749 : Int) (n750 : Int) (l751 : List (List D)) (C_k13_n749 : Cu l1 n749) (L_k13_l751 : EL [.i .i64, .s] 6200 l751), PQ zr75 zo75 (fun o => Cu l1 (asI (outC o 0 1)) ∧ I64 (asI (resC o 0 0)) ∧ I64 (asI (resC o 0 1)) ∧ I64 (asI (resC o 0 2)) ∧ (asS (resC o 0 4)).size ≤ 5000 ∧ EL [.i .i64, .s] 8000 (asL (resC o 0 5)) ∧ True) (k13 n749 n750 l751) := by
          intro n749 n750 l751 C_k13_n749 L_k13_l751
          dsimp -zeta only [k13]
          extract_lets -merge -useContext +onlyGivenNames -underBinder y173
          obtain ⟨a_y173, c_y173, b_y173, -⟩ : PQ zr79 zo79 _ y173 := d79 C_k13_n749 _ _
          clear_value y173
          refine pq_chk a_y173 ?_
          extract_lets -merge -useContext +onlyGivenNames -underBinder y174
          extract_lets -merge -useContext +onlyGivenNames -underBinder y175
          extract_lets -merge -useContext +onlyGivenNames -underBinder y176
          extract_lets -merge -useContext +onlyGivenNames -underBinder y177
          extract_lets -merge -useContext +onlyGivenNames -underBinder y178
          refine lp75_500006 _ _ _ _ _ _ _ _ _ _ _ _ _ _ _ _ _ _ _ _ _ _ _ _ _ _ _ _ (show I64 y105 from (i64_w64 _)) (fun n849 b850 n851 n852 l853 C_n851 F_l853 => ?_) 2000 KK _ _ _ _ _ (by omega) (by rw [KK_eq]; omega) c_y173 (el_mono (by decide) L_k13_l751)
          exact ⟨rfl, C_n851, (show I64 y105 from (i64_w64 _)), (show I64 y175 from (i64_w64 _)), (show I64 y176 from (show I64 (asI (resC y1 0 2)) from p2_y1)), (Nat.le_trans (show y178.size ≤ 5000 from (show (asS (resC y1 0 4)).size ≤ 5000 from p4_y1)) (by decide)), (el_mono (by decide) F_l853), trivial⟩
        extract_lets -merge -useContext +onlyGivenNames -underBinder y179
        refine pq_ite (fun g18 => ?_) (fun g18 => ?_)
        ·
          extract_lets -merge -useContext +onlyGivenNames -underBinder y180
          extract_lets -merge -useContext +onlyGivenNames -underBinder y181
          extract_lets -merge -useContext +onlyGivenNames -underBinder y182
          extract_lets -merge -useContext +onlyGivenNames -underBinder y183
          obtain ⟨a_y183, c_y183, b_y183, -⟩ : PQ zr79 zo79 _ y183 := d79 c_y172 _ _
          clear_value y183
          refine pq_chk a_y183 ?_
          extract_lets -merge -useContext +onlyGivenNames -underBinder y184
          refine pq_chk (by have n0 : ([] : List (List D)).length = 0 := rfl; have q_y183 := b_y183; have q_y182 : y182.length ≤ 6200 := ((show EL [.i .i64, .s] 6200 y182 from (show EL [.i .i64, .s] 6200 (asL (resC y1 0 5)) from p5_y1))).1; have e_y184 : y184 = asI (resC y183 0 0) := rfl; have w_y183 : w64 ((y182.length : Int) + (1 : Int)) = ((y182.length : Int) + (1 : Int)) := w64_in _ (by omega); first | exact decide_eq_true (by omega) | (rw [Bool.and_eq_true]; exact ⟨decide_eq_true (by omega), decide_eq_true (by omega)⟩)) ?_
          exact h_k13 (asI (outC y183 0 1)) (asI (outC y183 0 2)) (y182.take y184.toNat) c_y183 (el_mono (by decide) (el_take (show EL [.i .i64, .s] 6200 y182 from (show EL [.i .i64, .s] 6200 (asL (resC y1 0 5)) from p5_y1))))
        ·
          extract_lets -merge -useContext +onlyGivenNames -underBinder y185
          extract_lets -merge -useContext +onlyGivenNames -underBinder y186
          extract_lets -merge -useContext +onlyGivenNames -underBinder y187
          exact h_k13 y185 y186 y187 c_y172 (el_mono (by decide) (show EL [.i .i64, .s] 6200 y187 from (show EL [.i .i64, .s] 6200 (asL (resC y1 0 5)) from p5_y1)))
    ·
      refine pq_chk (by revert g11; generalize y106 = u_y106; revert u_y106; decide) ?_
      extract_lets -merge -useContext +onlyGivenNames -underBinder y188
      extract_lets -merge -useContext +onlyGivenNames -underBinder y189
      extract_lets -merge -useContext +onlyGivenNames -underBinder y190
      obtain ⟨a_y190, c_y190, -⟩ : PQ zr74 zo74 _ y190 := d74 c_y104 _ _
      clear_value y190
      refine pq_chk a_y190 ?_
      extract_lets -merge -useContext +onlyGivenNames -underBinder k14
      have h_k14 : ∀ (n854 : Int) (n855 : Int) (l856 : List (List D)) (C_k14_n854 : Cu l1 n854) (L_k14_l856 : EL [.i .i64, .s] 6200 l856), PQ zr75 zo75 (fun o => Cu l1 (asI (outC o 0 1)) ∧ I64 (asI (resC o 0 0)) ∧ I64 (asI (resC o 0 1)) ∧ I64 (asI (resC o 0 2)) ∧ (asS (resC o 0 4)).size ≤ 5000 ∧ EL [.i .i64, .s] 8000 (asL (resC o 0 5)) ∧ True) (k14 n854 n855 l856) := by
        intro n854 n855 l856 C_k14_n854 L_k14_l856
        dsimp -zeta only [k14]
        extract_lets -merge -useContext +onlyGivenNames -underBinder y191
        obtain ⟨a_y191, c_y191, b_y191, -⟩ : PQ zr79 zo79 _ y191 := d79 C_k14_n854 _ _
        clear_value y191
        refine pq_chk a_y191 ?_
        extract_lets -merge -useContext +onlyGivenNames -underBinder y192
        extract_lets -merge -useContext +onlyGivenNames -underBinder y193
        extract_lets -merge -useContext +onlyGivenNames -underBinder y194
        extract_lets -merge -useContext +onlyGivenNames -underBinder y195
        extract_lets -merge -useContext +onlyGivenNames -underBinder y196
        refine lp75_500006 _ _ _ _ _ _ _ _ _ _ _ _ _ _ _ _ _ _ _ _ _ _ _ _ _ _ _ _ (show I64 y105 from (i64_w64 _)) (fun n954 b955 n956 n957 l958 C_n956 F_l958 => ?_) 2000 KK _ _ _ _ _ (by omega) (by rw [KK_eq]; omega) c_y191 (el_mono (by decide) L_k14_l856)
        exact ⟨rfl, C_n956, (show I64 y105 from (i64_w64 _)), (show I64 y193 from (i64_w64 _)), (show I64 y194 from (show I64 (asI (resC y1 0 2)) from p2_y1)), (Nat.le_trans (show y196.size ≤ 5000 from (show (asS (resC y1 0 4)).size ≤ 5000 from p4_y1)) (by decide)), (el_mono (by decide) F_l958), trivial⟩
      extract_lets -merge -useContext +onlyGivenNames -underBinder y197
      refine pq_ite (fun g19 => ?_) (fun g19 => ?_)
      ·
        extract_lets -merge -useContext +onlyGivenNames -underBinder y198
        extract_lets -merge -useContext +onlyGivenNames -underBinder y199
        extract_lets -merge -useContext +onlyGivenNames -underBinder y200
        extract_lets -merge -useContext +onlyGivenNames -underBinder y201
        obtain ⟨a_y201, c_y201, b_y201, -⟩ : PQ zr79 zo79 _ y201 := d79 c_y190 _ _
        clear_value y201
        refine pq_chk a_y201 ?_
        extract_lets -merge -useContext +onlyGivenNames -underBinder y202
        refine pq_chk (by have n0 : ([] : List (List D)).length = 0 := rfl; have q_y201 := b_y201; have q_y200 : y200.length ≤ 6200 := ((show EL [.i .i64, .s] 6200 y200 from (show EL [.i .i64, .s] 6200 (asL (resC y1 0 5)) from p5_y1))).1; have e_y202 : y202 = asI (resC y201 0 0) := rfl; have w_y201 : w64 ((y200.length : Int) + (1 : Int)) = ((y200.length : Int) + (1 : Int)) := w64_in _ (by omega); first | exact decide_eq_true (by omega) | (rw [Bool.and_eq_true]; exact ⟨decide_eq_true (by omega), decide_eq_true (by omega)⟩)) ?_
        exact h_k14 (asI (outC y201 0 1)) (asI (outC y201 0 2)) (y200.take y202.toNat) c_y201 (el_mono (by decide) (el_take (show EL [.i .i64, .s] 6200 y200 from (show EL [.i .i64, .s] 6200 (asL (resC y1 0 5)) from p5_y1))))
      ·
        extract_lets -merge -useContext +onlyGivenNames -underBinder y203
        extract_lets -merge -useContext +onlyGivenNames -underBinder y204
        extract_lets -merge -useContext +onlyGivenNames -underBinder y205
        exact h_k14 y203 y204 y205 c_y190 (el_mono (by decide) (show EL [.i .i64, .s] 6200 y205 from (show EL [.i .i64, .s] 6200 (asL (resC y1 0 5)) from p5_y1)))
  ·
    extract_lets -merge -useContext +onlyGivenNames -underBinder y206
    extract_lets -merge -useContext +onlyGivenNames -underBinder y207
    refine pq_ite (fun g20 => ?_) (fun g20 => ?_)
    ·
      extract_lets -merge -useContext +onlyGivenNames -underBinder y208
      extract_lets -merge -useContext +onlyGivenNames -underBinder y209
      extract_lets -merge -useContext +onlyGivenNames -underBinder y210
      obtain ⟨a_y210, c_y210, -⟩ : PQ zr74 zo74 _ y210 := d74 c_y2 _ _
      clear_value y210
      refine pq_chk a_y210 ?_
      extract_lets -merge -useContext +onlyGivenNames -underBinder k1
      have h_k1 : ∀ (n10 : Int) (n11 : Int) (n12 : Int) (C_k1_n10 : Cu l1 n10) (I_k1_n12 : I64 n12), PQ zr75 zo75 (fun o => Cu l1 (asI (outC o 0 1)) ∧ I64 (asI (resC o 0 0)) ∧ I64 (asI (resC o 0 1)) ∧ I64 (asI (resC o 0 2)) ∧ (asS (resC o 0 4)).size ≤ 5000 ∧ EL [.i .i64, .s] 8000 (asL (resC o 0 5)) ∧ True) (k1 n10 n11 n12) := by
        intro n10 n11 n12 C_k1_n10 I_k1_n12
        dsimp -zeta only [k1]
        extract_lets -merge -useContext +onlyGivenNames -underBinder y211
        exact h_k2 y211 n10 n11 n12 C_k1_n10 I_k1_n12
      extract_lets -merge -useContext +onlyGivenNames -underBinder y212
      refine pq_ite (fun g21 => ?_) (fun g21 => ?_)
      ·
        extract_lets -merge -useContext +onlyGivenNames -underBinder y213
        extract_lets -merge -useContext +onlyGivenNames -underBinder y214
        extract_lets -merge -useContext +onlyGivenNames -underBinder y215
        obtain ⟨a_y215, c_y215, b_y215, -⟩ : PQ zr79 zo79 _ y215 := d79 c_y210 _ _
        clear_value y215
        refine pq_chk a_y215 ?_
        exact h_k1 (asI (outC y215 0 1)) (asI (outC y215 0 2)) (asI (resC y215 0 0)) c_y215 (show I64 (asI (resC y215 0 0)) from (i64_b b_y215))
      ·
        extract_lets -merge -useContext +onlyGivenNames -underBinder y216
        extract_lets -merge -useContext +onlyGivenNames -underBinder y217
        exact h_k1 y216 y217 y206 c_y210 (show I64 y206 from (show I64 (asI (resC y1 0 1)) from p1_y1))
    ·
      refine pq_chk (by revert g20; generalize y207 = u_y207; revert u_y207; decide) ?_
      extract_lets -merge -useContext +onlyGivenNames -underBinder y218
      extract_lets -merge -useContext +onlyGivenNames -underBinder y219
      exact h_k2 false y218 y219 y206 c_y2 (show I64 y206 from (show I64 (asI (resC y1 0 1)) from p1_y1))

theorem n44 (l1 : List (List D)) (hl : l1.length ≤ 1048576) (ht : ∀ r ∈ l1, typL [.i .u8] r)  : PQ zr44 zo44 (fun o => I64 (asI (resC o 0 0)) ∧ I64 (asI (resC o 0 1)) ∧ I64 (asI (resC o 0 2)) ∧ I64 (asI (resC o 0 3)) ∧ (asS (resC o 0 4)).size ≤ 1001 ∧ EL [.i .i64, .s] 6001 (asL (resC o 0 5)) ∧ I64 (asI (resC o 1 0)) ∧ I64 (asI (resC o 1 1)) ∧ I64 (asI (resC o 1 2)) ∧ (asS (resC o 1 4)).size ≤ 5000 ∧ EL [.i .i64, .s] 8000 (asL (resC o 1 5)) ∧ True) (t44 l1) := by
  unfold t44 ta44
  obtain ⟨a_z1, c_z1, -⟩ := n72 l1 hl ht
  refine pq_chk a_z1 ?_
  generalize t72 l1 = z1 at *
  extract_lets -merge -useContext +onlyGivenNames -underBinder y1
  extract_lets -merge -useContext +onlyGivenNames -underBinder y2
  obtain ⟨a_y2, c_y2, p0_0_y2, p0_1_y2, p0_2_y2, p0_3_y2, p0_4_y2, p0_5_y2, -⟩ : PQ zr73 zo73 _ y2 := d73 c_z1 _
  clear_value y2
  refine pq_chk a_y2 ?_
  extract_lets -merge -useContext +onlyGivenNames -underBinder y3
  obtain ⟨a_y3, c_y3, -⟩ : PQ zr74 zo74 _ y3 := d74 c_y2 _ _
  clear_value y3
  refine pq_chk a_y3 ?_
  refine pq_ite (fun g2 => ?_) (fun g2 => ?_)
  ·
    extract_lets -merge -useContext +onlyGivenNames -underBinder y4
    extract_lets -merge -useContext +onlyGivenNames -underBinder y5
    extract_lets -merge -useContext +onlyGivenNames -underBinder y6
    obtain ⟨a_y6, c_y6, p0_0_y6, p0_1_y6, p0_2_y6, p0_3_y6, p0_4_y6, p0_5_y6, -⟩ : PQ zr73 zo73 _ y6 := d73 c_y3 _
    clear_value y6
    refine pq_chk a_y6 ?_
    extract_lets -merge -useContext +onlyGivenNames -underBinder y7
    extract_lets -merge -useContext +onlyGivenNames -underBinder y8
    extract_lets -merge -useContext +onlyGivenNames -underBinder y9
    extract_lets -merge -useContext +onlyGivenNames -underBinder y10
    extract_lets -merge -useContext +onlyGivenNames -underBinder y11
    extract_lets -merge -useContext +onlyGivenNames -underBinder y12
    exact ⟨rfl, (show I64 y7 from (show I64 (asI (resC y2 0 0)) from p0_0_y2)), (show I64 y8 from (show I64 (asI (resC y2 0 1)) from p0_1_y2)), (show I64 y9 from (show I64 (asI (resC y2 0 2)) from p0_2_y2)), (show I64 y10 from (show I64 (asI (resC y2 0 3)) from p0_3_y2)), (Nat.le_trans (show y11.size ≤ 1001 from (show (asS (resC y2 0 4)).size ≤ 1001 from p0_4_y2)) (by decide)), (el_mono (by decide) (show EL [.i .i64, .s] 6001 y12 from (show EL [.i .i64, .s] 6001 (asL (resC y2 0 5)) from p0_5_y2))), (show I64 (asI (resC y6 0 0)) from p0_0_y6), (show I64 (asI (resC y6 0 1)) from p0_1_y6), (show I64 (asI (resC y6 0 2)) from p0_2_y6), (Nat.le_trans (show (asS (resC y6 0 4)).size ≤ 1001 from p0_4_y6) (by decide)), (el_mono (by decide) (show EL [.i .i64, .s] 6001 (asL (resC y6 0 5)) from p0_5_y6)), trivial⟩
  ·
    extract_lets -merge -useContext +onlyGivenNames -underBinder y13
    extract_lets -merge -useContext +onlyGivenNames -underBinder y14
    extract_lets -merge -useContext +onlyGivenNames -underBinder y15
    extract_lets -merge -useContext +onlyGivenNames -underBinder y16
    extract_lets -merge -useContext +onlyGivenNames -underBinder y17
    extract_lets -merge -useContext +onlyGivenNames -underBinder y18
    extract_lets -merge -useContext +onlyGivenNames -underBinder y19
    extract_lets -merge -useContext +onlyGivenNames -underBinder y20
    extract_lets -merge -useContext +onlyGivenNames -underBinder y21
    obtain ⟨a_y21, c_y21, p0_0_y21, p0_1_y21, p0_2_y21, p0_4_y21, p0_5_y21, -⟩ : PQ zr75 zo75 _ y21 := d75 c_y3 _ _ _ _ _ _ _ (show I64 y15 from (show I64 (asI (resC y2 0 0)) from p0_0_y2)) (show I64 y16 from (show I64 (asI (resC y2 0 1)) from p0_1_y2)) (show I64 y17 from (show I64 (asI (resC y2 0 2)) from p0_2_y2)) (show I64 y18 from (show I64 (asI (resC y2 0 3)) from p0_3_y2)) (by have q := (show y19.size ≤ 1001 from (show (asS (resC y2 0 4)).size ≤ 1001 from p0_4_y2)); omega) (el_mono (by decide) (show EL [.i .i64, .s] 6001 y20 from (show EL [.i .i64, .s] 6001 (asL (resC y2 0 5)) from p0_5_y2)))
    clear_value y21
    refine pq_chk a_y21 ?_
    exact ⟨rfl, (show I64 y15 from (show I64 (asI (resC y2 0 0)) from p0_0_y2)), (show I64 y16 from (show I64 (asI (resC y2 0 1)) from p0_1_y2)), (show I64 y17 from (show I64 (asI (resC y2 0 2)) from p0_2_y2)), (show I64 y18 from (show I64 (asI (resC y2 0 3)) from p0_3_y2)), (Nat.le_trans (show y19.size ≤ 1001 from (show (asS (resC y2 0 4)).size ≤ 1001 from p0_4_y2)) (by decide)), (el_mono (by decide) (show EL [.i .i64, .s] 6001 y20 from (show EL [.i .i64, .s] 6001 (asL (resC y2 0 5)) from p0_5_y2))), (show I64 (asI (resC y21 0 0)) from p0_0_y21), (show I64 (asI (resC y21 0 1)) from p0_1_y21), (show I64 (asI (resC y21 0 2)) from p0_2_y21), (Nat.le_trans (show (asS (resC y21 0 4)).size ≤ 5000 from p0_4_y21) (by decide)), (el_mono (by decide) (show EL [.i .i64, .s] 8000 (asL (resC y21 0 5)) from p0_5_y21)), trivial⟩
end Go.Den.L10

/- Steps keep what is right; what records lead to. -/
namespace Go.Den.L10
open Go
theorem tl_iff (a b : ByteArray) : (a.toList == b.toList) = true ↔ a = b := by
  rw [beq_iff_eq]
  constructor
  · intro h
    rw [ByteArray.toList_eq, ByteArray.toList_eq] at h
    exact ByteArray.ext (Array.ext' h)
  · intro h; rw [h]
theorem tl_inj {a b : ByteArray} (h : a.toList = b.toList) : a = b := (tl_iff a b).1 (by rw [h]; simp)
/-- The term of entry j; its size. -/
def tmE (l : List (List D)) (j : Nat) : Int := asI (nthD (l.getD j []) 0)
def szE (l : List (List D)) (j : Nat) : Int := ((asS (nthD (l.getD j []) 1)).size : Int)
theorem runB_iff (l : List (List D)) (t : Int) : ∀ (k i : Nat) (p : Int), runB l t k i p = true ↔ ∀ j, i ≤ j → j < i + k → (if j = i then p else tmE l (j - 1)) ≤ tmE l j ∧ tmE l j ≤ t ∧ szE l j ≤ 1600
  | 0, i, p => by simp only [runB, true_iff]; intro j h1 h2; omega
  | k + 1, i, p => by
    have ih := runB_iff l t k (i + 1) (tmE l i)
    have e : runB l t (k + 1) i p = (decide (p ≤ tmE l i ∧ tmE l i ≤ t ∧ szE l i ≤ 1600) && runB l t k (i + 1) (tmE l i)) := rfl
    rw [e, Bool.and_eq_true, decide_eq_true_eq, ih]
    constructor
    · rintro ⟨h1, h2⟩ j hj hk
      by_cases e : j = i
      · subst e; rw [if_pos rfl]; exact h1
      · rw [if_neg e]
        have := h2 j (by omega) (by omega)
        by_cases e2 : j = i + 1
        · subst e2; rw [if_pos rfl] at this; simpa using this
        · rw [if_neg e2] at this; exact this
    · intro h
      refine ⟨by have := h i (by omega) (by omega); rw [if_pos rfl] at this; exact this, fun j hj hk => ?_⟩
      have := h j (by omega) (by omega)
      rw [if_neg (by omega)] at this
      by_cases e2 : j = i + 1
      · subst e2; rw [if_pos rfl]; simpa using this
      · rw [if_neg e2]; exact this
def keptK (k : KS) : Bool := keptB k.t k.v k.si k.st k.sd k.es
theorem keptK_iff (k : KS) : keptK k = true ↔ keptA k.t k.v k.si k.st k.sd k.es = true ∧ ∀ j, j < k.es.length → (if j = 0 then mx k.st else tmE k.es (j - 1)) ≤ tmE k.es j ∧ tmE k.es j ≤ k.t ∧ szE k.es j ≤ 1600 := by
  unfold keptK keptB
  rw [Bool.and_eq_true, runB_iff]
  constructor
  · rintro ⟨h1, h2⟩; exact ⟨h1, fun j hj => h2 j (by omega) (by omega)⟩
  · rintro ⟨h1, h2⟩; exact ⟨h1, fun j _ hj => h2 j (by omega)⟩
theorem stepK_ok {k : KS} {r : RC} (h : (stepK k r).2 = true) : recOk r = true ∧ fitsB k r = true ∧ (stepK k r).1 = (if r.k = 1 then (⟨r.t, r.v, k.si, k.st, k.sd, k.es⟩ : KS)
    else if r.k = 2 then ⟨k.t, k.v, k.si, k.st, k.sd, k.es ++ [[.i .i64 r.t, .s r.d]]⟩
    else if r.k = 3 then ⟨k.t, k.v, k.si, k.st, k.sd, k.es.take (r.i - k.si - 1).toNat⟩
    else ⟨k.t, k.v, r.i, r.t, r.d, behindA k r.i r.t⟩) := by
  unfold stepK at h ⊢
  cases hc : recOk r && fitsB k r with
  | false => rw [hc] at h; simp at h
  | true =>
    rw [Bool.and_eq_true] at hc
    refine ⟨hc.1, hc.2, ?_⟩
    simp only [if_true]
    (repeat' split) <;> rfl
theorem getD_app {l m : List (List D)} {j : Nat} (h : j < l.length) : (l ++ m).getD j [] = l.getD j [] := by rw [getD_in (by rw [List.length_append]; omega), getD_in h, List.getElem_append_left h]
theorem getD_last (l : List (List D)) (r : List D) : (l ++ [r]).getD l.length [] = r := by simp [List.getD]
theorem getD_take {l : List (List D)} {n j : Nat} (h : j < n) : (l.take n).getD j [] = l.getD j [] := by simp [List.getD, h]
theorem getD_drop {l : List (List D)} {n j : Nat} : (l.drop n).getD j [] = l.getD (n + j) [] := by simp [List.getD]
theorem keptK_step {k : KS} (hk : KI k) (h : keptK k = true) {r : RC} (hs : (stepK k r).2 = true) : keptK (stepK k r).1 = true := by
  obtain ⟨h1, h2, h3⟩ := stepK_ok hs
  have k0 := hk.h0; have k1 := hk.h1; have k2 := hk.h2
  rw [keptK_iff] at h
  obtain ⟨ha, hr⟩ := h
  simp only [keptA, placeB, Bool.and_eq_true, decide_eq_true_eq] at ha
  obtain ⟨⟨a1, a2, a3, a4, a5, a6, a7, a8, a9⟩, a10⟩ := ha
  rw [w64_in _ (by omega)] at a9
  simp only [recOk, Bool.or_eq_true, Bool.and_eq_true, decide_eq_true_eq] at h1
  rw [h3, keptK_iff]
  unfold fitsB at h2
  split
  · rename_i e
    rw [if_pos e] at h2
    rw [decide_eq_true_eq] at h2
    refine ⟨?_, fun j hj => ?_⟩
    · simp only [keptA, placeB, Bool.and_eq_true, decide_eq_true_eq]
      rw [w64_in _ (by omega)]
      exact ⟨⟨by omega, by omega, by omega, by omega, a5, a6, by omega, a8, a9⟩, a10⟩
    · have hj : j < k.es.length := hj
      obtain ⟨b1, b2, b3⟩ := hr j hj
      exact ⟨b1, by show tmE k.es j ≤ r.t; omega, b3⟩
  rename_i e1
  rw [if_neg e1] at h2
  split
  · rename_i e
    rw [if_pos e] at h2
    rw [decide_eq_true_eq] at h2
    obtain ⟨f1, f2, f3, f4⟩ := h2
    have hl : (k.es ++ [[D.i .i64 r.t, .s r.d]]).length = k.es.length + 1 := by simp
    refine ⟨?_, fun j hj => ?_⟩
    · simp only [keptA, placeB, Bool.and_eq_true, decide_eq_true_eq, hl]
      rw [w64_in _ (by omega)]
      exact ⟨⟨a1, a2, a3, a4, a5, a6, a7, by omega, by omega⟩, a10⟩
    · simp only [hl] at hj
      by_cases hj2 : j < k.es.length
      · obtain ⟨b1, b2, b3⟩ := hr j hj2
        simp only [tmE, szE, getD_app hj2] at b1 b2 b3 ⊢
        refine ⟨?_, b2, b3⟩
        by_cases e0 : j = 0
        · rw [if_pos e0] at b1 ⊢; exact b1
        · rw [if_neg e0] at b1 ⊢; rw [getD_app (by omega)]; exact b1
      · have ej : j = k.es.length := by omega
        subst ej
        simp only [tmE, szE, getD_last]
        refine ⟨?_, f4, by simp only [nthD, asS]; omega⟩
        by_cases e0 : k.es.length = 0
        · rw [if_pos e0]
          simp only [lastT, e0, if_true] at f3
          simp only [nthD, asI, mx]
          split <;> omega
        · rw [if_neg e0, getD_app (by omega)]
          simp only [lastT, e0, if_false] at f3
          simp only [nthD, asI] at f3 ⊢
          exact f3
  rename_i e2
  rw [if_neg e2] at h2
  split
  · rename_i e
    rw [if_pos e] at h2
    rw [decide_eq_true_eq] at h2
    have hl : (k.es.take (r.i - k.si - 1).toNat).length = (r.i - k.si - 1).toNat := by rw [List.length_take]; omega
    refine ⟨?_, fun j hj => ?_⟩
    · simp only [keptA, placeB, Bool.and_eq_true, decide_eq_true_eq, hl]
      rw [w64_in _ (by omega)]
      exact ⟨⟨a1, a2, a3, a4, a5, a6, a7, by omega, by omega⟩, a10⟩
    · simp only [hl] at hj
      obtain ⟨b1, b2, b3⟩ := hr j (by omega)
      simp only [tmE, szE, getD_take hj] at b1 b2 b3 ⊢
      refine ⟨?_, b2, b3⟩
      by_cases e0 : j = 0
      · rw [if_pos e0] at b1 ⊢; exact b1
      · rw [if_neg e0] at b1 ⊢; rw [getD_take (by omega)]; exact b1
  · rename_i e
    rw [if_neg e, decide_eq_true_eq] at h2
    have hk4 : 1 ≤ r.t ∧ r.t ≤ 100000 ∧ 1 ≤ r.i ∧ r.i ≤ 100000 ∧ (r.d.size : Int) ≤ 20000 := by omega
    by_cases hc : r.i - k.si ≤ (k.es.length : Int) ∧ asI (nthD (k.es.getD (r.i - k.si - 1).toNat []) 0) = r.t
    · have eb : behindA k r.i r.t = k.es.drop (r.i - k.si).toNat := by unfold behindA; rw [if_pos hc]
      have hl : (k.es.drop (r.i - k.si).toNat).length = k.es.length - (r.i - k.si).toNat := List.length_drop
      rw [eb]
      refine ⟨?_, fun j hj => ?_⟩
      · simp only [keptA, placeB, Bool.and_eq_true, decide_eq_true_eq, hl]
        rw [w64_in _ (by omega)]
        exact ⟨⟨a1, a2, a3, a4, by omega, by omega, by omega, by omega, by omega⟩, by omega⟩
      · simp only [hl] at hj
        obtain ⟨b1, b2, b3⟩ := hr ((r.i - k.si).toNat + j) (by omega)
        simp only [tmE, szE, getD_drop] at b1 b2 b3 ⊢
        refine ⟨?_, b2, b3⟩
        rw [if_neg (by omega)] at b1
        by_cases e0 : j = 0
        · subst e0
          rw [if_pos rfl]
          have e4 : (r.i - k.si).toNat + 0 - 1 = (r.i - k.si - 1).toNat := by omega
          rw [e4, hc.2] at b1
          simp only [mx]
          split
          · omega
          · exact b1
        · rw [if_neg e0, show (r.i - k.si).toNat + (j - 1) = (r.i - k.si).toNat + j - 1 by omega]; exact b1
    · have eb : behindA k r.i r.t = [] := by unfold behindA; rw [if_neg hc]
      rw [eb]
      refine ⟨?_, fun j hj => by simp at hj⟩
      simp only [keptA, placeB, Bool.and_eq_true, decide_eq_true_eq, List.length_nil]
      rw [w64_in _ (by omega)]
      exact ⟨⟨a1, a2, a3, a4, by omega, by omega, by omega, by omega, by omega⟩, by omega⟩
/-- What a list of records leads to. -/
def runL : List (List D) → KS → Option KS
  | [], k => some k
  | r :: L, k => if (stepK k (rcOf r)).2 then runL L (stepK k (rcOf r)).1 else none
theorem foldN_runL : ∀ (L P : List (List D)) (k : KS), foldN (P ++ L) L.length P.length k = runL L k
  | [], P, k => rfl
  | r :: L, P, k => by
    have e : (P ++ r :: L).getD P.length [] = r := by simp [List.getD]
    simp only [List.length_cons, foldN, runL, e]
    split
    · have ih := foldN_runL L (P ++ [r]) (stepK k (rcOf r)).1
      simpa using ih
    · rfl
theorem runL_app : ∀ (A B : List (List D)) (k : KS), runL (A ++ B) k = (runL A k).bind (runL B)
  | [], B, k => rfl
  | r :: A, B, k => by
    simp only [List.cons_append, runL]
    split
    · exact runL_app A B _
    · rfl
theorem runL_one {r : RC} {k K : KS} (h : runL [rcD r] k = some K) : (stepK k r).2 = true ∧ K = (stepK k r).1 := by
  have er : runL [rcD r] k = if (stepK k r).2 then some (stepK k r).1 else none := rfl
  rw [er] at h
  by_cases hs : (stepK k r).2 = true
  · rw [if_pos hs] at h; cases h; exact ⟨hs, rfl⟩
  · rw [if_neg hs] at h; cases h
theorem row_eta {r : List D} (h : typL shEntry r) : [D.i .i64 (asI (nthD r 0)), .s (asS (nthD r 1))] = r := by
  obtain ⟨a, b, he, _⟩ := Entry_row h
  rw [he]; rfl
theorem cpl_same {A B : List (List D)} (hA : ∀ r ∈ A, typL shEntry r) (hB : ∀ r ∈ B, typL shEntry r) : ∀ (k i : Nat), ∀ j, i ≤ j → j < cpl A B k i → A.getD j [] = B.getD j []
  | 0, i, j, h1, h2 => by simp only [cpl] at h2; omega
  | k + 1, i, j, h1, h2 => by
    have ec : cpl A B (k + 1) i = if i < A.length ∧ i < B.length ∧ eqE (A.getD i []) (B.getD i []) = true then cpl A B k (i + 1) else i := rfl
    rw [ec] at h2
    by_cases hc : i < A.length ∧ i < B.length ∧ eqE (A.getD i []) (B.getD i []) = true
    · rw [if_pos hc] at h2
      by_cases e : j = i
      · subst e
        obtain ⟨a, b, he, _⟩ := Entry_row (getD_row hA hc.1)
        obtain ⟨a', b', he', _⟩ := Entry_row (getD_row hB hc.2.1)
        have h3 := hc.2.2
        rw [he, he'] at h3 ⊢
        simp only [eqE, nthD, asI, asS, Bool.and_eq_true, beq_iff_eq, Bool.and_true] at h3
        rw [h3.1, tl_inj h3.2]
      · exact cpl_same hA hB k (i + 1) j (by omega) h2
    · rw [if_neg hc] at h2; omega
theorem entL_run {k : KS} {B : List (List D)} (hB : ∀ r ∈ B, typL shEntry r) : ∀ (n i : Nat) (K K' : KS), i + n = B.length → runL (entL k.si B n i) K = some K' → K'.t = K.t ∧ K'.v = K.v ∧ K'.si = K.si ∧ K'.st = K.st ∧ K'.sd = K.sd ∧ K'.es = K.es ++ B.drop i
  | 0, i, K, K', e, h => by
    simp only [entL, runL, Option.some.injEq] at h
    subst h
    rw [List.drop_eq_nil_of_le (by omega), List.append_nil]
    exact ⟨rfl, rfl, rfl, rfl, rfl, rfl⟩
  | n + 1, i, K, K', e, h => by
    have er : runL (entL k.si B (n + 1) i) K = if (stepK K (entR k.si B i)).2 then runL (entL k.si B n (i + 1)) (stepK K (entR k.si B i)).1 else none := rfl
    rw [er] at h
    by_cases hs : (stepK K (entR k.si B i)).2 = true
    · rw [if_pos hs] at h
      obtain ⟨_, _, h3⟩ := stepK_ok hs
      have h4 := entL_run hB n (i + 1) _ K' (by omega) h
      rw [h3] at h4
      simp only [entR, show ¬ ((2 : Int) = 1) by omega, if_false, if_true] at h4
      have hi : i < B.length := by omega
      rw [row_eta (getD_row hB hi)] at h4
      obtain ⟨g1, g2, g3, g4, g5, g6⟩ := h4
      refine ⟨g1, g2, g3, g4, g5, ?_⟩
      rw [g6, List.append_assoc]
      congr 1
      rw [getD_in hi, List.singleton_append, ← List.drop_eq_getElem_cons hi]
    · rw [if_neg hs] at h; cases h
/-- The records lead there. -/
theorem leads {a b K : KS} (ta : ∀ r ∈ a.es, typL shEntry r) (tb : ∀ r ∈ b.es, typL shEntry r) (h : runL (hardL a b ++ snapL a b ++ restL (haveL a b) b) a = some K) : K = b := by
  rw [runL_app, runL_app] at h
  obtain ⟨K2, h12, hR⟩ := Option.bind_eq_some_iff.1 h
  obtain ⟨K1, h1, h2⟩ := Option.bind_eq_some_iff.1 h12
  have e1 : K1 = ⟨b.t, b.v, a.si, a.st, a.sd, a.es⟩ := by
    unfold hardL at h1
    split at h1
    · obtain ⟨hs, rfl⟩ := runL_one h1
      obtain ⟨_, _, h3⟩ := stepK_ok hs
      rw [h3]; simp
    · rename_i hn
      simp only [runL, Option.some.injEq] at h1
      subst h1
      simp at hn
      rw [← hn.1, ← hn.2]
  subst e1
  have e2 : K2 = ⟨b.t, b.v, b.si, b.st, b.sd, haveL a b⟩ := by
    unfold snapL at h2
    unfold haveL
    split at h2
    · rename_i hd
      obtain ⟨hs, rfl⟩ := runL_one h2
      obtain ⟨_, hf, h3⟩ := stepK_ok hs
      rw [h3, if_pos hd]
      simp only [show ¬ ((4 : Int) = 1) by omega, show ¬ ((4 : Int) = 2) by omega, show ¬ ((4 : Int) = 3) by omega, if_false]
      simp only [fitsB, show ¬ ((4 : Int) = 1) by omega, show ¬ ((4 : Int) = 2) by omega, show ¬ ((4 : Int) = 3) by omega, if_false, decide_eq_true_eq] at hf
      simp only [behindA, behindG]
      congr 1
      by_cases hc : b.si - a.si ≤ (a.es.length : Int) ∧ asI (nthD (a.es.getD (b.si - a.si - 1).toNat []) 0) = b.st
      · rw [if_pos hc, if_pos ⟨by omega, hc⟩]
      · rw [if_neg hc, if_neg (fun h => hc h.2)]
    · rename_i hd
      simp only [runL, Option.some.injEq] at h2
      subst h2
      rw [if_neg hd]
      simp only [snapD, Bool.not_eq_true, Bool.not_eq_false', Bool.and_eq_true, beq_iff_eq, Bool.and_true] at hd
      rw [hd.1, hd.2.1, tl_inj hd.2.2]
  subst e2
  have hH : ∀ r ∈ haveL a b, typL shEntry r := by
    unfold haveL behindG
    intro r hr
    split at hr
    · split at hr
      · exact ta r (List.mem_of_mem_drop hr)
      · simp at hr
    · exact ta r hr
  generalize haveL a b = H at *
  unfold restL at hR
  have hc := cpl_le H b.es (H.length + 1) 0 (by omega) (by omega)
  have hs := cpl_same hH tb (H.length + 1) 0
  generalize cpl H b.es (H.length + 1) 0 = c at *
  rw [runL_app] at hR
  obtain ⟨K3, h3, h4⟩ := Option.bind_eq_some_iff.1 hR
  have e3 : K3 = ⟨b.t, b.v, b.si, b.st, b.sd, H.take c⟩ := by
    unfold cutL at h3
    split at h3
    · obtain ⟨hs, rfl⟩ := runL_one h3
      obtain ⟨_, _, h5⟩ := stepK_ok hs
      rw [h5]
      simp only [show ¬ ((3 : Int) = 1) by omega, show ¬ ((3 : Int) = 2) by omega, if_false, if_true]
      rw [show (b.si + (c : Int) + 1 - b.si - 1).toNat = c by omega]
    · simp only [runL, Option.some.injEq] at h3
      subst h3
      rw [List.take_of_length_le (by omega)]
  subst e3
  obtain ⟨g1, g2, g3, g4, g5, g6⟩ := entL_run tb (b.es.length - c) c _ K (by omega) h4
  have e4 : H.take c = b.es.take c := by
    refine List.ext_getElem (by simp; omega) (fun j hj1 hj2 => ?_)
    have hjc : j < c := by simp at hj1; omega
    have := hs j (by omega) hjc
    rw [getD_in (by omega), getD_in (by omega)] at this
    simpa using this
  simp only at g6
  rw [e4, List.take_append_drop] at g6
  obtain ⟨t, v, si, st, sd, es⟩ := K
  obtain ⟨t', v', si', st', sd', es'⟩ := b
  simp only at g1 g2 g3 g4 g5 g6
  rw [g1, g2, g3, g4, g5, g6]
end Go.Den.L10

/- The law of changes. -/
namespace Go.Den.L10
open Go
theorem keptStepI (k : KS) (hb : keptK k = true) (h : ∀ r ∈ k.es, typL shEntry r) (hl : k.es.length ≤ 1048576) (r : RC) : t17 k.t k.v k.si k.st k.sd k.es r.k r.t r.i r.v r.d = some ([.agg (kD (stepK k r).1), .one (.b (stepK k r).2)], []) := by
  have ew2 : ∀ x, okR zr56 zo56 (some ([.one (.b x)], [])) = true := fun _ => rfl
  have eb : ∀ x, asB (resC (some ([.one (.b x)], [])) 0 0) = x := fun _ => rfl
  have wc2 : ∀ t v si st sd l, okR zr57 zo57 (some ([.agg [.i .i64 t, .i .i64 v, .i .i64 si, .i .i64 st, .s sd, .l l]], [])) = true := fun _ _ _ _ _ _ => rfl
  have ws2 : ∀ t v si st sd l b, okR zr58 zo58 (some ([.one (.b b)], [[.i .i64 t, .i .i64 v, .i .i64 si, .i .i64 st, .s sd, .l l]])) = true := fun _ _ _ _ _ _ _ => rfl
  obtain ⟨t, v, si, st, sd, l⟩ := k
  have hb : keptB t v si st sd l = true := hb
  have s2 := step_impl ⟨t, v, si, st, sd, l⟩ (keptB_KI h hb) r
  simp only [t17, ta17, keptOk_impl t v si st sd l hl h, ew2, eb, chk_true, copyKept_eq t v si st sd l h hl, wc2, hb]
  generalize stepK ⟨t, v, si, st, sd, l⟩ r = res at s2
  obtain ⟨K, b⟩ := res
  simp only [kD] at s2 ⊢
  simp only [Bool.not_true, Bool.false_eq_true, if_false, resC, outC, nthR, nthO, cellsDV, nthD, asI, asS, asL, asB, s2, ws2, chk_true]
theorem leadB {q1 : List (List D) → Bool → Bool → Int → Bool → Bool → Bool → Bool → Bool → Bool → Int → Int → Int → Int → ByteArray → Int → Int → Int → Int → ByteArray → Int → Int → Int → Int → ByteArray → Int → Int → Int → Int → ByteArray → List (List D) → List (List D) → List (List D) → List (List D) → List (List D) → Rs} {q2 : List (List D) → Bool → Bool → Bool → Int → Bool → Bool → Bool → Bool → Int → Int → Int → Int → ByteArray → Int → Int → Int → Int → ByteArray → Int → Int → Int → Int → ByteArray → List (List D) → List (List D) → List (List D) → List (List D) → Rs} {q3 : List (List D) → Bool → Bool → Int → Bool → Bool → Bool → Bool → Bool → Bool → Int → Int → Int → Int → ByteArray → Int → Int → Int → Int → ByteArray → Int → Int → Int → Int → ByteArray → Int → Int → Int → Int → ByteArray → List (List D) → List (List D) → List (List D) → List (List D) → List (List D) → List (List D) → Rs} {q4 : List (List D) → Bool → Bool → Bool → Int → Bool → Bool → Bool → Bool → Bool → Bool → Int → Int → Int → Int → ByteArray → Int → Int → Int → Int → ByteArray → Int → Int → Int → Int → ByteArray → List (List D) → List (List D) → List (List D) → List (List D) → List (List D) → Rs} {R : Rs} {L l56 l57 l58 : List (List D)} {KF : KS} {n40 n41 n42 n43 n45 n46 n47 n48 : Int} {s44 s49 : ByteArray} (hL : ∀ r ∈ L, ∃ x, r = rcD x) (wL : L.length ≤ 1000)
    (hq : ∀ (a : List (List D)) (b1 b2 b3 : Bool) (n : Int) (b4 b5 b6 b7 b8 b9 : Bool), q4 a b1 b2 b3 n b4 b5 b6 b7 b8 b9 n40 n41 n42 n43 s44 n45 n46 n47 n48 s49 KF.t KF.v KF.si KF.st KF.sd L l56 l57 l58 KF.es = R) :
    ∀ (c i m : Nat) (K : KS) (a : List (List D)) (b1 b2 b3 b4 b5 b6 b7 b8 b9 : Bool), KI K → keptK K = true → i + c = L.length → c < m → runL (L.drop i) K = some KF →
    la10o10000003 t17 t26 t27 t43 t44 t45 t46 q1 q2 q3 q4 m a b1 b2 b3 (i : Int) b4 b5 b6 b7 b8 b9 n40 n41 n42 n43 s44 n45 n46 n47 n48 s49 K.t K.v K.si K.st K.sd L l56 l57 l58 K.es = R := by
  intro c
  induction c with
  | zero =>
    intro i m K a b1 b2 b3 b4 b5 b6 b7 b8 b9 hk hb e hm hr
    obtain ⟨m, rfl⟩ : ∃ m', m = m' + 1 := ⟨m - 1, by omega⟩
    have e1 : decide ((i : Int) < (L.length : Int)) = false := decide_eq_false (by omega)
    rw [List.drop_eq_nil_of_le (by omega)] at hr
    simp only [runL, Option.some.injEq] at hr
    subst hr
    simp only [la10o10000003, e1, Bool.false_eq_true, if_false]
    exact hq _ _ _ _ _ _ _ _ _ _ _
  | succ c ih =>
    intro i m K a b1 b2 b3 b4 b5 b6 b7 b8 b9 hk hb e hm hr
    obtain ⟨m, rfl⟩ : ∃ m', m = m' + 1 := ⟨m - 1, by omega⟩
    have hi : i < L.length := by omega
    have ez : (decide (5 ≤ (L.getD i []).length) && isF z38 0 (L.getD i [])) = true := by
      obtain ⟨x, hx⟩ := hL _ (mem_getD hi); rw [hx]; rfl
    have ws : ∀ t v si st sd l b, okR zr17 zo17 (some ([.agg [.i .i64 t, .i .i64 v, .i .i64 si, .i .i64 st, .s sd, .l l], .one (.b b)], [])) = true := fun _ _ _ _ _ _ _ => rfl
    have wr : ∀ x, okR zr45 zo45 (some ([.one (.b x)], [])) = true := fun _ => rfl
    rw [List.drop_eq_getElem_cons hi, ← getD_in hi] at hr
    simp only [runL] at hr
    by_cases hs : (stepK K (rcOf (L.getD i []))).2 = true
    · rw [if_pos hs] at hr
      have s1 := keptStepI K hb hk.h3 (by have := hk.h2; omega) (rcOf (L.getD i []))
      have hk2 := hk.step' (rcOf (L.getD i []))
      have hb2 := keptK_step hk hb hs
      have hro := recOk_impl (rcOf (L.getD i [])).k (rcOf (L.getD i [])).t (rcOf (L.getD i [])).i (rcOf (L.getD i [])).v (rcOf (L.getD i [])).d
      have hrt := (stepK_ok hs).1
      have ih' := fun x1 x2 x3 x4 x5 x6 x7 x8 x9 x10 => ih (i + 1) m (stepK K (rcOf (L.getD i []))).1 x1 x2 x3 x4 x5 x6 x7 x8 x9 x10 hk2 hb2 (by omega) (by omega) hr
      rw [show (⟨(rcOf (L.getD i [])).k, (rcOf (L.getD i [])).t, (rcOf (L.getD i [])).i, (rcOf (L.getD i [])).v, (rcOf (L.getD i [])).d⟩ : RC) = rcOf (L.getD i []) from rfl, hrt] at hro
      rw [hs] at s1
      generalize (stepK K (rcOf (L.getD i []))).1 = K2 at s1 ih'
      obtain ⟨t2, v2, si2, st2, sd2, es2⟩ := K2
      simp only [kD, rcOf] at s1
      simp only [rcOf] at hro
      simp only [la10o10000003, nat_in hi, nat_pos, Int.toNat_natCast, ez, Bool.and_self, Bool.true_or, chk_true, if_true, s1, ws, hro, wr, resC, nthR, cellsDV, nthD, asB, Bool.not_true, Bool.not_false, Bool.or_self, Bool.false_eq_true, if_false]
      rw [w64_succ i (by omega)]
      exact ih' _ _ _ _ _ _ _ _ _ _
    · rw [if_neg hs] at hr; cases hr
theorem leadA {q1 : List (List D) → Bool → Bool → Int → Bool → Bool → Bool → Bool → Bool → Bool → Int → Int → Int → Int → ByteArray → Int → Int → Int → Int → ByteArray → Int → Int → Int → Int → ByteArray → Int → Int → Int → Int → ByteArray → List (List D) → List (List D) → List (List D) → List (List D) → List (List D) → Rs} {q2 : List (List D) → Bool → Bool → Bool → Int → Bool → Bool → Bool → Bool → Int → Int → Int → Int → ByteArray → Int → Int → Int → Int → ByteArray → Int → Int → Int → Int → ByteArray → List (List D) → List (List D) → List (List D) → List (List D) → Rs} {q3 : List (List D) → Bool → Bool → Int → Bool → Bool → Bool → Bool → Bool → Bool → Int → Int → Int → Int → ByteArray → Int → Int → Int → Int → ByteArray → Int → Int → Int → Int → ByteArray → Int → Int → Int → Int → ByteArray → List (List D) → List (List D) → List (List D) → List (List D) → List (List D) → List (List D) → Rs} {q4 : List (List D) → Bool → Bool → Bool → Int → Bool → Bool → Bool → Bool → Bool → Bool → Int → Int → Int → Int → ByteArray → Int → Int → Int → Int → ByteArray → Int → Int → Int → Int → ByteArray → List (List D) → List (List D) → List (List D) → List (List D) → List (List D) → Rs} {R : Rs} {L l26 l28 : List (List D)} {K KF : KS} {n10 n11 n12 n13 n15 n16 n17 n18 : Int} {s14 s19 : ByteArray} (hL : ∀ r ∈ L, ∃ x, r = rcD x) (wL : L.length ≤ 1000)
    (hq2 : L = [] → ∀ (a : List (List D)) (b1 b2 b3 : Bool) (n : Int) (b4 b5 b6 b7 : Bool), q2 a b1 b2 b3 n b4 b5 b6 b7 n10 n11 n12 n13 s14 n15 n16 n17 n18 s19 K.t K.v K.si K.st K.sd L l26 K.es l28 = R)
    (hq : ∀ (a : List (List D)) (b1 b2 b3 : Bool) (n : Int) (b4 b5 b6 b7 b8 b9 : Bool), q4 a b1 b2 b3 n b4 b5 b6 b7 b8 b9 n10 n11 n12 n13 s14 n15 n16 n17 n18 s19 KF.t KF.v KF.si KF.st KF.sd L l26 K.es l28 KF.es = R)
    (m : Nat) (a : List (List D)) (b1 b2 b3 b4 b5 b6 : Bool) (hk : KI K) (hb : keptK K = true) (hm : L.length + 1 < m) (hr : runL L K = some KF) :
    la10o3 t17 t26 t27 t43 t44 t45 t46 q1 q2 q3 q4 m a b1 b2 b3 0 b4 b5 b6 n10 n11 n12 n13 s14 n15 n16 n17 n18 s19 K.t K.v K.si K.st K.sd L l26 K.es l28 = R := by
  obtain ⟨m, rfl⟩ : ∃ m', m = m' + 1 := ⟨m - 1, by omega⟩
  by_cases h0 : L.length = 0
  · have e1 : decide ((0 : Int) < (L.length : Int)) = false := decide_eq_false (by omega)
    simp only [la10o3, e1, Bool.false_eq_true, if_false]
    exact hq2 (List.eq_nil_of_length_eq_zero h0) _ _ _ _ _ _ _ _ _
  · have hi : 0 < L.length := by omega
    have e1 : decide ((0 : Int) < (L.length : Int)) = true := decide_eq_true (by omega)
    have ez : (decide (5 ≤ (L.getD 0 []).length) && isF z38 0 (L.getD 0 [])) = true := by
      obtain ⟨x, hx⟩ := hL _ (mem_getD hi); rw [hx]; rfl
    have ws : ∀ t v si st sd l b, okR zr17 zo17 (some ([.agg [.i .i64 t, .i .i64 v, .i .i64 si, .i .i64 st, .s sd, .l l], .one (.b b)], [])) = true := fun _ _ _ _ _ _ _ => rfl
    have wr : ∀ x, okR zr45 zo45 (some ([.one (.b x)], [])) = true := fun _ => rfl
    have hr' : runL (L.drop 0) K = some KF := hr
    rw [List.drop_eq_getElem_cons hi, ← getD_in hi] at hr'
    simp only [runL] at hr'
    by_cases hs : (stepK K (rcOf (L.getD 0 []))).2 = true
    · rw [if_pos hs] at hr'
      have s1 := keptStepI K hb hk.h3 (by have := hk.h2; omega) (rcOf (L.getD 0 []))
      have hk2 := hk.step' (rcOf (L.getD 0 []))
      have hb2 := keptK_step hk hb hs
      have hro := recOk_impl (rcOf (L.getD 0 [])).k (rcOf (L.getD 0 [])).t (rcOf (L.getD 0 [])).i (rcOf (L.getD 0 [])).v (rcOf (L.getD 0 [])).d
      have hrt := (stepK_ok hs).1
      have ih' := fun x1 x2 x3 x4 x5 x6 x7 x8 x9 x10 => leadB (q1 := q1) (q2 := q2) (q3 := q3) (q4 := q4) hL wL hq (L.length - 1) 1 m (stepK K (rcOf (L.getD 0 []))).1 x1 x2 x3 x4 x5 x6 x7 x8 x9 x10 hk2 hb2 (by omega) (by omega) hr'
      rw [show (⟨(rcOf (L.getD 0 [])).k, (rcOf (L.getD 0 [])).t, (rcOf (L.getD 0 [])).i, (rcOf (L.getD 0 [])).v, (rcOf (L.getD 0 [])).d⟩ : RC) = rcOf (L.getD 0 []) from rfl, hrt] at hro
      rw [hs] at s1
      generalize (stepK K (rcOf (L.getD 0 []))).1 = K2 at s1 ih'
      obtain ⟨t2, v2, si2, st2, sd2, es2⟩ := K2
      simp only [kD, rcOf] at s1
      simp only [rcOf] at hro
      simp only [la10o3, e1, Int.toNat_zero, show decide ((0 : Int) ≤ 0) = true from rfl, ez, Bool.and_self, Bool.true_or, chk_true, if_true, s1, ws, hro, wr, resC, nthR, cellsDV, nthD, asB, Bool.not_true, Bool.not_false, Bool.or_self, Bool.false_eq_true, if_false]
      rw [show w64 ((0 : Int) + 1) = ((1 : Nat) : Int) from by rw [w64_in _ (by omega)]; rfl]
      exact ih' _ _ _ _ _ _ _ _ _ _
    · rw [if_neg hs] at hr'; cases hr'
theorem same_loop {b10 b12 : Bool} {q1 : Int → Bool → Bool → Rs} {q2 : Int → Bool → SV → Rs} {R : Rs} {l : List (List D)} (h : ∀ r ∈ l, typL shEntry r) (wl : l.length ≤ 1048576) (hq : ∀ n b v, q2 n b v = R) : ∀ (c i m : Nat) (v w : SV), i + c = l.length → c < m → l77o1 l l b10 b12 q1 q2 m (i : Int) v w = R := by
  intro c
  induction c with
  | zero =>
    intro i m v w e hm
    obtain ⟨m, rfl⟩ : ∃ m', m = m' + 1 := ⟨m - 1, by omega⟩
    have e1 : decide ((i : Int) < (l.length : Int)) = false := decide_eq_false (by omega)
    simp only [l77o1, e1, Bool.false_eq_true, if_false]
    exact hq _ _ _
  | succ c ih =>
    intro i m v w e hm
    obtain ⟨m, rfl⟩ : ∃ m', m = m' + 1 := ⟨m - 1, by omega⟩
    have hi : i < l.length := by omega
    have ez := row_in h _ entry_row i hi
    simp only [l77o1, nat_in hi, nat_pos, Int.toNat_natCast, ez, Bool.and_self, chk_true, if_true, BEq.rfl, Bool.not_true, Bool.false_eq_true, if_false]
    rw [w64_succ i (by omega)]
    exact ih (i + 1) m _ _ (by omega) (by omega)
theorem sameKept_self (k : KS) (h : ∀ r ∈ k.es, typL shEntry r) (wl : k.es.length ≤ 1048576) : t46 k.t k.v k.si k.st k.sd k.es k.t k.v k.si k.st k.sd k.es = some ([.one (.b true)], []) := by
  have e7 : t77 k.es k.es = some ([.one (.b true)], []) := by
    unfold t77
    simp only [bne_self_eq_false, Bool.false_eq_true, if_false]
    exact same_loop h wl (fun _ _ _ => rfl) k.es.length 0 KK _ _ (by omega) (by rw [KK_eq]; omega)
  have ew : okR zr77 zo77 (some ([.one (.b true)], [])) = true := rfl
  have eb : asB (resC (some ([.one (.b true)], [])) 0 0) = true := rfl
  simp only [t46, ta46, e7, ew, eb, BEq.rfl, Bool.and_self, Bool.true_or, chk_true]
theorem cpl_self (A : List (List D)) : ∀ (k i : Nat), i ≤ A.length → A.length < i + k → cpl A A k i = A.length
  | 0, i, h1, h2 => by omega
  | k + 1, i, h1, h2 => by
    have ec : cpl A A (k + 1) i = if i < A.length ∧ i < A.length ∧ eqE (A.getD i []) (A.getD i []) = true then cpl A A k (i + 1) else i := rfl
    rw [ec]
    by_cases hi : i < A.length
    · rw [if_pos ⟨hi, hi, by simp [eqE]⟩]; exact cpl_self A k (i + 1) (by omega) (by omega)
    · rw [if_neg (fun h => hi h.1)]; omega
theorem self_list (b : KS) : hardL b b ++ snapL b b ++ restL (haveL b b) b = [] := by
  have h1 : hardL b b = [] := by simp [hardL]
  have h2 : snapD b b = false := by simp [snapD]
  have h3 : snapL b b = [] := by simp [snapL, h2]
  have h4 : haveL b b = b.es := by simp [haveL, h2]
  rw [h1, h3, h4]
  simp [restL, cutL, cpl_self b.es (b.es.length + 1) 0 (by omega) (by omega), entL]
theorem changesI (a b : KS) (ta : ∀ r ∈ a.es, typL shEntry r) (tb : ∀ r ∈ b.es, typL shEntry r) (wa : a.es.length ≤ 1048576) (wb : b.es.length ≤ 1048576) :
    t27 a.t a.v a.si a.st a.sd a.es b.t b.v b.si b.st b.sd b.es = (if keptK a && keptK b then chR a (hardL a b ++ snapL a b ++ restL (haveL a b) b) else some ([.one (.l []), .one (.b false)], [])) ∧
    t26 a.t a.v a.si a.st a.sd a.es b.t b.v b.si b.st b.sd b.es = (if keptK a && keptK b then chR a (hardL a b ++ snapL a b ++ restL (haveL a b) b) else some ([.one (.l []), .one (.b false)], [])) := by
  have ew : ∀ x, okR zr51 zo51 (some ([.one (.b x)], [])) = true := fun _ => rfl
  have ew2 : ∀ x, okR zr56 zo56 (some ([.one (.b x)], [])) = true := fun _ => rfl
  have eb : ∀ x, asB (resC (some ([.one (.b x)], [])) 0 0) = x := fun _ => rfl
  have wC : ∀ x y, okR zr66 zo66 (some ([.one (.l x), .one (.b y)], [])) = true := fun _ _ => rfl
  by_cases hk : keptK a = true ∧ keptK b = true
  · have hS := changes_spec a b hk.1 hk.2 ta tb
    have hI := changes_impl a b hk.1 hk.2 ta tb
    have hres : ∃ r1 r2, chR a (hardL a b ++ snapL a b ++ restL (haveL a b) b) = some ([.one (.l r1), .one (.b r2)], []) := by
      unfold chR
      split
      · exact ⟨_, _, rfl⟩
      · split <;> exact ⟨_, _, rfl⟩
    rw [hk.1, hk.2]
    refine ⟨?_, hS⟩
    obtain ⟨r1, r2, hr⟩ := hres
    rw [hr] at hI ⊢
    simp only [t27, ta27, keptOk_impl a.t a.v a.si a.st a.sd a.es wa ta, keptOk_impl b.t b.v b.si b.st b.sd b.es wb tb, ew2, eb, show keptB a.t a.v a.si a.st a.sd a.es = true from hk.1, show keptB b.t b.v b.si b.st b.sd b.es = true from hk.2, hI, wC, Bool.not_true, Bool.or_self, Bool.true_or, Bool.false_eq_true, if_false, chk_true]
    rfl
  · have hk0 : (keptK a && keptK b) = false := by
      cases h1 : keptK a <;> cases h2 : keptK b <;> simp_all
    rw [hk0]
    simp only [Bool.false_eq_true, if_false]
    unfold keptK at hk0
    constructor
    · simp only [t27, ta27, keptOk_impl a.t a.v a.si a.st a.sd a.es wa ta, keptOk_impl b.t b.v b.si b.st b.sd b.es wb tb, ew2, eb, Bool.true_or, chk_true]
      rw [if_pos]
      cases h1 : keptB a.t a.v a.si a.st a.sd a.es <;> cases h2 : keptB b.t b.v b.si b.st b.sd b.es <;> simp_all
    · simp only [t26, ta26, keptOk_spec a.t a.v a.si a.st a.sd a.es wa ta, keptOk_spec b.t b.v b.si b.st b.sd b.es wb tb, ew, eb, Bool.true_or, chk_true]
      rw [if_pos]
      cases h1 : keptB a.t a.v a.si a.st a.sd a.es <;> cases h2 : keptB b.t b.v b.si b.st b.sd b.es <;> simp_all
end Go.Den.L10

/- The law of changes: the end. -/
namespace Go.Den.L10
open Go
theorem law10 (x1 : List (List D)) (w1 : x1.length ≤ maxLen) (t1 : ∀ r ∈ x1, typL [.i .u8] r) : t10 x1 = some ([.one (.b true)], []) := by
  have eB : ∀ x, asB (resC (some ([.one (.b x)], [])) 0 0) = x := fun _ => rfl
  have ewb : ∀ x, okR zr43 zo43 (some ([.one (.b x)], [])) = true := fun _ => rfl
  unfold t10 ta10
  by_cases hbg : (x1.length : Int) > 1048576
  · have e58 : t43 x1 = some ([.one (.b true)], []) := by unfold t43; rw [decide_eq_true hbg]
    simp only [e58, ewb, chk_true, eB, if_true]
  have hl : x1.length ≤ 1048576 := by omega
  obtain ⟨a59, i0, i1, i2, i3, s4, L5, j0, j1, j2, s9, L10, -⟩ := n44 x1 hl t1
  have e58 : t43 x1 = some ([.one (.b false)], []) := by unfold t43; rw [decide_eq_false hbg]
  generalize t44 x1 = z at *
  simp only [e58, ewb, eB, a59, chk_true, Bool.false_eq_true, if_false]
  generalize asI (resC z 0 0) = at0
  generalize asI (resC z 0 1) = av
  generalize asI (resC z 0 2) = asi
  generalize asI (resC z 0 3) = ast
  generalize asS (resC z 0 4) = asd
  generalize asL (resC z 0 5) = aes at *
  generalize asI (resC z 1 0) = bt
  generalize asI (resC z 1 1) = bv
  generalize asI (resC z 1 2) = bsi
  generalize asI (resC z 1 3) = bst
  generalize asS (resC z 1 4) = bsd
  generalize asL (resC z 1 5) = bes at *
  have wa : aes.length ≤ 1048576 := Nat.le_trans L5.1 (by decide)
  have wb : bes.length ≤ 1048576 := Nat.le_trans L10.1 (by decide)
  have wI : ∀ x y, okR zr27 zo27 (some ([.one (.l x), .one (.b y)], [])) = true := fun _ _ => rfl
  have wS : ∀ x y, okR zr26 zo26 (some ([.one (.l x), .one (.b y)], [])) = true := fun _ _ => rfl
  have wK : ∀ x, okR zr46 zo46 (some ([.one (.b x)], [])) = true := fun _ => rfl
  have f0 : ∀ x y, asL (resC (some ([.one (.l x), .one (.b y)], [])) 0 0) = x := fun _ _ => rfl
  have f1 : ∀ x y, asB (resC (some ([.one (.l x), .one (.b y)], [])) 1 0) = y := fun _ _ => rfl
  obtain ⟨hI, hS⟩ := changesI ⟨at0, av, asi, ast, asd, aes⟩ ⟨bt, bv, bsi, bst, bsd, bes⟩ L5.2 L10.2 wa wb
  simp only at hI hS
  -- not: nothing
  have none_ : ∀ (h : t27 at0 av asi ast asd aes bt bv bsi bst bsd bes = some ([.one (.l []), .one (.b false)], [])) (h' : t26 at0 av asi ast asd aes bt bv bsi bst bsd bes = some ([.one (.l []), .one (.b false)], [])) (R : Rs), (chk (okR zr27 zo27 (t27 at0 av asi ast asd aes bt bv bsi bst bsd bes)) (chk (okR zr26 zo26 (t26 at0 av asi ast asd aes bt bv bsi bst bsd bes))
      (if (!(asB (resC (t27 at0 av asi ast asd aes bt bv bsi bst bsd bes) 1 0) == asB (resC (t26 at0 av asi ast asd aes bt bv bsi bst bsd bes) 1 0))) = true then some ([.one (.b false)], []) else
        if (!asB (resC (t27 at0 av asi ast asd aes bt bv bsi bst bsd bes) 1 0)) = true then some ([.one (.b (((asL (resC (t27 at0 av asi ast asd aes bt bv bsi bst bsd bes) 0 0)).length : Int) == 0))], []) else R))) = some ([.one (.b true)], []) := by
    intro h h' R
    rw [h, h']
    simp only [wI, wS, f0, f1, chk_true]
    rfl
  by_cases hk : (keptK ⟨at0, av, asi, ast, asd, aes⟩ && keptK ⟨bt, bv, bsi, bst, bsd, bes⟩) = true
  · rw [if_pos hk] at hI hS
    rw [Bool.and_eq_true] at hk
    have ka : KI ⟨at0, av, asi, ast, asd, aes⟩ := keptB_KI L5.2 hk.1
    have kb : KI ⟨bt, bv, bsi, bst, bsd, bes⟩ := keptB_KI L10.2 hk.2
    have hrc : ∀ r ∈ hardL ⟨at0, av, asi, ast, asd, aes⟩ ⟨bt, bv, bsi, bst, bsd, bes⟩ ++ snapL ⟨at0, av, asi, ast, asd, aes⟩ ⟨bt, bv, bsi, bst, bsd, bes⟩ ++ restL (haveL ⟨at0, av, asi, ast, asd, aes⟩ ⟨bt, bv, bsi, bst, bsd, bes⟩) ⟨bt, bv, bsi, bst, bsd, bes⟩, ∃ x, r = rcD x :=
      app_rc (app_rc (hardL_len _ _).2 (snapL_len _ _).2) (app_rc (cutL_len _ _ _).2 (entL_rc _ _ _ _))
    have hld := fun K => leads (K := K) (a := ⟨at0, av, asi, ast, asd, aes⟩) (b := ⟨bt, bv, bsi, bst, bsd, bes⟩) L5.2 L10.2
    generalize hM : hardL ⟨at0, av, asi, ast, asd, aes⟩ ⟨bt, bv, bsi, bst, bsd, bes⟩ ++ snapL ⟨at0, av, asi, ast, asd, aes⟩ ⟨bt, bv, bsi, bst, bsd, bes⟩ ++ restL (haveL ⟨at0, av, asi, ast, asd, aes⟩ ⟨bt, bv, bsi, bst, bsd, bes⟩) ⟨bt, bv, bsi, bst, bsd, bes⟩ = M at *
    by_cases h80 : (M.length : Int) > 80
    · have eR : chR ⟨at0, av, asi, ast, asd, aes⟩ M = some ([.one (.l []), .one (.b false)], []) := by unfold chR; rw [if_pos (decide_eq_true h80)]
      rw [eR] at hI hS
      exact none_ hI hS _
    · cases hf : foldN M M.length 0 ⟨at0, av, asi, ast, asd, aes⟩ with
      | none =>
        have eR := chR_bad hf
        rw [eR] at hI hS
        exact none_ hI hS _
      | some K =>
        have eR : chR ⟨at0, av, asi, ast, asd, aes⟩ M = some ([.one (.l M), .one (.b true)], []) := by
          unfold chR; rw [if_neg (by rw [decide_eq_true_eq]; exact h80), hf]
        rw [eR] at hI hS
        have hr : runL M ⟨at0, av, asi, ast, asd, aes⟩ = some K := by
          have := foldN_runL M [] ⟨at0, av, asi, ast, asd, aes⟩
          simp only [List.nil_append, List.length_nil] at this
          rw [← this]; exact hf
        have hKb := hld K hr
        subst hKb
        obtain ⟨hI2, -⟩ := changesI ⟨bt, bv, bsi, bst, bsd, bes⟩ ⟨bt, bv, bsi, bst, bsd, bes⟩ L10.2 L10.2 wb wb
        rw [hk.2, self_list] at hI2
        have eR2 : chR ⟨bt, bv, bsi, bst, bsd, bes⟩ [] = some ([.one (.l []), .one (.b true)], []) := rfl
        simp only [Bool.and_self, if_true, eR2] at hI2
        have hSK := sameKept_self ⟨bt, bv, bsi, bst, bsd, bes⟩ L10.2 wb
        simp only at hSK
        simp only [hI, hS, wI, wS, f0, f1, chk_true, BEq.rfl, Bool.not_true, Bool.false_eq_true, if_false]
        refine leadA (K := ⟨at0, av, asi, ast, asd, aes⟩) (KF := ⟨bt, bv, bsi, bst, bsd, bes⟩) hrc (by omega) (fun hM0 a b1 b2 b3 n b4 b5 b6 b7 => ?_) (fun a b1 b2 b3 n b4 b5 b6 b7 b8 b9 => ?_) KK _ _ _ _ _ _ _ ka hk.1 (by rw [KK_eq]; omega) hr
        · rw [hM0] at hr
          simp only [runL, Option.some.injEq] at hr
          cases hr
          simp only [hI2, hSK, wI, wK, f0, f1, eB, chk_true]
          rfl
        · simp only [hI2, hSK, wI, wK, f0, f1, eB, chk_true]
          rfl
  · rw [if_neg hk] at hI hS
    exact none_ hI hS _
end Go.Den.L10
