/- Plain laws about what the functions compute, the second part; no condition. -/
import Derived.Test.YthnpflcemooaeaaL10Pa
set_option linter.unusedVariables false
set_option linter.unusedSimpArgs false
namespace Go.Den.L10
open Go Go.IntWalk
theorem koe : ∀ r, typL knb r → isRow z90 r = true := fun r h => by
 obtain ⟨x1, x2, x3, x4, x5, rfl⟩ := klk h; rfl
theorem kdd : ∀ r, typL kcb r → isRow z81 r = true := fun r h => by
 obtain ⟨x1, x2, x3, x4, x5, rfl, -⟩ := kmg h; rfl
theorem khl (a b c d e f g : Bool) : (((((!a || (b && c)) || !d) || !e) || !f) || !g) = !(((((a && !(b && c)) && d) && e) && f) && g) := by revert a b c d e f g; decide
theorem kgk (a b c d e f : Bool) : ((((!a || (b && c)) || !d) || !e) || !f) = !((((a && !(b && c)) && d) && e) && f) := by revert a b c d e f; decide
def nteB (l : List (List D)) (i : Nat) : Bool :=
 ((((rngB (asI (nthD (l.getD i []) 0)) 1 100000 && !(decide ((i : Int) > 0) && decide (asI (nthD (l.getD (i - 1) []) 0) > asI (nthD (l.getD i []) 0)))) && rngB (asI (nthD (l.getD i []) 1)) 1 3) && rngB (asI (nthD (l.getD i []) 2)) 1 1000000) && rngB (asI (nthD (l.getD i []) 3)) 1 22) && rngB (asI (nthD (l.getD i []) 4)) 0 200
def audB (l : List (List D)) : Bool := decide ((l.length : Int) ≤ 20) && allW (nteB l) l.length 0
theorem kdk (l : List (List D)) (i : Nat) : (((((rngB (asI (nthD (l.getD i []) 0)) 1 100000 && !(decide ((i : Int) > 0) && decide (asI (nthD (l.getD (i - 1) []) 0) > asI (nthD (l.getD i []) 0)))) && rngB (asI (nthD (l.getD i []) 1)) 1 3) && rngB (asI (nthD (l.getD i []) 2)) 1 1000000) && rngB (asI (nthD (l.getD i []) 3)) 1 22) && rngB (asI (nthD (l.getD i []) 4)) 0 200) = nteB l i := rfl
theorem kkk (l : List (List D)) (hl : l.length ≤ 1048576) (ht : ∀ r ∈ l, typL knb r) : t58 l = some ([.one (.b (audB l))], []) := by
 have e1 : ∀ a b c, (decide (b ≤ a) && decide (a ≤ c)) = rngB a b c := fun _ _ _ => rfl
 have key := fun b => kyc (σ := SV × SV) (fun m i s' => la58o1 t57 l false b (fun _ _ _ _ _ _ _ _ => some ([.one (.b false)], [])) (fun _ _ _ => some ([.one (.b true)], [])) m (i : Int) s'.1 s'.2) l.length (nteB l) (some ([.one (.b false)], [])) (some ([.one (.b true)], []))
  (by intro m s'; simp only [la58o1, ko, Bool.false_eq_true, if_false])
  (by
   intro i m s' hi
   have hr := ktb ht koe i hi
   have hp := kec ht koe hi (by omega)
   simp only [la58o1, kj hi, Int.toNat_natCast, hr, kod, gz4, gz5, e1, Bool.true_or, kfc i (by omega), hp, ka, if_true, kc i (by omega), khl, kdk]
   cases hq : nteB l i
   ·exact .inr ⟨rfl, rfl⟩
   ·exact .inl ⟨rfl, (_, _), rfl⟩) l.length 0 KK (SV.undef, SV.undef) (by omega) (by rw [kl]; omega)
 have e2 : decide ((l.length : Int) > 20) = !decide ((l.length : Int) ≤ 20) := by rw [Bool.eq_iff_iff]; simp
 simp only [t58, ta58, e2, audB]
 cases decide ((l.length : Int) ≤ 20)
 ·rfl
 ·simp only [Bool.not_true, Bool.false_eq_true, if_false, Bool.true_and]
  refine Eq.trans (key _) ?_
  cases allW (nteB l) l.length 0 <;> rfl
theorem kdj (l : List (List D)) (hl : l.length ≤ 1048576) (ht : ∀ r ∈ l, typL knb r) : t65 l = some ([.one (.b (audB l))], []) := by
 have e1 : ∀ a b c, (decide (b ≤ a) && decide (a ≤ c)) = rngB a b c := fun _ _ _ => rfl
 have key := kyc (σ := SV × SV × SV) (fun m i s' => la65o0 t63 l false l (l.length : Int) (fun _ _ _ _ _ _ _ _ => some ([.one (.b false)], [])) (fun _ _ _ _ => some ([.one (.b (decide ((l.length : Int) ≤ (20 : Int))))], [])) m s'.1 (i : Int) s'.2.1 s'.2.2) l.length (nteB l) (some ([.one (.b false)], [])) (some ([.one (.b (decide ((l.length : Int) ≤ (20 : Int))))], []))
  (by intro m s'; simp only [la65o0, ko, Bool.false_eq_true, if_false])
  (by
   intro i m s' hi
   have hr := ktb ht koe i hi
   have hp := kec ht koe hi (by omega)
   simp only [la65o0, kj hi, Int.toNat_natCast, hr, klc, gz23, gz5, e1, Bool.true_or, kfc i (by omega), hp, ka, if_true, kc i (by omega), khl, kdk]
   cases hq : nteB l i
   ·exact .inr ⟨rfl, rfl⟩
   ·exact .inl ⟨rfl, (_, _, _), rfl⟩) l.length 0 KK (SV.undef, SV.undef, SV.undef) (by omega) (by rw [kl]; omega)
 refine Eq.trans key ?_
 unfold audB
 cases allW (nteB l) l.length 0 <;> cases decide ((l.length : Int) ≤ 20) <;> rfl
def resB (c : Int) (s : ByteArray) : Bool := rngB c 0 200 && decide ((s.size : Int) ≤ 400)
theorem knf (c : Int) (s : ByteArray) : t59 c s = some ([.one (.b (resB c s))], []) := rfl
theorem kmi (c : Int) (s : ByteArray) : t64 c s = some ([.one (.b (resB c s))], []) := rfl
def sesB (l : List (List D)) (i : Nat) : Bool :=
 (((rngB (asI (nthD (l.getD i []) 0)) 1 3 && !(decide ((i : Int) > 0) && decide (asI (nthD (l.getD (i - 1) []) 0) ≥ asI (nthD (l.getD i []) 0)))) && rngB (asI (nthD (l.getD i []) 1)) 1 1000000) && rngB (asI (nthD (l.getD i []) 2)) 1 100000) && resB (asI (nthD (l.getD i []) 3)) (asS (nthD (l.getD i []) 4))
theorem kck (l : List (List D)) (i : Nat) : ((((rngB (asI (nthD (l.getD i []) 0)) 1 3 && !(decide ((i : Int) > 0) && decide (asI (nthD (l.getD (i - 1) []) 0) ≥ asI (nthD (l.getD i []) 0)))) && rngB (asI (nthD (l.getD i []) 1)) 1 1000000) && rngB (asI (nthD (l.getD i []) 2)) 1 100000) && resB (asI (nthD (l.getD i []) 3)) (asS (nthD (l.getD i []) 4))) = sesB l i := rfl
theorem kzk {l : List (List D)} (h : allW (sesB l) l.length 0 = true) : l.length ≤ 3 := by
 have hall : ∀ i, i < l.length → sesB l i = true := fun i hi => (kvb _ _).1 h i (by omega) (by omega)
 have key : ∀ i, i < l.length → (i : Int) + 1 ≤ asI (nthD (l.getD i []) 0) := by
  intro i
  induction i with
  | zero =>
   intro hi
   have := hall 0 hi
   simp only [sesB, rngB, Bool.and_eq_true, decide_eq_true_eq] at this
   have := this.1.1.1.1.1
   omega
  | succ i ih =>
   intro hi
   have h1 := ih (by omega)
   have := hall (i + 1) hi
   simp only [sesB, Bool.and_eq_true, Bool.not_eq_true', Bool.and_eq_false_iff, decide_eq_false_iff_not, Nat.add_sub_cancel] at this
   rcases this.1.1.1.2 with h2 | h2
   ·exact absurd (by omega : ((i + 1 : Nat) : Int) > 0) h2
   ·omega
 apply Classical.byContradiction
 intro hq
 have h1 := key 3 (by omega)
 have := hall 3 (by omega)
 simp only [sesB, rngB, Bool.and_eq_true, decide_eq_true_eq] at this
 have := this.1.1.1.1.2
 omega
noncomputable def tenB (n1 : Int) (l2 : List (List D)) (n3 : Int) (l4 l5 : List (List D)) : Bool := allW (sesB l5) l5.length 0 && ((rngB n3 0 30 && audB l4) && volB n1 l2)
theorem gz38 : ∀ x, okR zr56 zo56 (some ([.one (.b x)], [])) = true := fun _ => id rfl
theorem gz39 : ∀ x, okR zr58 zo58 (some ([.one (.b x)], [])) = true := fun _ => id rfl
theorem gz40 : ∀ x, okR zr59 zo59 (some ([.one (.b x)], [])) = true := fun _ => id rfl
theorem kqi (n1 : Int) (l2 : List (List D)) (n3 : Int) (l4 l5 : List (List D)) (hl : l2.length ≤ 1048576) (ht : ∀ r ∈ l2, typL kb r) (hz : ∀ r ∈ l2, szdL kb r) (hl4 : l4.length ≤ 1048576) (ht4 : ∀ r ∈ l4, typL knb r) (hl5 : l5.length ≤ 1048576) (ht5 : ∀ r ∈ l5, typL kcb r) :
  t23 n1 l2 n3 l4 l5 = some ([.one (.b (tenB n1 l2 n3 l4 l5))], []) := by
 have e1 : ∀ a b c, (decide (b ≤ a) && decide (a ≤ c)) = rngB a b c := fun _ _ _ => rfl
 have key := fun b => kyc (σ := SV × SV) (fun m i s' => la23o1 t56 t57 t58 t59 n1 l2 n3 l4 l5 false b n1 l2 n3 l4 l5 (fun _ _ _ _ _ _ _ _ => some ([.one (.b false)], [])) (fun _ _ _ => some ([.one (.b true)], [])) m (i : Int) s'.1 s'.2) l5.length (sesB l5) (some ([.one (.b false)], [])) (some ([.one (.b true)], []))
  (by intro m s'; simp only [la23o1, ko, Bool.false_eq_true, if_false])
  (by
   intro i m s' hi
   have hr := ktb ht5 kdd i hi
   have hp := kec ht5 kdd hi (by omega)
   simp only [la23o1, kj hi, Int.toNat_natCast, hr, kod, knf, gz4, gz40, gz5, e1, Bool.true_or, kfc i (by omega), hp, ka, if_true, kc i (by omega), kgk, kck]
   cases hq : sesB l5 i
   ·exact .inr ⟨rfl, rfl⟩
   ·exact .inl ⟨rfl, (_, _), rfl⟩) l5.length 0 KK (SV.undef, SV.undef) (by omega) (by rw [kl]; omega)
 have e2 : decide ((l5.length : Int) > 3) = !decide ((l5.length : Int) ≤ 3) := by rw [Bool.eq_iff_iff]; simp
 simp only [t23, ta23, keh n1 l2 hl ht hz, kkk l4 hl4 ht4, kod, gz4, gz38, gz39, gz5, e1, e2, Bool.true_or, ka, tenB]
 cases hv : volB n1 l2 <;> cases ha : audB l4 <;> cases hi : rngB n3 0 30 <;> cases h3 : decide ((l5.length : Int) ≤ 3)
 case true.true.true.true =>
  simp only [Bool.not_true, Bool.or_self, Bool.false_eq_true, if_false, Bool.and_true]
  refine Eq.trans (key _) ?_
  cases allW (sesB l5) l5.length 0 <;> rfl
 case true.true.true.false =>
  have : allW (sesB l5) l5.length 0 = false := by
   rw [Bool.eq_false_iff]
   intro hq
   have := kzk hq
   rw [decide_eq_false_iff_not] at h3
   omega
  rw [this]
  simp
 all_goals simp
theorem gz41 : ∀ x, okR zr66 zo66 (some ([.one (.b x)], [])) = true := fun _ => id rfl
theorem gz42 : ∀ x, okR zr65 zo65 (some ([.one (.b x)], [])) = true := fun _ => id rfl
theorem gz43 : ∀ x, okR zr64 zo64 (some ([.one (.b x)], [])) = true := fun _ => id rfl
theorem kpi (n1 : Int) (l2 : List (List D)) (n3 : Int) (l4 l5 : List (List D)) (hl : l2.length ≤ 1048576) (ht : ∀ r ∈ l2, typL kb r) (hz : ∀ r ∈ l2, szdL kb r) (hl4 : l4.length ≤ 1048576) (ht4 : ∀ r ∈ l4, typL knb r) (hl5 : l5.length ≤ 1048576) (ht5 : ∀ r ∈ l5, typL kcb r) :
  t25 n1 l2 n3 l4 l5 = some ([.one (.b (tenB n1 l2 n3 l4 l5))], []) := by
 have e1 : ∀ a b c, (decide (b ≤ a) && decide (a ≤ c)) = rngB a b c := fun _ _ _ => rfl
 simp only [t25, ta25, kkl n1 l2 hl ht hz, kdj l4 hl4 ht4, klc, gz23, gz41, gz42, gz5, e1, Bool.true_or, ka, tenB]
 refine Eq.trans (kyc (σ := SV × SV × SV) (fun m i s' => la25o0 t63 t64 t65 t66 n1 l2 n3 l4 l5 false l5 (l5.length : Int) n1 l2 n3 l4 l5 (fun _ _ _ _ _ _ _ _ => some ([.one (.b false)], [])) (fun _ _ _ _ => some ([.one (.b ((rngB n3 0 30 && audB l4) && volB n1 l2))], [])) m s'.1 (i : Int) s'.2.1 s'.2.2) l5.length (sesB l5) (some ([.one (.b false)], [])) (some ([.one (.b ((rngB n3 0 30 && audB l4) && volB n1 l2))], []))
  (by intro m s'; simp only [la25o0, ko, Bool.false_eq_true, if_false])
  (by
   intro i m s' hi
   have hr := ktb ht5 kdd i hi
   have hp := kec ht5 kdd hi (by omega)
   simp only [la25o0, kj hi, Int.toNat_natCast, hr, klc, kmi, gz23, gz43, gz5, e1, Bool.true_or, kfc i (by omega), hp, ka, if_true, kc i (by omega), kgk, kck]
   cases hq : sesB l5 i
   ·exact .inr ⟨rfl, rfl⟩
   ·exact .inl ⟨rfl, (_, _, _), rfl⟩) l5.length 0 KK (SV.undef, SV.undef, SV.undef) (by omega) (by rw [kl]; omega)) ?_
 cases allW (sesB l5) l5.length 0 <;> rfl
structure TenR (r : List D) : Prop where
 l2 : (asL (nthD r 1)).length ≤ 1048576
 t2 : ∀ e ∈ asL (nthD r 1), typL kb e
 z2 : ∀ e ∈ asL (nthD r 1), szdL kb e
 l4 : (asL (nthD r 3)).length ≤ 1048576
 t4 : ∀ e ∈ asL (nthD r 3), typL knb e
 l5 : (asL (nthD r 4)).length ≤ 1048576
 t5 : ∀ e ∈ asL (nthD r 4), typL kcb e
theorem kte (n : Nat) (h : n < 2 ^ 64) : (BitVec.ofInt 64 (n : Int)).toNat = n := by
 rw [BitVec.toNat_ofInt]; omega
def vp : Nat → Int → List (List D) → Int × List (List D)
 | 0, n, l => (n, l)
 | k + 1, n, l => if n ≥ 128 then vp k (n / 128) (l ++ [[.i .u8 (128 + n % 128)]]) else (n, l)
theorem kpd : ∀ {l : List (List D)} {x : Int}, isBytes l = true → isBytes (l ++ [[.i .u8 x]]) = true
 | [], x, _ => rfl
 | r :: l, x, h => by
  unfold isBytes at h
  split at h
  ·rename_i e; cases e
  ·rename_i e; cases e; simp only [List.cons_append, isBytes]; exact kpd h
  ·cases h
theorem knh : ∀ (l : List (List D)), (bytesD l).length ≤ l.length
 | [] => by simp [bytesD]
 | r :: l => by
  unfold bytesD
  split
  ·rename_i e; cases e; simpa using knh l
  ·simp
theorem ksl : ∀ (k : Nat) (n : Int) (l : List (List D)), isBytes l = true → isBytes (vp k n l).2 = true ∧ (vp k n l).2.length ≤ l.length + k
 | 0, n, l, h => ⟨h, Nat.le_refl _⟩
 | k + 1, n, l, h => by
  unfold vp
  split
  ·have := ksl k (n / 128) (l ++ [[.i .u8 (128 + n % 128)]]) (kpd h)
   simp only [List.length_append, List.length_cons, List.length_nil] at this
   exact ⟨this.1, by omega⟩
  ·exact ⟨h, by simp only; omega⟩
theorem kdn (n : Int) (h : 0 ≤ n) : n.tdiv 128 = n / 128 := Int.tdiv_eq_ediv_of_nonneg h
theorem kcn (n : Int) (h : 0 ≤ n) : n.tmod 128 = n % 128 := Int.tmod_eq_emod_of_nonneg h
theorem kum (q : Int → Bool → List (List D) → Rs) (s0 : ByteArray) (b0 : Bool) : ∀ (k m : Nat) (n : Int) (v : SV) (l : List (List D)), 0 ≤ n → n < 128 ^ (k + 1) → n < 4611686018427387904 → k < m → l.length + k < 1000 →
  la69o1 t57 s0 b0 q m n v l = q (vp k n l).1 false (vp k n l).2 := by
 intro k
 induction k with
 | zero =>
  intro m n v l h0 h1 h2 h3 h4
  obtain ⟨m, rfl⟩ : ∃ m', m = m' + 1 := ⟨m - 1, by omega⟩
  have e : ¬ n ≥ 128 := by omega
  simp [la69o1, e, vp]
 | succ k ih =>
  intro m n v l h0 h1 h2 h3 h4
  obtain ⟨m, rfl⟩ : ∃ m', m = m' + 1 := ⟨m - 1, by omega⟩
  by_cases e : n ≥ 128
  ·simp only [la69o1, vp, e, decide_true, if_true, kcn n h0, kdn n h0]
   rw [ki (n / 128) (by omega), ki (128 + n % 128) (by omega), u8_in _ (by omega), kfd (by simp [flatR, allSc, isSc, lim]; omega)]
   refine ih m (n / 128) _ _ (by omega) ?_ (by omega) (by omega) (by simp; omega)
   rw [Int.ediv_lt_iff_lt_mul (by omega)]
   rw [Int.pow_succ] at h1
   exact h1
  ·simp [la69o1, e, vp]
def varS (n : Int) : ByteArray := if 0 ≤ n ∧ n ≤ 562949953421311 then ⟨(bytesD ((vp 6 n []).2 ++ [[.i .u8 (IntKind.wrap .u8 (vp 6 n []).1)]])).toArray⟩ else ⟨#[]⟩
theorem kg (n : Int) : (varS n).size ≤ 10 := by
 unfold varS
 split
 ·have h := (ksl 6 n [] rfl).2
  have h2 := knh ((vp 6 n []).2 ++ [[.i .u8 (IntKind.wrap .u8 (vp 6 n []).1)]])
  simp only [List.length_append, List.length_cons, List.length_nil] at h h2
  show (List.toArray _).size ≤ 10
  simp only [List.size_toArray]
  omega
 ·exact Nat.zero_le _
theorem kdc (n : Int) : t69 n = some ([.one (.s (varS n))], []) := by
 unfold t69 ta69 varS
 simp only [kod, zr57, zo57]
 by_cases h : 0 ≤ n ∧ n ≤ 562949953421311
 ·simp [h]
  rw [kum _ _ _ 6 KK n .undef [] h.1 (by omega) (by omega) (by rw [kl]; omega) (by simp)]
  have h1 := ksl 6 n [] rfl
  simp only [List.length_nil] at h1
  rw [kfd (by simp [flatR, allSc, isSc, lim]; omega), kfd (kpd h1.1)]
 ·have : ((decide (0 ≤ n) && decide (n ≤ 562949953421311)) = false) := by simpa using h
  simp [h, this]
def kic (s : ByteArray) : ByteArray := varS (s.size : Int) ++ s
theorem kgc (s : ByteArray) : (kic s).size ≤ 10 + s.size := by
 unfold kic; rw [ByteArray.size_append]; have := kg (s.size : Int); omega
theorem khe (s : ByteArray) (h : (s.size : Int) ≤ 1000000000) : t67 s = some ([.one (.s (kic s))], []) := by
 have := kg (s.size : Int)
 simp only [t67, ta67, kdc, zr69, zo69, resC, nthR, cellsDV, nthD, asS, okR, isVs, isV, isD, isOs, Bool.and_true, ka]
 rw [kfd (decide_eq_true (by unfold lim; omega))]; rfl
def catL (f : List D → ByteArray) : List (List D) → ByteArray
 | [] => ⟨#[]⟩
 | r :: l => f r ++ catL f l
theorem kqg (f : List D → ByteArray) : ∀ (a b : List (List D)), catL f (a ++ b) = catL f a ++ catL f b
 | [], b => by simp only [List.nil_append, catL, ByteArray.empty_append]; exact ByteArray.empty_append.symm
 | r :: a, b => by simp only [List.cons_append, catL, kqg f a b, ByteArray.append_assoc]
theorem kxe (f : List D → ByteArray) {l : List (List D)} {i : Nat} (hi : i < l.length) : catL f (l.take (i + 1)) = catL f (l.take i) ++ f l[i] := by
 rw [List.take_succ_eq_append_getElem hi, kqg]
 congr 1
 simp only [catL]; exact ByteArray.append_empty
theorem kde {f : List D → ByteArray} {c : Nat} : ∀ (l : List (List D)), (∀ r ∈ l, (f r).size ≤ c) → (catL f l).size ≤ l.length * c
 | [], _ => Nat.zero_le _
 | r :: l, h => by
  have h1 := kde l (fun r hr => h r (by simp [hr]))
  have h2 := h r (by simp)
  simp only [catL, ByteArray.size_append, List.length_cons, Nat.add_mul]; omega
theorem kie {f : List D → ByteArray} {c n : Nat} {l : List (List D)} (h : ∀ r ∈ l, (f r).size ≤ c) (i : Nat) (hn : l.length ≤ n) : (catL f (l.take i)).size ≤ n * c := by
 refine Nat.le_trans (kde _ fun r hr => h r (List.mem_of_mem_take hr)) ?_
 exact Nat.mul_le_mul_right _ (by simp; omega)
theorem kre (s : ByteArray) : s ++ (⟨#[]⟩ : ByteArray) = s := ByteArray.append_empty
theorem kdb {a : Nat} (h : a ≤ 1000000000) (x : Rs) : chk (decide (a ≤ lim)) x = x := kfd (decide_eq_true (by unfold lim; omega)) x
def dirS (r : List D) : ByteArray := kic (asS (nthD r 0)) ++ varS (asI (nthD r 1))
def inoS (r : List D) : ByteArray := varS (asI (nthD r 0)) ++ (varS (asI (nthD r 1)) ++ (varS (asI (nthD r 2)) ++ (varS (asI (nthD r 3)) ++ (varS (asI (nthD r 4)) ++ (varS (asI (nthD r 7)) ++ (varS (asI (nthD r 8)) ++ (kic (asS (nthD r 5)) ++ (varS ((nmsL r).length : Int) ++ catL dirS (nmsL r)))))))))
def volT (n1 : Int) (l : List (List D)) : ByteArray := varS n1 ++ (varS (l.length : Int) ++ catL inoS l)
def nteS (r : List D) : ByteArray := varS (asI (nthD r 0)) ++ (varS (asI (nthD r 1)) ++ (varS (asI (nthD r 2)) ++ (varS (asI (nthD r 3)) ++ varS (asI (nthD r 4)))))
def rsS (c : Int) (s : ByteArray) : ByteArray := if resB c s then varS c ++ s else ⟨#[]⟩
def sesS (r : List D) : ByteArray := varS (asI (nthD r 0)) ++ (varS (asI (nthD r 1)) ++ (varS (asI (nthD r 2)) ++ kic (rsS (asI (nthD r 3)) (asS (nthD r 4)))))
def tenT (n1 : Int) (l2 : List (List D)) (n3 : Int) (l4 l5 : List (List D)) : ByteArray := kic (volT n1 l2) ++ (varS n3 ++ (varS (l4.length : Int) ++ (catL nteS l4 ++ (varS (l5.length : Int) ++ catL sesS l5))))
structure Shrt (l : List (List D)) : Prop where
 few : Few l
 dat : ∀ r ∈ l, (asS (nthD r 5)).size ≤ 64
 nm : ∀ r ∈ l, ∀ e ∈ nmsL r, (asS (nthD e 0)).size ≤ 8
theorem kgl {n1 : Int} {l : List (List D)} (ht : ∀ r ∈ l, typL kb r) (h : volB n1 l = true) : Shrt l := by
 simp only [volB, Bool.and_eq_true] at h
 have hlen : l.length ≤ 24 := by have := h.1.1.2; simp only [rngB, Bool.and_eq_true, decide_eq_true_eq] at this; omega
 have hC := h.2.1
 have hG := kzh ht hlen hC
 refine ⟨hG.toFew, hG.dat, ?_⟩
 intro r hr e he
 obtain ⟨i, hi, rfl⟩ := List.mem_iff_getElem.1 hr
 have h1 := (kvb _ _).1 hC i (by omega) (by omega)
 rw [frsB, Bool.and_eq_true, khb hi] at h1
 have h1 := h1.2
 simp only [rowB, kce, Bool.and_eq_true] at h1
 have h2 := h1.2
 by_cases hk : asI (nthD l[i] 1) = 2
 ·rw [if_pos hk] at h2
  simp only [Bool.and_eq_true] at h2
  obtain ⟨j, hj, rfl⟩ := List.mem_iff_getElem.1 he
  have h3 := (kvb _ _).1 h2.2 j (by omega) (by omega)
  simp only [nmOk, khd, Bool.and_eq_true, decide_eq_true_eq, khb hj] at h3
  have := h3.1.1.1.1.1.1.2
  omega
 ·rw [if_neg hk] at h2
  simp only [Bool.and_eq_true, decide_eq_true_eq] at h2
  have h0 : (nmsL l[i]).length = 0 := by have := h2.1.1.1; omega
  rw [List.length_eq_zero_iff.1 h0] at he
  cases he
theorem kbi {r : List D} (h : (asS (nthD r 0)).size ≤ 8) : (dirS r).size ≤ 28 := by
 have := kgc (asS (nthD r 0)); have := kg (asI (nthD r 1))
 unfold dirS; simp only [ByteArray.size_append]; omega
theorem kli {l : List (List D)} (h : Shrt l) : ∀ r ∈ l, (inoS r).size ≤ 500 := by
 intro r hr
 have h1 := kde (f := dirS) (c := 28) (nmsL r) (fun e he => kbi (h.nm r hr e he))
 have h2 := h.few.k r hr
 have h3 := h.dat r hr
 have := kgc (asS (nthD r 5))
 have := kg (asI (nthD r 0)); have := kg (asI (nthD r 1)); have := kg (asI (nthD r 2)); have := kg (asI (nthD r 3)); have := kg (asI (nthD r 4)); have := kg (asI (nthD r 7)); have := kg (asI (nthD r 8)); have := kg ((nmsL r).length : Int)
 unfold inoS; simp only [ByteArray.size_append]; omega
theorem kgm {n1 : Int} {l : List (List D)} (h : Shrt l) : (volT n1 l).size ≤ 12020 := by
 have h1 := kde l (kli h)
 have h2 := h.few.n
 have := kg n1; have := kg (l.length : Int)
 unfold volT; simp only [ByteArray.size_append]; omega
theorem kci (r : List D) : (nteS r).size ≤ 50 := by
 have := kg (asI (nthD r 0)); have := kg (asI (nthD r 1)); have := kg (asI (nthD r 2)); have := kg (asI (nthD r 3)); have := kg (asI (nthD r 4))
 unfold nteS; simp only [ByteArray.size_append]; omega
theorem kyj (c : Int) (s : ByteArray) : (rsS c s).size ≤ 410 := by
 unfold rsS
 split
 ·rename_i h
  simp only [resB, Bool.and_eq_true, decide_eq_true_eq] at h
  have := kg c
  simp only [ByteArray.size_append]; omega
 ·exact Nat.zero_le _
theorem kdm (r : List D) : (sesS r).size ≤ 450 := by
 have := kg (asI (nthD r 0)); have := kg (asI (nthD r 1)); have := kg (asI (nthD r 2)); have := kyj (asI (nthD r 3)) (asS (nthD r 4)); have := kgc (rsS (asI (nthD r 3)) (asS (nthD r 4)))
 unfold sesS; simp only [ByteArray.size_append]; omega
theorem gz44 : ∀ x, okR zr69 zo69 (some ([.one (.s x)], [])) = true := fun _ => id rfl
theorem gz45 : ∀ x, okR zr67 zo67 (some ([.one (.s x)], [])) = true := fun _ => id rfl
theorem gz46 : ∀ x, asS (resC (some ([.one (.s x)], [])) 0 0) = x := fun _ => id rfl
theorem kxk (n0 : Int) (l0 : List (List D)) (s0 : ByteArray) (n1 : Int) (b0 b1 : Bool) (n2 : Int) (l1 : List (List D)) (n3 n4 n5 n6 n7 : Int) (s1 : ByteArray) (n8 n9 : Int) (q1 : ByteArray → Int → Bool → Rs) (L : List (List D)) (hL : ∀ r ∈ L, typL ks r) (hk : L.length ≤ 12) (hn : ∀ e ∈ L, (asS (nthD e 0)).size ≤ 8) (s : ByteArray) (hs : s.size ≤ 1000000) (v : SV) :
  ∃ a b, la68o3 t56 t67 t69 n0 l0 s0 n1 b0 b1 n2 l1 n3 n4 n5 n6 n7 s1 L n8 n9 q1 KK s 0 v = q1 (s ++ catL dirS L) a b := by
 refine keb (α := ByteArray) (σ := SV) (fun m i s v => la68o3 t56 t67 t69 n0 l0 s0 n1 b0 b1 n2 l1 n3 n4 n5 n6 n7 s1 L n8 n9 q1 m s (i : Int) v) L.length (fun i t => t = s ++ catL dirS (L.take i)) (fun y => ∃ a b, y = q1 (s ++ catL dirS L) a b)
  ?_ ?_ L.length 0 KK s v (by omega) (by rw [kl]; omega) (by simp only [List.take_zero, catL, kre])
 ·intro m t v ht
  rw [List.take_length] at ht
  simp only [la68o3, ko, Bool.false_eq_true, if_false, ht]
  exact ⟨_, _, rfl⟩
 ·intro i m t v hi ht
  left
  have hr := ktc hL kbc i hi
  have hg : L.getD i [] = L[i] := khb hi
  have hsz := kie (f := dirS) (fun e he => kbi (hn e he)) i hk
  have h8 := hn _ (List.getElem_mem hi)
  have a1 := kgc (asS (nthD L[i] 0)); have a2 := kg (asI (nthD L[i] 1))
  have hts : t.size ≤ 1001000 := by rw [ht, ByteArray.size_append]; omega
  have hp := khe (asS (nthD L[i] 0)) (by omega)
  simp only [la68o3, kj hi, Int.toNat_natCast, hg, hr, hp, kdc, gz44, gz45, gz46, ka, if_true, kc i (by omega)]
  rw [kdb (by first | omega | (simp only [ByteArray.size_append]; omega)), kdb (by first | omega | (simp only [ByteArray.size_append]; omega))]
  refine ⟨_, _, rfl, ?_⟩
  rw [kxe dirS hi, ht]
  simp only [dirS, ByteArray.append_assoc]
theorem krk (n0 : Int) (l0 : List (List D)) (s0 : ByteArray) (b0 : Bool) (n1 : Int) (q1 : ByteArray → Int → SV → Bool → SV → Rs) (h1 : ∀ a b c d e, q1 a b c d e = some ([.one (.s a)], [])) (l : List (List D)) (h : Shrt l) (s : ByteArray) (hs : s.size ≤ 100) (v : SV × SV × SV) :
    la68o1 t56 t67 t69 n0 l0 s0 b0 n1 l q1 KK s 0 v.1 v.2.1 v.2.2 = some ([.one (.s (s ++ catL inoS l))], []) := by
  have hn := h.few.n
  refine keb (α := ByteArray) (σ := SV × SV × SV) (fun m i s v => la68o1 t56 t67 t69 n0 l0 s0 b0 n1 l q1 m s (i : Int) v.1 v.2.1 v.2.2) l.length (fun i t => t = s ++ catL inoS (l.take i)) (fun y => y = some ([.one (.s (s ++ catL inoS l))], []))
    ?_ ?_ l.length 0 KK s v (by omega) (by rw [kl]; omega) (by simp only [List.take_zero, catL, kre])
  · intro m t v ht
    rw [List.take_length] at ht
    simp only [la68o1, ko, Bool.false_eq_true, if_false, ht, h1]
  · intro i m t v hi ht
    left
    have hr := ktc h.few.t kq i hi
    have hg : l.getD i [] = l[i] := khb hi
    have hm := List.getElem_mem hi
    have hsz := kie (kli h) i hn
    have h8 := h.dat _ hm
    have a0 := kgc (asS (nthD l[i] 5)); have a1 := kg (asI (nthD l[i] 0)); have a2 := kg (asI (nthD l[i] 1)); have a3 := kg (asI (nthD l[i] 2)); have a4 := kg (asI (nthD l[i] 3)); have a5 := kg (asI (nthD l[i] 4)); have a6 := kg (asI (nthD l[i] 7)); have a7 := kg (asI (nthD l[i] 8)); have a8 := kg ((asL (nthD l[i] 6)).length : Int)
    have hts : t.size ≤ 13000 := by rw [ht, ByteArray.size_append]; omega
    have hp := khe (asS (nthD l[i] 5)) (by omega)
    simp only [la68o1, kj hi, Int.toNat_natCast, hg, hr, hp, kdc, gz44, gz45, gz46, ka, if_true, kc i (by omega)]
    rw [kdb (by first | omega | (simp only [ByteArray.size_append]; omega)), kdb (by first | omega | (simp only [ByteArray.size_append]; omega)), kdb (by first | omega | (simp only [ByteArray.size_append]; omega)), kdb (by first | omega | (simp only [ByteArray.size_append]; omega)), kdb (by first | omega | (simp only [ByteArray.size_append]; omega)), kdb (by first | omega | (simp only [ByteArray.size_append]; omega)), kdb (by first | omega | (simp only [ByteArray.size_append]; omega)), kdb (by first | omega | (simp only [ByteArray.size_append]; omega)), kdb (by first | omega | (simp only [ByteArray.size_append]; omega))]
    obtain ⟨a, b, e⟩ := kxk n0 l0 s0 (i : Int) b0 true n1 l (asI (nthD l[i] 0)) (asI (nthD l[i] 1)) (asI (nthD l[i] 2)) (asI (nthD l[i] 3)) (asI (nthD l[i] 4)) (asS (nthD l[i] 5)) (asI (nthD l[i] 7)) (asI (nthD l[i] 8)) (fun (s1 : ByteArray) (n2 : Int) (b1 : Bool) =>
       la68o1 t56 t67 t69 n0 l0 s0 b0 n1 l q1 m s1 ((i + 1 : Nat) : Int) (.d (.i .i64 n2)) (.d (.b true)) (.d (.b b1))) (nmsL l[i]) (kaf (h.few.t _ hm)) (h.few.k _ hm) (h.nm _ hm)
       (((((((((t ++ varS (asI (nthD l[i] 0))) ++ varS (asI (nthD l[i] 1))) ++ varS (asI (nthD l[i] 2))) ++ varS (asI (nthD l[i] 3))) ++ varS (asI (nthD l[i] 4))) ++ varS (asI (nthD l[i] 7))) ++ varS (asI (nthD l[i] 8))) ++ kic (asS (nthD l[i] 5))) ++ varS ((asL (nthD l[i] 6)).length : Int)) (by simp only [ByteArray.size_append]; omega) v.2.2
    refine ⟨_, (_, _, _), e, ?_⟩
    rw [kxe inoS hi, ht]
    simp only [inoS, ByteArray.append_assoc]
    rfl
theorem ksf (n1 : Int) (l : List (List D)) (hl : l.length ≤ 1048576) (ht : ∀ r ∈ l, typL kb r) (hz : ∀ r ∈ l, szdL kb r) : t68 n1 l = some ([.one (.s (if volB n1 l then volT n1 l else ⟨#[]⟩))], []) := by
 simp only [t68, ta68, keh n1 l hl ht hz, kdc, gz38, gz44, gz46, gz5, ka]
 cases hv : volB n1 l
 ·rfl
 ·have hS := kgl ht hv
  have a1 := kg n1; have a2 := kg (l.length : Int)
  simp only [Bool.not_true, Bool.false_eq_true, if_false, if_true]
  rw [kdb (by omega)]
  refine Eq.trans (krk n1 l ⟨#[]⟩ false n1 _ (fun _ _ _ _ _ => rfl) l hS (varS n1 ++ varS (l.length : Int)) (by simp only [ByteArray.size_append]; omega) (SV.undef, SV.undef, SV.undef)) ?_
  simp only [volT, ByteArray.append_assoc]
theorem kao {l : List (List D)} (h : audB l = true) : l.length ≤ 20 := by
 simp only [audB, Bool.and_eq_true, decide_eq_true_eq] at h; omega
theorem kjk (c : Int) (s : ByteArray) : t70 c s = some ([.one (.s (rsS c s))], []) := by
 simp only [t70, ta70, knf, kdc, gz44, gz40, gz46, gz5, ka, rsS]
 cases hr : resB c s
 ·rfl
 ·have a1 := kg c
  simp only [resB, Bool.and_eq_true, decide_eq_true_eq] at hr
  simp only [Bool.not_true, Bool.false_eq_true, if_false, if_true]
  rw [kdb (by omega)]
theorem kvk (n0 : Int) (l0 : List (List D)) (n1 : Int) (l1 l2 : List (List D)) (s0 : ByteArray) (b0 : Bool) (n2 : Int) (l3 : List (List D)) (n3 : Int) (l4 : List (List D)) (q1 : ByteArray → Int → Bool → Rs) (l : List (List D)) (ht : ∀ r ∈ l, typL knb r) (hn : l.length ≤ 20) (s : ByteArray) (hs : s.size ≤ 20000) (v : SV) :
  ∃ a b, la30o1 t23 t67 t68 t69 t70 n0 l0 n1 l1 l2 s0 b0 n2 l3 n3 l l4 q1 KK s 0 v = q1 (s ++ catL nteS l) a b := by
 refine keb (α := ByteArray) (σ := SV) (fun m i s v => la30o1 t23 t67 t68 t69 t70 n0 l0 n1 l1 l2 s0 b0 n2 l3 n3 l l4 q1 m s (i : Int) v) l.length (fun i t => t = s ++ catL nteS (l.take i)) (fun y => ∃ a b, y = q1 (s ++ catL nteS l) a b)
  ?_ ?_ l.length 0 KK s v (by omega) (by rw [kl]; omega) (by simp only [List.take_zero, catL, kre])
 ·intro m t v hp
  rw [List.take_length] at hp
  simp only [la30o1, ko, Bool.false_eq_true, if_false, hp]
  exact ⟨_, _, rfl⟩
 ·intro i m t v hi hp
  left
  have hr := ktc ht koe i hi
  have hg : l.getD i [] = l[i] := khb hi
  have hsz := kie (f := nteS) (fun r _ => kci r) i hn
  have a1 := kg (asI (nthD l[i] 0)); have a2 := kg (asI (nthD l[i] 1)); have a3 := kg (asI (nthD l[i] 2)); have a4 := kg (asI (nthD l[i] 3)); have a5 := kg (asI (nthD l[i] 4))
  have hts : t.size ≤ 30000 := by rw [hp, ByteArray.size_append]; omega
  simp only [la30o1, kj hi, Int.toNat_natCast, hg, hr, kdc, gz44, gz46, ka, if_true, kc i (by omega)]
  rw [kdb (by first | omega | (simp only [ByteArray.size_append]; omega)), kdb (by first | omega | (simp only [ByteArray.size_append]; omega)), kdb (by first | omega | (simp only [ByteArray.size_append]; omega)), kdb (by first | omega | (simp only [ByteArray.size_append]; omega)), kdb (by first | omega | (simp only [ByteArray.size_append]; omega))]
  refine ⟨_, _, rfl, ?_⟩
  rw [kxe nteS hi, hp]
  simp only [nteS, ByteArray.append_assoc]
theorem gz47 : ∀ x, okR zr70 zo70 (some ([.one (.s x)], [])) = true := fun _ => id rfl
theorem kuk (n0 : Int) (l0 : List (List D)) (n1 : Int) (l1 l2 : List (List D)) (s0 : ByteArray) (n2 : Int) (b0 b1 : Bool) (n3 : Int) (l3 : List (List D)) (n4 : Int) (l4 : List (List D)) (q1 : ByteArray → Int → Bool → Rs) (h1 : ∀ a b c, q1 a b c = some ([.one (.s a)], [])) (l : List (List D)) (ht : ∀ r ∈ l, typL kcb r) (hn : l.length ≤ 3) (s : ByteArray) (hs : s.size ≤ 40000) (v : SV) :
  la30o3 t23 t67 t68 t69 t70 n0 l0 n1 l1 l2 s0 n2 b0 b1 n3 l3 n4 l4 l q1 KK s 0 v = some ([.one (.s (s ++ catL sesS l))], []) := by
 refine keb (α := ByteArray) (σ := SV) (fun m i s v => la30o3 t23 t67 t68 t69 t70 n0 l0 n1 l1 l2 s0 n2 b0 b1 n3 l3 n4 l4 l q1 m s (i : Int) v) l.length (fun i t => t = s ++ catL sesS (l.take i)) (fun y => y = some ([.one (.s (s ++ catL sesS l))], []))
  ?_ ?_ l.length 0 KK s v (by omega) (by rw [kl]; omega) (by simp only [List.take_zero, catL, kre])
 ·intro m t v hp
  rw [List.take_length] at hp
  simp only [la30o3, ko, Bool.false_eq_true, if_false, hp, h1]
 ·intro i m t v hi hp
  left
  have hr := ktc ht kdd i hi
  have hg : l.getD i [] = l[i] := khb hi
  have hsz := kie (f := sesS) (fun r _ => kdm r) i hn
  have a1 := kg (asI (nthD l[i] 0)); have a2 := kg (asI (nthD l[i] 1)); have a3 := kg (asI (nthD l[i] 2)); have a4 := kyj (asI (nthD l[i] 3)) (asS (nthD l[i] 4)); have a5 := kgc (rsS (asI (nthD l[i] 3)) (asS (nthD l[i] 4)))
  have hpp := khe (rsS (asI (nthD l[i] 3)) (asS (nthD l[i] 4))) (by omega)
  have hts : t.size ≤ 50000 := by rw [hp, ByteArray.size_append]; omega
  simp only [la30o3, kj hi, Int.toNat_natCast, hg, hr, kdc, kjk, hpp, gz44, gz45, gz47, gz46, ka, if_true, kc i (by omega)]
  rw [kdb (by first | omega | (simp only [ByteArray.size_append]; omega)), kdb (by first | omega | (simp only [ByteArray.size_append]; omega)), kdb (by first | omega | (simp only [ByteArray.size_append]; omega)), kdb (by first | omega | (simp only [ByteArray.size_append]; omega))]
  refine ⟨_, _, rfl, ?_⟩
  rw [kxe sesS hi, hp]
  simp only [sesS, ByteArray.append_assoc]
theorem gz48 : ∀ x, okR zr68 zo68 (some ([.one (.s x)], [])) = true := fun _ => id rfl
theorem gz49 : ∀ x, okR zr23 zo23 (some ([.one (.b x)], [])) = true := fun _ => id rfl
theorem kqj (n1 : Int) (l2 : List (List D)) (n3 : Int) (l4 l5 : List (List D)) (hl : l2.length ≤ 1048576) (ht : ∀ r ∈ l2, typL kb r) (hz : ∀ r ∈ l2, szdL kb r) (hl4 : l4.length ≤ 1048576) (ht4 : ∀ r ∈ l4, typL knb r) (hl5 : l5.length ≤ 1048576) (ht5 : ∀ r ∈ l5, typL kcb r) :
    t30 n1 l2 n3 l4 l5 = some ([.one (.s (if tenB n1 l2 n3 l4 l5 then tenT n1 l2 n3 l4 l5 else ⟨#[]⟩))], []) := by
  simp only [t30, ta30, kqi n1 l2 n3 l4 l5 hl ht hz hl4 ht4 hl5 ht5, ksf n1 l2 hl ht hz, kdc, gz44, gz48, gz49, gz46, gz5, ka]
  cases hv : tenB n1 l2 n3 l4 l5
  · rfl
  · simp only [tenB, Bool.and_eq_true] at hv
    have hS := kgl ht hv.2.2
    have h4 := kao hv.2.1.2
    have h5 := kzk hv.1
    have hvs := kgm (n1 := n1) hS
    have hp := khe (volT n1 l2) (by omega)
    have a0 := kgc (volT n1 l2); have a1 := kg n3; have a2 := kg (l4.length : Int); have a3 := kg (l5.length : Int)
    have a4 := kde (f := nteS) (c := 50) l4 (fun r _ => kci r)
    simp only [hv.2.2, hp, gz45, gz46, Bool.not_true, Bool.false_eq_true, if_false, if_true, ka]
    rw [kdb (by first | omega | (simp only [ByteArray.size_append]; omega)), kdb (by first | omega | (simp only [ByteArray.size_append]; omega))]
    obtain ⟨a, b, e⟩ := kvk n1 l2 n3 l4 l5 ⟨#[]⟩ false n1 l2 n3 l5 (fun (s1 : ByteArray) (n0 : Int) (b0 : Bool) =>
     chk (decide (s1.size + (varS (l5.length : Int)).size ≤ lim)) <|
     la30o3 t23 t67 t68 t69 t70 n1 l2 n3 l4 l5 (⟨#[]⟩ : ByteArray) n0 false b0 n1 l2 n3 l4 l5
      (fun (s0 : ByteArray) (n2 : Int) (b1 : Bool) =>
       some ([.one (.s s0)], [])) KK (s1 ++ varS (l5.length : Int)) (0 : Int) SV.undef) l4 ht4 h4 ((kic (volT n1 l2) ++ varS n3) ++ varS (l4.length : Int)) (by simp only [ByteArray.size_append]; omega) SV.undef
    refine Eq.trans e ?_
    rw [kdb (by first | omega | (simp only [ByteArray.size_append]; omega)), kuk n1 l2 n3 l4 l5 ⟨#[]⟩ a false b n1 l2 n3 l4 (fun s0 _ _ => some ([.one (.s s0)], [])) (fun _ _ _ => rfl) l5 ht5 h5 _ (by simp only [ByteArray.size_append]; omega)]
    simp only [tenT, ByteArray.append_assoc]
def val : List UInt8 → Nat | [] => 0 | b :: t => b.toNat % 128 + 128 * val t
def enc : Nat → Nat → List UInt8
 | 0, n => [UInt8.ofNat n]
 | k + 1, n => if n ≥ 128 then UInt8.ofNat (128 + n % 128) :: enc k (n / 128) else [UInt8.ofNat n]
def good : List UInt8 → Bool
 | [] => false
 | [b] => decide (b.toNat < 128)
 | b :: c :: t => decide (b.toNat ≥ 128) && (decide (0 < val (c :: t)) && good (c :: t))
theorem ksj (x : Nat) (b : UInt8) (hx : x < 256) : UInt8.ofNat x = b ↔ x = b.toNat := by
 constructor
 ·intro h; subst h; simp; omega
 ·intro h; subst h; simp
theorem kwg : ∀ (t : List UInt8) (k : Nat), t.length ≤ k + 1 → (enc k (val t) = t ↔ good t = true)
 | [], k, _ => by
  cases k <;> simp [enc, val, good]
 | [b], k, _ => by
  have hb := b.toNat_lt
  have e : enc k (b.toNat % 128 + 128 * 0) = [UInt8.ofNat (b.toNat % 128)] := by
   cases k with
   | zero => rfl
   | succ k => simp only [enc]; rw [if_neg (by omega)]; simp
  simp only [val, e, good, List.cons.injEq, and_true, decide_eq_true_eq]
  rw [ksj _ _ (by omega)]
  omega
 | b :: c :: t, k, h => by
  have hb := b.toNat_lt
  obtain ⟨k, rfl⟩ : ∃ k', k = k' + 1 := ⟨k - 1, by simp at h; omega⟩
  have ih := kwg (c :: t) k (by simp at h ⊢; omega)
  have e : val (b :: c :: t) = b.toNat % 128 + 128 * val (c :: t) := rfl
  generalize hv : val (c :: t) = v at *
  simp only [good, hv, Bool.and_eq_true, decide_eq_true_eq]
  rw [e]
  simp only [enc]
  by_cases hz : v = 0
  ·rw [if_neg (by omega)]
   simp; omega
  ·rw [if_pos (by omega), show (b.toNat % 128 + 128 * v) / 128 = v by omega, show (b.toNat % 128 + 128 * v) % 128 = b.toNat % 128 by omega]
   simp only [List.cons.injEq, ih]
   rw [ksj _ _ (by omega)]
   constructor
   ·rintro ⟨h1, h2⟩; exact ⟨by omega, by omega, h2⟩
   ·rintro ⟨h1, h2, h3⟩; exact ⟨by omega, h3⟩
theorem kkf : ∀ (bs : List UInt8) (i : Nat), i < bs.length → val (bs.take (i + 1)) = val (bs.take i) + 128 ^ i * ((bs.getD i 0).toNat % 128)
 | [], i, h => by simp at h
 | b :: t, 0, _ => by simp [val]
 | b :: t, i + 1, h => by
  have ih := kkf t i (by simpa using h)
  simp only [List.take_succ_cons, val, ih, List.getD_cons_succ]
  rw [Nat.pow_succ, Nat.mul_add, Nat.mul_comm (128 ^ i) 128, Nat.mul_assoc]
  omega
theorem kbk : ∀ (t : List UInt8), val t < 128 ^ t.length
 | [] => by simp [val]
 | b :: t => by
  have := kbk t
  simp only [val, List.length_cons, Nat.pow_succ]
  omega
theorem kvf : ∀ (bs : List UInt8) (i : Nat), i < bs.length → (∀ j, j < i → (bs.getD j 0).toNat ≥ 128) → (good (bs.take (i + 1)) = true ↔ (bs.getD i 0).toNat < 128 ∧ (i = 0 ∨ (bs.getD i 0).toNat ≠ 0))
 | [], i, h, _ => by simp at h
 | b :: t, 0, _, _ => by simp [good]
 | b :: t, i + 1, h, hj => by
  have hi : i < t.length := by simpa using h
  have ih := kvf t i hi (fun j hj' => by simpa using hj (j + 1) (by omega))
  have hb : b.toNat ≥ 128 := by simpa using hj 0 (by omega)
  have hv := kkf t i hi
  obtain ⟨c, t', ht⟩ : ∃ c t', t.take (i + 1) = c :: t' := by
   cases t with
   | nil => simp at hi
   | cons c t => exact ⟨c, _, rfl⟩
  simp only [List.take_succ_cons, List.getD_cons_succ]
  rw [ht] at ih hv ⊢
  simp only [good, Bool.and_eq_true, decide_eq_true_eq, ih]
  have hp : 0 < 128 ^ i := Nat.pow_pos (by omega)
  constructor
  ·rintro ⟨_, h2, h3, h4⟩
   refine ⟨h3, .inr ?_⟩
   rcases h4 with rfl | h4
   ·intro hz
    rw [hz] at hv
    simp at hv
    have h0 : val ([] : List UInt8) = 0 := rfl
    omega
   ·exact h4
  ·rintro ⟨h1, h2⟩
   have h2 : (t.getD i 0).toNat ≠ 0 := by rcases h2 with h2 | h2; omega; exact h2
   refine ⟨hb, ?_, h1, .inr h2⟩
   have : 0 < 128 ^ i * ((t.getD i 0).toNat % 128) := Nat.mul_pos hp (by omega)
   omega
theorem kil : ∀ (t : List UInt8), good t = true → ∀ j, j + 1 < t.length → (t.getD j 0).toNat ≥ 128
 | [], h, _, _ => by simp [good] at h
 | [b], _, j, hj => by simp at hj
 | b :: c :: t, h, j, hj => by
  simp only [good, Bool.and_eq_true, decide_eq_true_eq] at h
  cases j with
  | zero => simpa using h.1
  | succ j => simpa using kil (c :: t) h.2.2 j (by simpa using hj)
theorem kyd : ∀ {l : List (List D)} {x : Int}, isBytes l = true → bytesD (l ++ [[.i .u8 x]]) = bytesD l ++ [UInt8.ofNat x.toNat]
 | [], x, _ => rfl
 | r :: l, x, h => by
  unfold isBytes at h
  split at h
  ·rename_i e; cases e
  ·rename_i e; cases e; simp only [List.cons_append, bytesD]; rw [kyd h]
  ·cases h
theorem kom : ∀ (k : Nat) (n : Int) (l : List (List D)), isBytes l = true → 0 ≤ n → n < 128 ^ (k + 1) → bytesD ((vp k n l).2 ++ [[.i .u8 (IntKind.wrap .u8 (vp k n l).1)]]) = bytesD l ++ enc k n.toNat
 | 0, n, l, h, h0, h1 => by
  simp only [vp, enc]
  rw [u8_in _ (by omega), kyd h]
 | k + 1, n, l, h, h0, h1 => by
  unfold vp
  by_cases g : n ≥ 128
  ·rw [if_pos g, kom k (n / 128) _ (kpd h) (by omega) (by
    rw [Int.ediv_lt_iff_lt_mul (by omega)]; rw [Int.pow_succ] at h1; exact h1), kyd h]
   simp only [enc]
   rw [if_pos (by omega), List.append_assoc, show (128 + n % 128).toNat = 128 + n.toNat % 128 by omega, show (n / 128).toNat = n.toNat / 128 by omega]
   rfl
  ·rw [if_neg g]
   simp only
   rw [u8_in _ (by omega), kyd h]
   simp only [enc]
   rw [if_neg (by omega)]
theorem ktj (n : Int) (h0 : 0 ≤ n) (h1 : n ≤ 562949953421311) : (varS n).toList = enc 6 n.toNat := by
 unfold varS
 rw [if_pos ⟨h0, h1⟩, ByteArray.toList_eq]
 simp only [kom 6 n [] rfl h0 (by omega), bytesD, List.nil_append]
def rdL (bs : List UInt8) : Nat → Nat → Int × Int
 | 0, _ => (0, 0)
 | f + 1, i => if i < bs.length ∧ i < 7 then
   (if (bs.getD i 0).toNat ≥ 128 then rdL bs f (i + 1) else if (bs.getD i 0).toNat = 0 ∧ i > 0 then (0, 0) else (((val (bs.take (i + 1)) : Nat) : Int), ((i + 1 : Nat) : Int)))
  else (0, 0)
def rdV (s : ByteArray) : Int × Int := rdL s.data.toList 8 0
theorem ktm (s : ByteArray) (i : Nat) (h : i < s.size) : s.get! i = s.data.toList.getD i 0 := by
 have h' : i < s.data.size := h
 show s.data[i]! = _
 rw [getElem!_pos s.data i h']
 simp [List.getD, List.getElem?_eq_getElem (show i < s.data.toList.length by simpa using h')]
theorem kgh (s : ByteArray) (a b : Nat) : (s.extract a b).toList = (s.data.toList.take b).drop a := by
 rw [ByteArray.toList_eq, ByteArray.data_extract, Array.toList_extract]
 simp [List.extract, List.drop_take]
theorem kym (bs : List UInt8) : ∀ (f i : Nat), f + i = 8 → (∀ j, j < i → (bs.getD j 0).toNat ≥ 128) → rdL bs f i = (0, 0) ∨ ∃ k : Nat, 1 ≤ k ∧ k ≤ 7 ∧ k ≤ bs.length ∧ rdL bs f i = (((val (bs.take k) : Nat) : Int), (k : Int)) ∧ good (bs.take k) = true
 | 0, i, _, _ => .inl rfl
 | f + 1, i, e, hj => by
  unfold rdL
  by_cases h : i < bs.length ∧ i < 7
  ·rw [if_pos h]
   by_cases g : (bs.getD i 0).toNat ≥ 128
   ·rw [if_pos g]
    exact kym bs f (i + 1) (by omega) (fun j hj' => by
     by_cases e' : j = i
     ·subst e'; exact g
     ·exact hj j (by omega))
   ·rw [if_neg g]
    by_cases g2 : (bs.getD i 0).toNat = 0 ∧ i > 0
    ·rw [if_pos g2]; exact .inl rfl
    ·rw [if_neg g2]
     exact .inr ⟨i + 1, by omega, by omega, by omega, rfl, (kvf bs i h.1 hj).2 ⟨by omega, by omega⟩⟩
  ·rw [if_neg h]; exact .inl rfl
theorem ksm (s : ByteArray) : rdV s = (0, 0) ∨ ∃ k : Nat, 1 ≤ k ∧ k ≤ 7 ∧ k ≤ s.size ∧ rdV s = (((val (s.data.toList.take k) : Nat) : Int), (k : Int)) ∧ good (s.data.toList.take k) = true := by
 have := kym s.data.toList 8 0 rfl (by omega)
 have e : s.data.toList.length = s.size := by simp
 rw [e] at this
 exact this
theorem kmk (bs : List UInt8) (k : Nat) (h : k ≤ 7) : val (bs.take k) ≤ 562949953421311 := by
 have h1 := kbk (bs.take k)
 have h2 : 128 ^ (bs.take k).length ≤ 128 ^ 7 := Nat.pow_le_pow_right (by omega) (by simp; omega)
 omega
theorem kvg (s : ByteArray) (h : (rdV s).2 ≠ 0) : varS (rdV s).1 = s.extract 0 (rdV s).2.toNat := by
 rcases ksm s with h0 | ⟨k, h1, h2, h3, h4, h5⟩
 ·rw [h0] at h; exact absurd rfl h
 ·rw [h4]
  have hv := kmk s.data.toList k h2
  have e1 := ktj (val (s.data.toList.take k) : Nat) (by omega) (by omega)
  have e2 := (kwg (s.data.toList.take k) 6 (by simp; omega)).2 h5
  have e3 := kgh s 0 k
  simp only [Int.toNat_natCast] at e1 ⊢
  rw [e2] at e1
  simp only [List.drop_zero] at e3
  rw [← e1, ByteArray.toList_eq, ByteArray.toList_eq] at e3
  exact ByteArray.ext (Array.ext' e3.symm)
theorem kud (s : ByteArray) : 0 ≤ (rdV s).1 ∧ (rdV s).1 ≤ 562949953421311 ∧ 0 ≤ (rdV s).2 ∧ (rdV s).2 ≤ 7 ∧ (rdV s).2 ≤ (s.size : Int) := by
 rcases ksm s with h0 | ⟨k, h1, h2, h3, h4, h5⟩
 ·rw [h0]; simp
 ·have := kmk s.data.toList k h2
  rw [h4]; simp only; omega
theorem kko (n b i : Nat) (hn : n < 2 ^ (7 * i)) (hb : b < 128) (hi : i ≤ 6) : bitOr .i64 (n : Int) ((b * 2 ^ (7 * i) : Nat) : Int) = ((n + b * 2 ^ (7 * i) : Nat) : Int) := by
 have h7 : 2 ^ (7 * i) ≤ 2 ^ 42 := Nat.pow_le_pow_right (by omega) (by omega)
 have h8 : b * 2 ^ (7 * i) ≤ 127 * 2 ^ 42 := Nat.mul_le_mul (by omega) h7
 have h9 : 2 ^ (7 * i) * b = b * 2 ^ (7 * i) := Nat.mul_comm _ _
 unfold bitOr
 show IntKind.wrap .i64 (((BitVec.ofInt 64 (n : Int)) ||| (BitVec.ofInt 64 ((b * 2 ^ (7 * i) : Nat) : Int))).toNat : Int) = _
 have e2 : 2 ^ (7 * i) * b + n = 2 ^ (7 * i) * b ||| n := Nat.two_pow_add_eq_or_of_lt hn b
 rw [BitVec.toNat_or, kte _ (by omega), kte _ (by omega), Nat.or_comm, ← h9, ← e2, i64_in _ (by omega), h9]
 omega
theorem kpo (n : Nat) (h : n < 256) : bitAnd .i64 (n : Int) 127 = ((n % 128 : Nat) : Int) := by
 unfold bitAnd
 show IntKind.wrap .i64 (((BitVec.ofInt 64 (n : Int)) &&& (BitVec.ofInt 64 ((127 : Nat) : Int))).toNat : Int) = _
 rw [BitVec.toNat_and, kte n (by omega), kte 127 (by omega), show (127 : Nat) = 2 ^ 7 - 1 by rfl, Nat.and_two_pow_sub_one_eq_mod, i64_in _ (by omega)]
theorem ken (s : ByteArray) (n8 n9 : Int) (q1 : Int → Int → Int → Int → Int → Bool → Bool → Bool → Rs) (q2 : Int → Int → SV → Bool → SV → Rs)
  (h1 : ∀ a b c d e f g h, q1 a b c d e f g h = some ([.one (.i .i64 a), .one (.i .i64 b)], [])) (h2 : ∀ a b c d e, q2 a b c d e = some ([.one (.i .i64 0), .one (.i .i64 0)], [])) :
  ∀ (f i m : Nat) (u v w : SV), f + i = 8 → 8 < m + i → (∀ j, j < i → (s.data.toList.getD j 0).toNat ≥ 128) →
  l136o0 s n8 n9 q1 q2 m ((val (s.data.toList.take i) : Nat) : Int) i u v w = some ([.one (.i .i64 (rdL s.data.toList f i).1), .one (.i .i64 (rdL s.data.toList f i).2)], []) := by
 have e0 : s.data.toList.length = s.size := by simp
 intro f
 induction f with
 | zero =>
  intro i m u v w e hm hj
  obtain ⟨m, rfl⟩ : ∃ m', m = m' + 1 := ⟨m - 1, by omega⟩
  have ei : decide ((i : Int) < 7) = false := by simp; omega
  simp only [l136o0, ei, Bool.and_false, Bool.false_eq_true, if_false, h2, rdL]
 | succ f ih =>
  intro i m u v w e hm hj
  obtain ⟨m, rfl⟩ : ∃ m', m = m' + 1 := ⟨m - 1, by omega⟩
  by_cases h : i < s.data.toList.length ∧ i < 7
  ·have a1 : decide ((i : Int) < (s.size : Int)) = true := by rw [e0] at h; simp; omega
   have a2 : decide ((i : Int) < 7) = true := by simp; omega
   have a3 : decide ((0 : Int) ≤ (i : Int) ∧ (i : Int) < (s.size : Int)) = true := by rw [e0] at h; simp; omega
   have a4 : w64 (7 * (i : Int)) = ((7 * i : Nat) : Int) := by rw [ki _ (by omega)]; omega
   have a5 : decide ((0 : Int) ≤ ((7 * i : Nat) : Int)) = true := decide_eq_true (by omega)
   have hb := (s.data.toList.getD i 0).toNat_lt
   have hg := ktm s i (by omega)
   have hv := kkf s.data.toList i h.1
   have hlt := kbk (s.data.toList.take i)
   have hl' : (s.data.toList.take i).length = i := by simp only [List.length_take]; omega
   rw [hl'] at hlt
   have e128 : (128 : Nat) ^ i = 2 ^ (7 * i) := by rw [show (128 : Nat) = 2 ^ 7 from rfl, ← Nat.pow_mul]
   have h7 : 2 ^ (7 * i) ≤ 2 ^ 42 := Nat.pow_le_pow_right (by omega) (by omega)
   generalize hbb : (s.data.toList.getD i 0).toNat = b at *
   have a6 : w64 (b : Int) = (b : Int) := ki _ (by omega)
   have a7 : min (7 * i) (IntKind.bits .i64) = 7 * i := Nat.min_eq_left (by show 7 * i ≤ 64; omega)
   have h8 : b % 128 * 2 ^ (7 * i) ≤ 127 * 2 ^ 42 := Nat.mul_le_mul (by omega) h7
   have a8 : w64 (((b % 128 : Nat) : Int) * 2 ^ (7 * i)) = ((b % 128 * 2 ^ (7 * i) : Nat) : Int) := by
    have : ((b % 128 : Nat) : Int) * 2 ^ (7 * i) = ((b % 128 * 2 ^ (7 * i) : Nat) : Int) := by simp
    rw [this, ki _ (by omega)]
   have a9 : bitOr .i64 ((val (s.data.toList.take i) : Nat) : Int) ((b % 128 * 2 ^ (7 * i) : Nat) : Int) = ((val (s.data.toList.take (i + 1)) : Nat) : Int) := by
    rw [kko _ _ i (by omega) (by omega) (by omega), hv, e128, Nat.mul_comm (b % 128)]
   simp only [l136o0, a1, a2, a3, a4, a5, Int.toNat_natCast, hg, hbb, a6, kpo b hb, a7, a8, a9, Bool.and_true, ka, if_true, rdL]
   rw [if_pos h]
   by_cases g : b ≥ 128
   ·have g' : decide ((b : Int) > 127) = true := by simp; omega
    simp only [g', if_true, hbb, if_pos g]
    rw [kc i (by omega)]
    exact ih (i + 1) m _ _ _ (by omega) (by omega) (fun j hj' => by
     by_cases e' : j = i
     ·subst e'; omega
     ·exact hj j (by omega))
   ·have g' : decide ((b : Int) > 127) = false := by simp; omega
    simp only [g', Bool.false_eq_true, if_false, hbb, if_neg g]
    by_cases g2 : b = 0 ∧ i > 0
    ·have g3 : (((b : Int) == 0) && decide ((i : Int) > 0)) = true := by simp; omega
     simp only [g3, if_true, h1, if_pos g2]
    ·have g3 : (((b : Int) == 0) && decide ((i : Int) > 0)) = false := by
      rw [Bool.eq_false_iff]; simp; omega
     simp only [g3, Bool.false_eq_true, if_false, h1, if_neg g2, kc i (by omega)]
  ·have a1 : (decide ((i : Int) < (s.size : Int)) && decide ((i : Int) < 7)) = false := by
    rw [e0] at h; rw [Bool.eq_false_iff]; simp; omega
   simp only [l136o0, a1, Bool.false_eq_true, if_false, h2, rdL, if_neg h]
theorem kqf (s : ByteArray) : t136 s = some ([.one (.i .i64 (rdV s).1), .one (.i .i64 (rdV s).2)], []) :=
 ken s 0 0 (fun n0 n1 _ _ _ _ _ _ => some ([.one (.i .i64 n0), .one (.i .i64 n1)], [])) (fun _ _ _ _ _ => some ([.one (.i .i64 0), .one (.i .i64 0)], [])) (fun _ _ _ _ _ _ _ _ => rfl) (fun _ _ _ _ _ => rfl) 8 0 KK .undef .undef .undef rfl (by rw [kl]; omega) (by omega)
theorem koo (s : ByteArray) (n0 n1 n2 : Int) (b0 : Bool) (q : Int → Int → Bool → SV → Rs) (k : Nat) (hk : k ≤ 7) (hks : k ≤ s.size) : ∀ (j m n : Nat) (v w : SV), j ≤ k → j < m → n < 128 ^ (k - j) →
  ∃ d, la113o2 t69 s n0 n1 n2 b0 q m (n : Int) ((j : Int) - 1) v w = q ((n * 128 ^ j + val (s.data.toList.take j) : Nat) : Int) (-1) false d := by
 intro j
 induction j with
 | zero =>
  intro m n v w hj hm hn
  obtain ⟨m, rfl⟩ : ∃ m', m = m' + 1 := ⟨m - 1, by omega⟩
  exact ⟨_, by simp [la113o2, val]; rfl⟩
 | succ j ih =>
  intro m n v w hj hm hn
  obtain ⟨m, rfl⟩ : ∃ m', m = m' + 1 := ⟨m - 1, by omega⟩
  have e0 : s.data.toList.length = s.size := by simp
  have a0 : (((j + 1 : Nat) : Int) - 1) = (j : Int) := by omega
  have a1 : decide ((j : Int) ≥ 0) = true := by simp
  have a3 : decide ((0 : Int) ≤ (j : Int) ∧ (j : Int) < (s.size : Int)) = true := by simp; omega
  have hg := ktm s j (by omega)
  have hv := kkf s.data.toList j (by omega)
  have hb := (s.data.toList.getD j 0).toNat_lt
  generalize hbb : (s.data.toList.getD j 0).toNat = b at *
  have hn7 : 128 ^ (k - (j + 1)) ≤ 128 ^ 6 := Nat.pow_le_pow_right (by omega) (by omega)
  have hp : n * 128 < 128 ^ (k - j) := by rw [show k - j = (k - (j + 1)) + 1 by omega, Nat.pow_succ]; omega
  have a6 : w64 (b : Int) = (b : Int) := ki _ (by omega)
  have a7 : w64 (w64 ((n : Int) * 128) + ((b : Int)).tmod 128) = ((n * 128 + b % 128 : Nat) : Int) := by
   rw [Int.tmod_eq_emod_of_nonneg (by omega), ki ((n : Int) * 128) (by omega), ki _ (by omega)]; omega
  have a8 : w64 ((j : Int) - 1) = (j : Int) - 1 := ki _ (by omega)
  have hq : (n * 128 + b % 128) < 128 ^ (k - j) := by
   rw [show k - j = (k - (j + 1)) + 1 by omega, Nat.pow_succ] at hp ⊢; omega
  obtain ⟨d, hd⟩ := ih m (n * 128 + b % 128) (.d (.b true)) (keepV [] w) (by omega) (by omega) hq
  refine ⟨d, ?_⟩
  simp only [la113o2, a0, a1, a3, Int.toNat_natCast, hg, hbb, a6, a7, a8, ka, if_true]
  rw [hd]
  congr 2
  rw [hv, Nat.add_mul, Nat.pow_succ, Nat.mul_assoc, Nat.mul_comm 128 (128 ^ j), Nat.mul_comm (b % 128)]
  omega
theorem krj (s : ByteArray) (n1 n2 : Int) (q1 : Int → Int → Int → Bool → Bool → Bool → Rs) (q2 : Int → SV → SV → Bool → SV → SV → Rs) (k m : Nat) (v1 v2 v3 v4 v5 : SV) (h1 : 1 ≤ k) (h7 : k ≤ 7) (hs : k ≤ s.size) :
    la113o0 t69 s n1 n2 q1 q2 (m + 1) k v1 v2 v3 v4 v5 = if good (s.data.toList.take k) = true then q1 ((val (s.data.toList.take k) : Nat) : Int) k (-1) true false true else la113o0 t69 s n1 n2 q1 q2 m ((k + 1 : Nat) : Int) (.d (.i .i64 ((val (s.data.toList.take k) : Nat) : Int))) (.d (.i .i64 (-1))) (.d (.b true)) (.d (.b false)) (.d (.b false)) := by
  have a1 : (decide ((k : Int) ≤ 7) && decide ((k : Int) ≤ (s.size : Int))) = true := by simp; omega
  have a2 : w64 ((k : Int) - 1) = (k : Int) - 1 := ki _ (by omega)
  have a3 : decide ((0 : Int) ≤ 0 ∧ (0 : Int) ≤ (k : Int) ∧ (k : Int) ≤ (s.size : Int)) = true := by simp; omega
  have e0 : s.data.toList.length = s.size := by simp
  simp only [la113o0, a1, if_true, a2]
  obtain ⟨d, hd⟩ := koo s n1 n2 k true (fun n0 n3 b0 v0 =>
       chk (okR zr69 zo69 (t69 n0)) <|
       chk (decide ((0 : Int) ≤ 0 ∧ (0 : Int) ≤ (k : Int) ∧ (k : Int) ≤ (s.size : Int))) <|
       if ((asS (resC (t69 n0) 0 0)).toList == (s.extract (0 : Int).toNat (k : Int).toNat).toList) = true then
        q1 n0 k n3 true b0 ((asS (resC (t69 n0) 0 0)).toList == (s.extract (0 : Int).toNat (k : Int).toNat).toList)
       else
        la113o0 t69 s n1 n2 q1 q2 m (w64 ((k : Int) + 1)) (.d (.i .i64 n0)) (.d (.i .i64 n3)) (.d (.b true)) (.d (.b b0)) (.d (.b ((asS (resC (t69 n0) 0 0)).toList == (s.extract (0 : Int).toNat (k : Int).toNat).toList)))) k h7 hs k KK 0 v4 v5 (Nat.le_refl _) (by rw [kl]; omega) (by simp)
  refine Eq.trans hd ?_
  have hv := kmk s.data.toList k h7
  have ec : ((varS ((val (s.data.toList.take k) : Nat) : Int)).toList == (s.extract (0 : Int).toNat (k : Int).toNat).toList) = good (s.data.toList.take k) := by
    rw [ktj _ (by omega) (by omega), kgh, Int.toNat_natCast, Int.toNat_natCast, Bool.eq_iff_iff, beq_iff_eq, show (0 : Int).toNat = 0 from rfl, List.drop_zero]
    exact kwg _ 6 (by simp; omega)
  simp only [kdc, gz44, gz46, a3, ka, Nat.zero_mul, Nat.zero_add, ec, kc k (by omega)]
  cases good (s.data.toList.take k) <;> rfl
theorem kag (s : ByteArray) (n0 n1 : Int) (q1 : Int → Int → Int → Bool → Bool → Bool → Rs) (q2 : Int → SV → SV → Bool → SV → SV → Rs) (h2 : ∀ a b c d e f, q2 a b c d e f = some ([.one (.i .i64 0), .one (.i .i64 0)], [])) (k m : Nat) (v1 v2 v3 v4 v5 : SV) (h : ¬ (k ≤ 7 ∧ k ≤ s.size)) :
  la113o0 t69 s n0 n1 q1 q2 (m + 1) k v1 v2 v3 v4 v5 = some ([.one (.i .i64 0), .one (.i .i64 0)], []) := by
 have a1 : (decide ((k : Int) ≤ 7) && decide ((k : Int) ≤ (s.size : Int))) = false := by rw [Bool.eq_false_iff]; simp; omega
 simp only [la113o0, a1, Bool.false_eq_true, if_false, h2]
theorem kgn (s : ByteArray) (n0 n1 : Int) (q1 : Int → Int → Int → Bool → Bool → Bool → Rs) (q2 : Int → SV → SV → Bool → SV → SV → Rs) (h2 : ∀ a b c d e f, q2 a b c d e f = some ([.one (.i .i64 0), .one (.i .i64 0)], [])) (j : Nat) (hj : (s.data.toList.getD j 0).toNat < 128) :
  ∀ (f k m : Nat) (v1 v2 v3 v4 v5 : SV), f + k = 9 → 9 < m + k → j + 1 < k → la113o0 t69 s n0 n1 q1 q2 m k v1 v2 v3 v4 v5 = some ([.one (.i .i64 0), .one (.i .i64 0)], []) := by
 have e0 : s.data.toList.length = s.size := by simp
 intro f
 induction f with
 | zero =>
  intro k m v1 v2 v3 v4 v5 e hm hk
  obtain ⟨m, rfl⟩ : ∃ m', m = m' + 1 := ⟨m - 1, by omega⟩
  exact kag s n0 n1 q1 q2 h2 k m _ _ _ _ _ (by omega)
 | succ f ih =>
  intro k m v1 v2 v3 v4 v5 e hm hk
  obtain ⟨m, rfl⟩ : ∃ m', m = m' + 1 := ⟨m - 1, by omega⟩
  by_cases h : k ≤ 7 ∧ k ≤ s.size
  ·rw [krj s n0 n1 q1 q2 k m _ _ _ _ _ (by omega) h.1 h.2, if_neg]
   ·exact ih (k + 1) m _ _ _ _ _ (by omega) (by omega) (by omega)
   ·intro hg
    have hl' : (s.data.toList.take k).length = k := by simp only [List.length_take]; omega
    have := kil _ hg j (by omega)
    have e1 : (s.data.toList.take k).getD j 0 = s.data.toList.getD j 0 := by simp [List.getD, List.getElem?_take, show j < k by omega]
    rw [e1] at this
    omega
  ·exact kag s n0 n1 q1 q2 h2 k m _ _ _ _ _ h
theorem khn (s : ByteArray) (n0 n1 : Int) (q1 : Int → Int → Int → Bool → Bool → Bool → Rs) (q2 : Int → SV → SV → Bool → SV → SV → Rs) (h1 : ∀ a b c d e f, q1 a b c d e f = some ([.one (.i .i64 a), .one (.i .i64 b)], [])) (h2 : ∀ a b c d e f, q2 a b c d e f = some ([.one (.i .i64 0), .one (.i .i64 0)], [])) :
  ∀ (f i m : Nat) (v1 v2 v3 v4 v5 : SV), f + i = 8 → 9 < m + i → (∀ j, j < i → (s.data.toList.getD j 0).toNat ≥ 128) →
  la113o0 t69 s n0 n1 q1 q2 m ((i + 1 : Nat) : Int) v1 v2 v3 v4 v5 = some ([.one (.i .i64 (rdL s.data.toList f i).1), .one (.i .i64 (rdL s.data.toList f i).2)], []) := by
 have e0 : s.data.toList.length = s.size := by simp
 intro f
 induction f with
 | zero =>
  intro i m v1 v2 v3 v4 v5 e hm hj
  obtain ⟨m, rfl⟩ : ∃ m', m = m' + 1 := ⟨m - 1, by omega⟩
  exact kag s n0 n1 q1 q2 h2 (i + 1) m _ _ _ _ _ (by omega)
 | succ f ih =>
  intro i m v1 v2 v3 v4 v5 e hm hj
  obtain ⟨m, rfl⟩ : ∃ m', m = m' + 1 := ⟨m - 1, by omega⟩
  unfold rdL
  by_cases h : i < s.data.toList.length ∧ i < 7
  ·rw [if_pos h, krj s n0 n1 q1 q2 (i + 1) m _ _ _ _ _ (by omega) (by omega) (by omega)]
   have hgt := kvf s.data.toList i h.1 hj
   by_cases g : (s.data.toList.getD i 0).toNat ≥ 128
   ·rw [if_pos g, if_neg (by rw [hgt]; omega)]
    exact ih (i + 1) m _ _ _ _ _ (by omega) (by omega) (fun j hj' => by
     by_cases e' : j = i
     ·subst e'; exact g
     ·exact hj j (by omega))
   ·rw [if_neg g]
    by_cases g2 : (s.data.toList.getD i 0).toNat = 0 ∧ i > 0
    ·rw [if_pos g2, if_neg (by rw [hgt]; omega)]
     exact kgn s n0 n1 q1 q2 h2 i (by omega) (7 - i) (i + 1 + 1) m _ _ _ _ _ (by omega) (by omega) (by omega)
    ·rw [if_neg g2, if_pos (hgt.2 ⟨by omega, by omega⟩), h1]
  ·rw [if_neg h]
   exact kag s n0 n1 q1 q2 h2 (i + 1) m _ _ _ _ _ (by omega)
theorem kxf (s : ByteArray) : t113 s = some ([.one (.i .i64 (rdV s).1), .one (.i .i64 (rdV s).2)], []) :=
 khn s 0 0 (fun n0 n1 _ _ _ _ => some ([.one (.i .i64 n0), .one (.i .i64 n1)], [])) (fun _ _ _ _ _ _ => some ([.one (.i .i64 0), .one (.i .i64 0)], [])) (fun _ _ _ _ _ _ => rfl) (fun _ _ _ _ _ _ => rfl) 8 0 KK .undef .undef .undef .undef .undef rfl (by rw [kl]; omega) (by omega)
theorem kzd (s : ByteArray) : s.extract 0 s.size = s := by
 apply ByteArray.ext
 rw [ByteArray.data_extract]
 exact Array.extract_size
theorem kwf (s : ByteArray) (k : Nat) (h : k ≤ s.size) : s.extract 0 k ++ s.extract k s.size = s := by
 apply ByteArray.ext
 rw [ByteArray.data_append, ByteArray.data_extract, ByteArray.data_extract, Array.extract_append_extract]
 have e : max k s.size = s.data.size := by have : s.size = s.data.size := rfl; omega
 have e0 : min 0 k = 0 := by omega
 rw [e, e0]
 exact Array.extract_size
theorem knc (s : ByteArray) (a : Nat) : (s.extract a s.size).size = s.size - a := by
 rw [ByteArray.size_extract]; omega
def kbd (n : Int) (s : ByteArray) : Bool := decide (0 ≤ n ∧ n ≤ 200 ∧ (s.size : Int) ≤ 400)
def rdR (s : ByteArray) : Bool × Int × ByteArray :=
 if (rdV s).2 ≠ 0 ∧ kbd (rdV s).1 (s.extract (rdV s).2.toNat s.size) = true then (true, (rdV s).1, s.extract (rdV s).2.toNat s.size) else (false, 0, ⟨#[]⟩)
theorem kwl (n : Int) (s : ByteArray) : t59 n s = some ([.one (.b (kbd n s))], []) := by
 simp only [t59, ta59, kod, zr57, zo57, okR, isVs, isV, isD, isOs, resC, nthR, cellsDV, nthD, asB, Bool.and_true, ka]
 apply khi; unfold kbd; rw [Bool.eq_iff_iff]; simp; omega
theorem kql (n : Int) (s : ByteArray) : t64 n s = some ([.one (.b (kbd n s))], []) := by
 simp only [t64, ta64, klc, zr63, zo63, okR, isVs, isV, isD, isOs, resC, nthR, cellsDV, nthD, asB, Bool.and_true, ka]
 apply khi; unfold kbd; rw [Bool.eq_iff_iff]; simp; omega
theorem gz50 : ∀ x y, okR zr113 zo113 (some ([.one (.i .i64 x), .one (.i .i64 y)], [])) = true := fun _ _ => id rfl
theorem kun (s : ByteArray) : t78 s 0 1 = some (if (rdV s).2 = 0 then [.one (.l []), .one (.i .i64 (-1))] else [.one (.l [[.i .i64 (rdV s).1]]), .one (.i .i64 (rdV s).2)], []) := by
 obtain ⟨k, hk⟩ : ∃ k, KK = k + 2 := ⟨KK - 2, by rw [kl]⟩
 have hr := kud s
 unfold t78 ta78
 rw [hk]
 have a1 : (decide ((0 : Int) < 0) || decide ((0 : Int) > (s.size : Int))) = false := by rw [Bool.eq_false_iff]; simp
 have a2 : decide ((0 : Int) ≤ 0 ∧ (0 : Int) ≤ (s.size : Int)) = true := decide_eq_true (by omega)
 have ex : s.extract (0 : Int).toNat s.size = s := kzd s
 have a3 : decide ((0 : Int) < 1) = true := rfl
 have a4 : decide ((1 : Int) < 1) = false := rfl
 have a5 : w64 (0 + 1) = 1 := rfl
 have a6 : w64 (0 + (rdV s).2) = (rdV s).2 := by rw [ki _ (by omega)]; omega
 simp only [la78o0, a1, a2, a3, ex, kxf, gz50, gz19, gz20, ka, if_true, Bool.false_eq_true, if_false]
 by_cases h : (rdV s).2 = 0
 ·simp [h]
 ·have h' : ((rdV s).2 == 0) = false := by simpa using h
  simp only [h', Bool.false_eq_true, if_false, a4, a5, a6, if_neg h, List.nil_append]
  rw [kfd (by simp [flatR, allSc, isSc, lim])]
theorem gz51 : ∀ x y, okR zr78 zo78 (some ([.one (.l x), .one (.i .i64 y)], [])) = true := fun _ _ => id rfl
theorem gz52 : ∀ x y, asL (resC (some ([.one (.l x), .one (.i .i64 y)], [])) 0 0) = x := fun _ _ => id rfl
theorem gz53 : ∀ x y, asI (resC (some ([.one (.l x), .one (.i .i64 y)], [])) 1 0) = y := fun _ _ => id rfl
theorem knd (s : ByteArray) : t80 s = some ([.agg [.i .i64 (rdR s).2.1, .s (rdR s).2.2], .one (.b (rdR s).1)], []) := by
 have hr := kud s
 unfold t80 ta80 rdR
 by_cases h : (rdV s).2 = 0
 ·have e : t78 s 0 1 = some ([.one (.l []), .one (.i .i64 (-1))], []) := by rw [kun, if_pos h]
  simp [e, h, zr78, zo78]
 ·have e : t78 s 0 1 = some ([.one (.l [[.i .i64 (rdV s).1]]), .one (.i .i64 (rdV s).2)], []) := by rw [kun, if_neg h]
  have hn : ¬ (rdV s).2 < 0 := by omega
  have a1 : decide ((0 : Int) ≤ (rdV s).2 ∧ (rdV s).2 ≤ (s.size : Int)) = true := decide_eq_true (by omega)
  have hb := kvg s h
  have hsz := knc s (rdV s).2.toNat
  have hj := kwf s (rdV s).2.toNat (by omega)
  rw [← hb] at hj
  have hv := kg (rdV s).1
  have sr : t70 (rdV s).1 (s.extract (rdV s).2.toNat s.size) = some ([.one (.s (if kbd (rdV s).1 (s.extract (rdV s).2.toNat s.size) = true then s else ⟨#[]⟩))], []) := by
   simp only [t70, ta70, kwl, kdc, gz40, gz44, gz46, gz5, ka]
   cases hc : kbd (rdV s).1 (s.extract (rdV s).2.toNat s.size)
   ·simp
   ·have := hc
    simp only [kbd, decide_eq_true_eq] at this
    simp only [Bool.not_true, Bool.false_eq_true, if_false, if_true]
    rw [kfd (decide_eq_true (by unfold lim; omega)), hj]
  simp only [e, gz51, gz52, gz53, hn, decide_false, Bool.false_eq_true, if_false, ka, a1]
  have z1 : (decide ((0 : Int) ≤ 0) && decide ((0 : Int) < ([[D.i .i64 (rdV s).1]].length : Int))) = true := rfl
  have z2 : [[D.i .i64 (rdV s).1]].getD ((0 : Int).toNat) [] = [D.i .i64 (rdV s).1] := rfl
  have z3 : (decide (1 ≤ [D.i .i64 (rdV s).1].length) && isF z3 0 [D.i .i64 (rdV s).1]) = true := rfl
  have z4 : asI (nthD [D.i .i64 (rdV s).1] 0) = (rdV s).1 := rfl
  simp only [z1, z2, z3, z4, ka, sr, gz47, gz46]
  cases hc : kbd (rdV s).1 (s.extract (rdV s).2.toNat s.size)
  ·have hs0 : (([] : List UInt8) == s.toList) = false := by
    rw [beq_eq_false_iff_ne]; intro h0
    have := (kje s).1 h0.symm
    omega
   simp [hs0]
  ·simp [h]
theorem gz54 : ∀ x y, okR zr136 zo136 (some ([.one (.i .i64 x), .one (.i .i64 y)], [])) = true := fun _ _ => id rfl
theorem kjj (s : ByteArray) : t118 s = some ([.agg [.i .i64 (rdR s).2.1, .s (rdR s).2.2], .one (.b (rdR s).1)], []) := by
 have hr := kud s
 unfold t118 ta118 rdR
 have a1 : decide ((0 : Int) ≤ (rdV s).2 ∧ (rdV s).2 ≤ (s.size : Int)) = true := decide_eq_true (by omega)
 simp only [kqf, gz54, gz19, gz20, a1, ka, kql, gz43, gz5, Bool.true_or]
 cases hc : kbd (rdV s).1 (s.extract (rdV s).2.toNat s.size)
 ·simp
 ·by_cases h : (rdV s).2 = 0
  ·simp [h]
  ·simp [h]
theorem knj (s : ByteArray) (p q r : Nat) (h1 : p ≤ q) (h2 : q ≤ r) (h3 : r ≤ s.size) : s.extract p q ++ s.extract q r = s.extract p r := by
 apply ByteArray.ext
 rw [ByteArray.data_append, ByteArray.data_extract, ByteArray.data_extract, ByteArray.data_extract, Array.extract_append_extract]
 have e : max q r = r := by omega
 have e0 : min p q = p := by omega
 rw [e, e0]
theorem ksh (s : ByteArray) (p a b : Nat) (h : p + b ≤ s.size) : (s.extract p s.size).extract a b = s.extract (p + a) (p + b) := by
 apply ByteArray.ext
 rw [ByteArray.data_extract, ByteArray.data_extract, ByteArray.data_extract, Array.extract_extract]
 congr 1; omega
theorem kdl (s : ByteArray) (p a : Nat) (h : p + a ≤ s.size) : (s.extract p s.size).extract a (s.extract p s.size).size = s.extract (p + a) s.size := by
 rw [knc, ksh s p a _ (by omega)]
 congr 1; omega
def pos : Option Nat → Int | none => -1 | some p => (p : Int)
theorem ktd (p : Nat) : pos (some p) = (p : Int) := rfl
def inB (s : ByteArray) (o : Option Nat) : Prop := ∀ p, o = some p → p ≤ s.size
def numA (s : ByteArray) : Option Nat → Int × Option Nat
 | none => (0, none)
 | some p => if (rdV (s.extract p s.size)).2 = 0 then (0, none) else ((rdV (s.extract p s.size)).1, some (p + (rdV (s.extract p s.size)).2.toNat))
def kwb (s : ByteArray) : Nat → Option Nat → List (List D) → List (List D) × Option Nat
 | 0, o, l => (l, o)
 | n + 1, o, l => if (numA s o).2 = none then (l, none) else kwb s n (numA s o).2 (l ++ [[.i .i64 (numA s o).1]])
def ke (s : ByteArray) (o : Option Nat) : ByteArray × Option Nat :=
 match (numA s o).2 with
 | none => (⟨#[]⟩, none)
 | some q => if (numA s o).1 > (s.size : Int) - q then (⟨#[]⟩, none) else (s.extract q (q + (numA s o).1.toNat), some (q + (numA s o).1.toNat))
theorem kle (s : ByteArray) (o : Option Nat) (h : inB s o) : ((numA s o).1 = 0 ∧ (numA s o).2 = none) ∨ ∃ p q, o = some p ∧ (numA s o).2 = some q ∧ p < q ∧ q ≤ p + 7 ∧ q ≤ s.size ∧ 0 ≤ (numA s o).1 ∧ (numA s o).1 ≤ 562949953421311 ∧ s.extract p q = varS (numA s o).1 := by
 cases o with
 | none => exact .inl ⟨rfl, rfl⟩
 | some p =>
  have hp := h p rfl
  have hr := kud (s.extract p s.size)
  have hb := kvg (s.extract p s.size)
  have hz := knc s p
  unfold numA
  by_cases e : (rdV (s.extract p s.size)).2 = 0
  ·simp only [e, if_true]; exact .inl ⟨trivial, trivial⟩
  ·simp only [e, if_false]
   refine .inr ⟨p, _, rfl, rfl, by omega, by omega, by omega, hr.1, hr.2.1, ?_⟩
   rw [hb e, ksh s p 0 _ (by omega)]
   rfl
theorem kog (s : ByteArray) (o : Option Nat) (h : inB s o) : ((ke s o).1 = ⟨#[]⟩ ∧ (ke s o).2 = none) ∨ ∃ p q, o = some p ∧ (ke s o).2 = some q ∧ p < q ∧ q ≤ s.size ∧ s.extract p q = kic (ke s o).1 ∧ (ke s o).1.size ≤ s.size := by
 rcases kle s o h with ⟨e1, e2⟩ | ⟨p, q, rfl, e2, h1, h2, h3, h4, h5, h6⟩
 ·refine .inl ?_
  unfold ke; rw [e2]; exact ⟨rfl, rfl⟩
 ·unfold ke; rw [e2]
  by_cases g : (numA s (some p)).1 > (s.size : Int) - q
  ·simp only [g, if_true]; exact .inl ⟨trivial, trivial⟩
  ·simp only [g, if_false]
   refine .inr ⟨p, _, rfl, rfl, by omega, by omega, ?_, by rw [ByteArray.size_extract]; omega⟩
   have e7 : (((s.extract q (q + (numA s (some p)).1.toNat)).size : Nat) : Int) = (numA s (some p)).1 := by
    rw [ByteArray.size_extract]; omega
   unfold kic
   rw [e7, ← h6, knj s _ _ _ (by omega) (by omega) (by omega)]
theorem kad (s : ByteArray) (o : Option Nat) (h : inB s o) : inB s (numA s o).2 := by
 intro p hp
 rcases kle s o h with ⟨_, e2⟩ | ⟨_, q, _, e2, _, _, h3, _⟩
 ·rw [e2] at hp; cases hp
 ·rw [e2] at hp; cases hp; exact h3
theorem koc (s : ByteArray) (o : Option Nat) (h : inB s o) : inB s (ke s o).2 := by
 intro p hp
 rcases kog s o h with ⟨_, e2⟩ | ⟨_, q, _, e2, _, h3, _⟩
 ·rw [e2] at hp; cases hp
 ·rw [e2] at hp; cases hp; exact h3
theorem kfm (s : ByteArray) (hs : s.size ≤ 4000000000000000000) (n : Nat) (hn : n < 1000) (x13 : Int) (q1 : Int → Int → SV → SV → Bool → Bool → SV → List (List D) → Rs) (q2 : Int → Int → Int → Int → Bool → Bool → Bool → List (List D) → Rs) (q3 : Int → Int → SV → SV → Bool → SV → SV → List (List D) → Rs)
  (h1 : ∀ a b c d e f g l, q1 a b c d e f g l = some ([.one (.l l), .one (.i .i64 (-1))], [])) (h2 : ∀ a b c d e f g l, q2 a b c d e f g l = some ([.one (.l l), .one (.i .i64 (-1))], [])) (h3 : ∀ a b c d e f g l, q3 a b c d e f g l = some ([.one (.l l), .one (.i .i64 a)], [])) :
  ∀ (k i m : Nat) (o : Option Nat) (v1 v2 v3 v4 v5 : SV) (l : List (List D)), i + k = n → k < m → inB s o → l.length + k ≤ lim →
  la78o0 t113 s n x13 q1 q2 q3 m (pos o) i v1 v2 v3 v4 v5 l = some ([.one (.l (kwb s k o l).1), .one (.i .i64 (pos (kwb s k o l).2))], []) := by
 intro k
 induction k with
 | zero =>
  intro i m o v1 v2 v3 v4 v5 l e hm hb hl
  obtain ⟨m, rfl⟩ : ∃ m', m = m' + 1 := ⟨m - 1, by omega⟩
  have ei : decide ((i : Int) < (n : Int)) = false := by simp; omega
  simp only [la78o0, ei, h3, kwb]; simp
 | succ k ih =>
  intro i m o v1 v2 v3 v4 v5 l e hm hb hl
  obtain ⟨m, rfl⟩ : ∃ m', m = m' + 1 := ⟨m - 1, by omega⟩
  have ei : decide ((i : Int) < (n : Int)) = true := by simp; omega
  cases o with
  | none =>
   have a1 : (decide (pos none < (0 : Int)) || decide (pos none > (s.size : Int))) = true := by simp [pos]
   simp only [la78o0, ei, if_true, a1, h1, kwb, numA]
   rfl
  | some p =>
   have hp := hb p rfl
   have hr := kud (s.extract p s.size)
   have hz := knc s p
   have a1 : (decide (pos (some p) < (0 : Int)) || decide (pos (some p) > (s.size : Int))) = false := by
    rw [ktd, decide_eq_false (by omega), decide_eq_false (by omega)]; rfl
   have a2 : decide (0 ≤ pos (some p) ∧ pos (some p) ≤ (s.size : Int)) = true := decide_eq_true (by rw [ktd]; omega)
   have ex : (pos (some p)).toNat = p := by simp [pos]
   have hw := kc i (by omega)
   simp only [la78o0, ei, if_true, a1, a2, ex, kxf, gz50, gz19, gz20, ka, Bool.false_eq_true, if_false, hw]
   by_cases g : (rdV (s.extract p s.size)).2 = 0
   ·have g' : ((rdV (s.extract p s.size)).2 == 0) = true := by simpa using g
    have : (numA s (some p)).2 = none := by simp [numA, g]
    simp only [g', if_true, h2, kwb, this, pos]
   ·have g' : ((rdV (s.extract p s.size)).2 == 0) = false := by simpa using g
    have f2 : (numA s (some p)).2 = some (p + (rdV (s.extract p s.size)).2.toNat) := by simp [numA, g]
    have f1 : (numA s (some p)).1 = (rdV (s.extract p s.size)).1 := by simp [numA, g]
    have a6 : w64 (pos (some p) + (rdV (s.extract p s.size)).2) = pos (some (p + (rdV (s.extract p s.size)).2.toNat)) := by
     simp only [pos]; rw [ki _ (by omega)]; omega
    simp only [g', Bool.false_eq_true, if_false, a6]
    have hk : ((flatR 1 [[D.i .i64 (rdV (s.extract p s.size)).1]]) && decide (l.length + [[D.i .i64 (rdV (s.extract p s.size)).1]].length ≤ lim)) = true := by
     have : l.length + 1 ≤ lim := by omega
     simpa [flatR, allSc, isSc] using this
    rw [kfd hk]
    rw [ih (i + 1) m _ _ _ _ _ _ _ (by omega) (by omega) (by intro q hq; cases hq; omega) (by simp; omega)]
    simp only [kwb, f1, f2]
    simp
theorem kfi (s : ByteArray) (hs : s.size ≤ 4000000000000000000) (n : Nat) (hn : n < 1000) (o : Option Nat) (hb : inB s o) : t78 s (pos o) n = some ([.one (.l (kwb s n o []).1), .one (.i .i64 (pos (kwb s n o []).2))], []) :=
 kfm s hs n hn 0 (fun _ _ _ _ _ _ _ l0 => some ([.one (.l l0), .one (.i .i64 (-1 : Int))], [])) (fun _ _ _ _ _ _ _ l0 => some ([.one (.l l0), .one (.i .i64 (-1 : Int))], [])) (fun n0 _ _ _ _ _ _ l1 => some ([.one (.l l1), .one (.i .i64 n0)], []))
  (fun _ _ _ _ _ _ _ _ => rfl) (fun _ _ _ _ _ _ _ _ => rfl) (fun _ _ _ _ _ _ _ _ => rfl) n 0 KK o _ _ _ _ _ [] (by omega) (by rw [kl]; omega) hb (by simp [lim]; omega)
theorem kvm (s : ByteArray) (hs : s.size ≤ 4000000000000000000) (o : Option Nat) (hb : inB s o) : t77 s (pos o) = some ([.one (.s (ke s o).1), .one (.i .i64 (pos (ke s o).2))], []) := by
 have hn := kfi s hs 1 (by omega) o hb
 have hn : t78 s (pos o) 1 = _ := hn
 simp only [t77, ta77, hn, gz51, gz52, gz53, ka]
 rcases kle s o hb with ⟨f1, f2⟩ | ⟨p, q, rfl, f2, h1, h2, h3, h4, h5, h6⟩
 ·have ft : ke s o = (⟨#[]⟩, none) := by simp [ke, f2]
  have fn : kwb s 1 o [] = ([], none) := by simp [kwb, f2]
  simp only [ft, fn]
  rfl
 ·have fn : kwb s 1 (some p) [] = ([[.i .i64 (numA s (some p)).1]], some q) := by simp [kwb, f2]
  simp only [fn]
  have p1 : pos (some q) = (q : Int) := rfl
  have b1 : decide ((q : Int) < 0) = false := by simp
  have z1 : (decide ((0 : Int) ≤ 0) && decide ((0 : Int) < ([[D.i .i64 (numA s (some p)).1]].length : Int))) = true := rfl
  have z2 : [[D.i .i64 (numA s (some p)).1]].getD ((0 : Int).toNat) [] = [D.i .i64 (numA s (some p)).1] := rfl
  have z3 : (decide (1 ≤ [D.i .i64 (numA s (some p)).1].length) && isF z3 0 [D.i .i64 (numA s (some p)).1]) = true := rfl
  have z4 : asI (nthD [D.i .i64 (numA s (some p)).1] 0) = (numA s (some p)).1 := rfl
  have w1 : w64 ((s.size : Int) - (q : Int)) = (s.size : Int) - q := ki _ (by omega)
  simp only [p1, b1, z1, z2, z3, z4, w1, Bool.true_or, Bool.false_or, ka]
  by_cases g : (numA s (some p)).1 > (s.size : Int) - q
  ·have g' : decide ((numA s (some p)).1 > (s.size : Int) - q) = true := decide_eq_true g
   have ft : ke s (some p) = (⟨#[]⟩, none) := by simp only [ke, f2, if_pos g]
   simp only [g', if_true, ft]
   rfl
  ·have g' : decide ((numA s (some p)).1 > (s.size : Int) - q) = false := decide_eq_false g
   have ft : ke s (some p) = (s.extract q (q + (numA s (some p)).1.toNat), some (q + (numA s (some p)).1.toNat)) := by simp only [ke, f2, if_neg g]
   have w2 : w64 ((q : Int) + (numA s (some p)).1) = ((q + (numA s (some p)).1.toNat : Nat) : Int) := by rw [ki _ (by omega)]; omega
   have a3 : decide (0 ≤ (q : Int) ∧ (q : Int) ≤ ((q + (numA s (some p)).1.toNat : Nat) : Int) ∧ ((q + (numA s (some p)).1.toNat : Nat) : Int) ≤ (s.size : Int)) = true := decide_eq_true (by omega)
   simp only [g', Bool.false_eq_true, if_false, w2, a3, ka, Int.toNat_natCast, ft, pos]
def St (s : ByteArray) (o : Option Nat) (r : ByteArray) (b : Bool) : Prop := match o with | none => b = true | some p => b = false ∧ r = s.extract p s.size ∧ p ≤ s.size
theorem kbf {s : ByteArray} {o : Option Nat} {r : ByteArray} {b : Bool} (h : St s o r b) : inB s o := by
 intro p hp; subst hp; exact h.2.2
theorem kab (s : ByteArray) (o : Option Nat) (r : ByteArray) (b : Bool) (h : St s o r b) : ∃ r' b', t116 r b = some ([.one (.i .i64 (numA s o).1)], [[.s r', .b b']]) ∧ St s (numA s o).2 r' b' := by
 simp only [t116, ta116, kqf, gz54, gz19, gz20, ka]
 cases o with
 | none =>
  have hb : b = true := h
  subst hb
  exact ⟨r, true, by simp [numA], rfl⟩
 | some p =>
  obtain ⟨rfl, rfl, hp⟩ := h
  have hr := kud (s.extract p s.size)
  have hz := knc s p
  by_cases g : (rdV (s.extract p s.size)).2 = 0
  ·refine ⟨s.extract p s.size, true, ?_, ?_⟩
   ·simp [numA, g]
   ·simp [numA, g, St]
  ·have g' : ((rdV (s.extract p s.size)).2 == 0) = false := by simpa using g
   have a1 : decide (0 ≤ (rdV (s.extract p s.size)).2 ∧ (rdV (s.extract p s.size)).2 ≤ ((s.extract p s.size).size : Int)) = true := decide_eq_true (by omega)
   have f2 : numA s (some p) = ((rdV (s.extract p s.size)).1, some (p + (rdV (s.extract p s.size)).2.toNat)) := by simp [numA, g]
   refine ⟨s.extract (p + (rdV (s.extract p s.size)).2.toNat) s.size, false, ?_, ?_⟩
   ·simp only [g', Bool.or_self, Bool.false_eq_true, if_false, a1, ka, f2, kdl s p _ (show p + (rdV (s.extract p s.size)).2.toNat ≤ s.size by omega)]
   ·rw [f2]; exact ⟨rfl, rfl, by omega⟩
theorem gz55 : ∀ x y z, okR zr116 zo116 (some ([.one (.i .i64 x)], [[.s y, .b z]])) = true := fun _ _ _ => id rfl
theorem gz56 : ∀ x y z, okR zr119 zo119 (some ([.one (.s x)], [[.s y, .b z]])) = true := fun _ _ _ => id rfl
theorem gz57 : ∀ x y z, asI (resC (some ([.one (.i .i64 x)], [[.s y, .b z]])) 0 0) = x := fun _ _ _ => id rfl
theorem gz58 : ∀ x y z, asS (outC (some ([.one x], [[.s y, .b z]])) 0 0) = y := fun _ _ _ => id rfl
theorem gz59 : ∀ x y z, asB (outC (some ([.one x], [[.s y, .b z]])) 0 1) = z := fun _ _ _ => id rfl
theorem gz60 : ∀ x y z, asS (resC (some ([.one (.s x)], [[.s y, .b z]])) 0 0) = x := fun _ _ _ => id rfl
theorem kld (s : ByteArray) (o : Option Nat) (r : ByteArray) (b : Bool) (h : St s o r b) : ∃ r' b', t82 r b = some ([.one (.s (ke s o).1)], [[.s r', .b b']]) ∧ St s (ke s o).2 r' b' := by
 obtain ⟨r1, b1, e1, h1⟩ := kab s o r b h
 simp only [t82, ta82, e1, gz55, gz57, gz58, gz59, ka]
 have hb0 := kbf h
 rcases kle s o hb0 with ⟨g1, g2⟩ | ⟨p, q, rfl, g2, k1, k2, k3, k4, k5, k6⟩
 ·rw [g2] at h1
  have hb : b1 = true := h1
  subst hb
  have ft : ke s o = (⟨#[]⟩, none) := by simp [ke, g2]
  refine ⟨r1, true, ?_, ?_⟩
  ·simp only [t119, Bool.true_or, if_true, gz56, gz58, gz59, gz60, ka, ft]
  ·rw [ft]; rfl
 ·rw [g2] at h1
  obtain ⟨rfl, rfl, hq⟩ := h1
  have hz := knc s q
  by_cases g : (numA s (some p)).1 > (s.size : Int) - q
  ·have g' : decide ((numA s (some p)).1 > ((s.extract q s.size).size : Int)) = true := decide_eq_true (by omega)
   have ft : ke s (some p) = (⟨#[]⟩, none) := by simp only [ke, g2, if_pos g]
   refine ⟨s.extract q s.size, true, ?_, ?_⟩
   ·simp only [t119, g', Bool.or_true, if_true, gz56, gz58, gz59, gz60, ka, ft]
   ·rw [ft]; rfl
  ·have g' : decide ((numA s (some p)).1 > ((s.extract q s.size).size : Int)) = false := decide_eq_false (by omega)
   have ft : ke s (some p) = (s.extract q (q + (numA s (some p)).1.toNat), some (q + (numA s (some p)).1.toNat)) := by simp only [ke, g2, if_neg g]
   have a1 : decide (0 ≤ (0 : Int) ∧ (0 : Int) ≤ (numA s (some p)).1 ∧ (numA s (some p)).1 ≤ ((s.extract q s.size).size : Int)) = true := decide_eq_true (by omega)
   have a2 : decide (0 ≤ (numA s (some p)).1 ∧ (numA s (some p)).1 ≤ ((s.extract q s.size).size : Int)) = true := decide_eq_true (by omega)
   refine ⟨s.extract (q + (numA s (some p)).1.toNat) s.size, false, ?_, ?_⟩
   ·simp only [t119, g', Bool.or_self, Bool.false_eq_true, if_false, a1, a2, gz56, gz58, gz59, gz60, ka, ft, kdl s q _ (show q + (numA s (some p)).1.toNat ≤ s.size by omega)]
    rw [ksh s q _ _ (by omega)]
    rfl
   ·rw [ft]; exact ⟨rfl, rfl, by omega⟩
theorem kfe (a b : ByteArray) : (a.toList == b.toList) = true ↔ a = b := by
 rw [beq_iff_eq]
 constructor
 ·intro h
  rw [ByteArray.toList_eq, ByteArray.toList_eq] at h
  exact ByteArray.ext (Array.ext' h)
 ·intro h; rw [h]
theorem kve (s : ByteArray) (q : Nat) (h : q ≤ s.size) : s.extract 0 q = s ↔ q = s.size := by
 constructor
 ·intro e
  have := congrArg ByteArray.size e
  rw [ByteArray.size_extract] at this; omega
 ·intro e; subst e; exact kzd s
theorem kim (s : ByteArray) (q : Nat) (h : q ≤ s.size) : s.extract q s.size = ⟨#[]⟩ ↔ q = s.size := by
 constructor
 ·intro e
  have := congrArg ByteArray.size e
  rw [ByteArray.size_extract] at this
  have e0 : (⟨#[]⟩ : ByteArray).size = 0 := rfl
  omega
 ·intro e; subst e
  apply ByteArray.ext
  rw [ByteArray.data_extract]
  simp
theorem kjd (s : ByteArray) (o : Option Nat) (h : inB s o) : 0 ≤ (numA s o).1 ∧ (numA s o).1 ≤ 562949953421311 := by
 rcases kle s o h with ⟨e1, e2⟩ | ⟨p, q, _, _, _, _, _, h4, h5, _⟩
 ·rw [e1]; omega
 ·exact ⟨h4, h5⟩
theorem krc (s : ByteArray) (o : Option Nat) (h : inB s o) (q : Nat) (e : (numA s o).2 = some q) : ∃ p, o = some p ∧ p < q ∧ q ≤ s.size ∧ s.extract p q = varS (numA s o).1 := by
 rcases kle s o h with ⟨e1, e2⟩ | ⟨p, q', e1, e2, h1, h2, h3, _, _, h6⟩
 ·rw [e2] at e; cases e
 ·rw [e2] at e; cases e; exact ⟨p, e1, h1, h3, h6⟩
theorem kke (s : ByteArray) (o : Option Nat) (h : inB s o) (q : Nat) (e : (ke s o).2 = some q) : ∃ p, o = some p ∧ p < q ∧ q ≤ s.size ∧ s.extract p q = kic (ke s o).1 := by
 rcases kog s o h with ⟨e1, e2⟩ | ⟨p, q', e1, e2, h1, h2, h3, _⟩
 ·rw [e2] at e; cases e
 ·rw [e2] at e; cases e; exact ⟨p, e1, h1, h2, h3⟩
theorem kge (s : ByteArray) (o : Option Nat) (h : inB s o) : (ke s o).1.size ≤ s.size := by
 rcases kog s o h with ⟨e1, _⟩ | ⟨_, _, _, _, _, _, _, h4⟩
 ·rw [e1]; exact Nat.zero_le _
 ·exact h4
theorem inB0 (s : ByteArray) : inB s (some 0) := by intro p hp; cases hp; omega

theorem wfN (n : Int) (h : -9223372036854775808 ≤ n ∧ n ≤ 9223372036854775807) : (Lit.int .i64 n).wf = true := by
 have : IntKind.wrap .i64 n = n := ki n h
 simp [Lit.wf, this]
 exact h
def itN {α : Type} (f : α → α) : Nat → α → α
 | 0, a => a
 | k + 1, a => f (itN f k a)
abbrev LO := List (List D) × Option Nat
theorem kob {f : LO → LO} (h : ∀ x, x.2 = none → (f x).2 = none) : ∀ (k : Nat) (x : LO), x.2 = none → (itN f k x).2 = none
 | 0, _, e => e
 | k + 1, x, e => h _ (kob h k x e)
theorem kin {f : LO → LO} (h : ∀ x, x.2 = none → (f x).2 = none) : ∀ (k j : Nat) (x : LO), (itN f (k + j) x).2 ≠ none → (itN f k x).2 ≠ none := by
 intro k j x
 induction j with
 | zero => exact id
 | succ j ih => intro e q; exact e (h _ (by apply Classical.byContradiction; intro g; exact ih g q))
theorem kjb {f : LO → LO} (h : ∀ x, (f x).1.length = x.1.length + 1) : ∀ (k : Nat) (x : LO), (itN f k x).1.length = x.1.length + k
 | 0, _ => rfl
 | k + 1, x => by rw [itN, h, kjb h k x]; omega
theorem kwc {f : LO → LO} {P : LO → Prop} (h : ∀ x, P x → P (f x)) : ∀ (k : Nat) (x : LO), P x → P (itN f k x)
 | 0, _, e => e
 | k + 1, x, e => h _ (kwc h k x e)
def posN (s : ByteArray) : Nat → Option Nat → Option Nat
 | 0, o => o
 | k + 1, o => (numA s (posN s k o)).2
def valN (s : ByteArray) (k : Nat) (o : Option Nat) : Int := (numA s (posN s k o)).1
theorem kmd (s : ByteArray) : ∀ (k : Nat) (o : Option Nat), posN s (k + 1) o = posN s k (numA s o).2
 | 0, _ => rfl
 | k + 1, o => by rw [posN, kmd s k o]; rfl
theorem ktl (s : ByteArray) (k : Nat) (o : Option Nat) : valN s (k + 1) o = valN s k (numA s o).2 := by
 unfold valN; rw [kmd]
theorem kye (s : ByteArray) : ∀ (k : Nat), posN s k none = none
 | 0 => rfl
 | k + 1 => by rw [posN, kye s k]; rfl
theorem kyb {s : ByteArray} {o : Option Nat} (h : inB s o) : ∀ k, inB s (posN s k o)
 | 0 => h
 | k + 1 => kad s _ (kyb h k)
theorem kgi (s : ByteArray) : ∀ (n : Nat) (o : Option Nat) (l : List (List D)), posN s n o ≠ none → kwb s n o l = (l ++ (List.range n).map (fun j => [D.i .i64 (valN s j o)]), posN s n o)
 | 0, o, l, _ => by simp [kwb, posN]
 | n + 1, o, l, h => by
  rw [kmd] at h
  have h0 : (numA s o).2 ≠ none := by intro e; rw [e, kye] at h; exact h rfl
  rw [kwb, if_neg h0, kgi s n _ _ h, kmd, List.range_succ_eq_map, List.map_cons, List.map_map, List.append_assoc]
  congr 2
  ·simp only [List.singleton_append, List.cons.injEq]
   refine ⟨⟨rfl, trivial⟩, List.map_congr_left fun j _ => ?_⟩
   simp only [Function.comp, ktl]
theorem kki (s : ByteArray) : ∀ (n : Nat) (o : Option Nat) (l : List (List D)), posN s n o = none → (kwb s n o l).2 = none
 | 0, o, l, h => h
 | n + 1, o, l, h => by
  rw [kmd] at h
  rw [kwb]
  by_cases e : (numA s o).2 = none
  ·rw [if_pos e]
  ·rw [if_neg e]; exact kki s n _ _ h
theorem kib {s : ByteArray} {o : Option Nat} (h : inB s o) (k : Nat) : 0 ≤ valN s k o ∧ valN s k o ≤ 562949953421311 := kjd s _ (kyb h k)
theorem kx {s : ByteArray} {p q r : Nat} {x y : ByteArray} (h1 : s.extract p q = x) (h2 : s.extract q r = y) (a : p ≤ q) (b : q ≤ r) (c : r ≤ s.size) : s.extract p r = x ++ y := by
 rw [← h1, ← h2, knj s _ _ _ a b c]
theorem kfo (s : ByteArray) (p : Nat) : s.extract p p = ⟨#[]⟩ := by
 apply ByteArray.ext
 rw [ByteArray.data_extract]
 simp [Nat.min_le_left]
def kf (s : ByteArray) (o : Option Nat) (n : Int) : Int × Option Nat := if (numA s o).1 > n then (0, none) else numA s o
theorem ksc {s : ByteArray} {o : Option Nat} {n : Int} (h : inB s o) : inB s (kf s o n).2 := by
 unfold kf; split
 ·intro p hp; cases hp
 ·exact kad s o h
theorem kee (s : ByteArray) (n : Int) : (kf s none n).2 = none := by
 unfold kf; split <;> rfl
theorem kub {s : ByteArray} {o : Option Nat} {n : Int} (h : inB s o) (hn : 0 ≤ n) : 0 ≤ (kf s o n).1 ∧ (kf s o n).1 ≤ n := by
 have := kjd s o h
 unfold kf; split <;> omega
theorem kze {s : ByteArray} {o : Option Nat} {n : Int} (h : inB s o) {q : Nat} (e : (kf s o n).2 = some q) : ∃ p, o = some p ∧ p < q ∧ q ≤ s.size ∧ s.extract p q = varS (kf s o n).1 := by
 unfold kf at e ⊢; split at e
 ·cases e
 ·rename_i g; simp only [g, if_false]; exact krc s o h q e
theorem kwe (s : ByteArray) : ke s none = (⟨#[]⟩, none) := rfl
theorem kfn (s : ByteArray) : numA s none = (0, none) := rfl
structure OkR (sh : List Sh) (s : ByteArray) (x : LO) : Prop where
 b : inB s x.2
 t : ∀ r ∈ x.1, typL sh r ∧ szdL sh r
theorem OkR.nil {sh : List Sh} {s : ByteArray} {o : Option Nat} (h : inB s o) : OkR sh s ([], o) := ⟨h, by simp⟩
theorem OkR.step {sh : List Sh} {s : ByteArray} {x : LO} {r : List D} {o : Option Nat} (h : OkR sh s x) (ho : inB s o) (h1 : typL sh r) (h2 : szdL sh r) : OkR sh s (x.1 ++ [r], o) := by
 refine ⟨ho, ?_⟩
 intro e he
 rcases List.mem_append.1 he with he | he
 ·exact h.t e he
 ·simp only [List.mem_singleton] at he; subst he; exact ⟨h1, h2⟩
theorem klb (n : Int) (h : 0 ≤ n ∧ n ≤ 562949953421311) : (Lit.int .i64 n).wf = true := wfN n (by omega)
def kcd (f : List D → ByteArray) (s : ByteArray) (o0 : Option Nat) (x : LO) : Prop := ∀ q, x.2 = some q → ∃ p, o0 = some p ∧ p ≤ q ∧ q ≤ s.size ∧ s.extract p q = catL f x.1
theorem kcd.nil {f : List D → ByteArray} {s : ByteArray} {o : Option Nat} (h : inB s o) : kcd f s o ([], o) := by
 intro q e
 exact ⟨q, e, Nat.le_refl q, h q e, kfo s q⟩
theorem kcd.step {f : List D → ByteArray} {s : ByteArray} {o : Option Nat} {x : LO} {r : List D} {o' : Option Nat} (h : kcd f s o x) (hr : ∀ q, o' = some q → ∃ p, x.2 = some p ∧ p ≤ q ∧ q ≤ s.size ∧ s.extract p q = f r) : kcd f s o (x.1 ++ [r], o') := by
 intro q e
 obtain ⟨p1, e1, a1, b1, c1⟩ := hr q e
 obtain ⟨p, e0, a0, b0, c0⟩ := h p1 e1
 refine ⟨p, e0, by omega, b1, ?_⟩
 rw [kx c0 c1 a0 a1 b1, kqg]
 congr 1
 simp only [catL, kre]
theorem kfb {s : ByteArray} {o : Option Nat} (h : inB s o) (k : Nat) {q : Nat} (e : posN s (k + 1) o = some q) : ∃ p, posN s k o = some p ∧ p < q ∧ q ≤ s.size ∧ s.extract p q = varS (valN s k o) := krc s _ (kyb h k) q e
theorem lim1 {n : Nat} (h : n ≤ 1000) : decide (n + 1 ≤ lim) = true := decide_eq_true (by unfold lim; omega)
theorem kkd (r : List D) : ([r] : List (List D)).length = 1 := rfl
theorem fo1 (x y z) : asS (outC (some ([.one x], [[.s y, .b z]])) 0 0) = y := rfl
theorem fo2 (x y z) : asB (outC (some ([.one x], [[.s y, .b z]])) 0 1) = z := rfl
theorem fi (x : Int) (y) : asI (resC (some ([.one (.i .i64 x)], y)) 0 0) = x := rfl
theorem fs (x : ByteArray) (y) : asS (resC (some ([.one (.s x)], y)) 0 0) = x := rfl
theorem kif (x y z) : okR zr116 zo116 (some ([.one (.i .i64 x)], [[.s y, .b z]])) = true := rfl
theorem kbj (x y z) : okR zr82 zo82 (some ([.one (.s x)], [[.s y, .b z]])) = true := rfl
theorem kfh (x y z) : okR zr117 zo117 (some ([.one (.i .i64 x)], [[.s y, .b z]])) = true := rfl
theorem kue (s : ByteArray) (o : Option Nat) (r : ByteArray) (b : Bool) (n : Int) (h : St s o r b) : ∃ r' b', t117 r b n = some ([.one (.i .i64 (kf s o n).1)], [[.s r', .b b']]) ∧ St s (kf s o n).2 r' b' := by
 obtain ⟨r1, b1, e1, h1⟩ := kab s o r b h
 simp only [t117, ta117, e1, kif, fi, fo1, fo2, ka, kf]
 by_cases g : (numA s o).1 > n
 ·simp only [g, decide_true, if_true]; exact ⟨r1, true, rfl, rfl⟩
 ·simp only [g, decide_false, Bool.false_eq_true, if_false]; exact ⟨r1, b1, rfl, h1⟩
theorem krn {s : ByteArray} {o : Option Nat} {r : ByteArray} {b : Bool} (h : St s o r b) : (b || !(r.toList == (⟨#[]⟩ : ByteArray).toList)) = !decide (o = some s.size) := by
 cases o with
 | none => have : b = true := h; simp [this]
 | some q =>
  obtain ⟨rfl, rfl, hqs⟩ := h
  have : ((s.extract q s.size).toList == (⟨#[]⟩ : ByteArray).toList) = decide (q = s.size) := by
   rw [Bool.eq_iff_iff, kfe, kim s q hqs]; simp
  rw [this]; simp
noncomputable def oz : Option Nat := Classical.choose (⟨some 0, rfl⟩ : ∃ o : Option Nat, o = some 0)
theorem kyf : oz = some 0 := Classical.choose_spec (⟨some 0, rfl⟩ : ∃ o : Option Nat, o = some 0)
theorem ksn (s : ByteArray) : St s oz s false := by rw [kyf]; exact ⟨rfl, (kzd s).symm, Nat.zero_le _⟩
theorem isI (a : Int) : (decide (1 ≤ ([D.i .i64 a] : List D).length) && isF z3 0 [D.i .i64 a]) = true := id rfl
theorem asI1 (a : Int) : asI (nthD [D.i .i64 a] 0) = a := id rfl
theorem lA70 (a0 a1 a2 a3 a4 a5 a6 : Int) : (decide ((0 : Int) ≤ (0 : Int)) && decide ((0 : Int) < (([[D.i .i64 a0], [D.i .i64 a1], [D.i .i64 a2], [D.i .i64 a3], [D.i .i64 a4], [D.i .i64 a5], [D.i .i64 a6]] : List (List D)).length : Int))) = true := id rfl
theorem lB70 (a0 a1 a2 a3 a4 a5 a6 : Int) : ([[D.i .i64 a0], [D.i .i64 a1], [D.i .i64 a2], [D.i .i64 a3], [D.i .i64 a4], [D.i .i64 a5], [D.i .i64 a6]] : List (List D)).getD ((0 : Int).toNat) [] = [D.i .i64 a0] := id rfl
theorem lA71 (a0 a1 a2 a3 a4 a5 a6 : Int) : (decide ((0 : Int) ≤ (1 : Int)) && decide ((1 : Int) < (([[D.i .i64 a0], [D.i .i64 a1], [D.i .i64 a2], [D.i .i64 a3], [D.i .i64 a4], [D.i .i64 a5], [D.i .i64 a6]] : List (List D)).length : Int))) = true := id rfl
theorem lB71 (a0 a1 a2 a3 a4 a5 a6 : Int) : ([[D.i .i64 a0], [D.i .i64 a1], [D.i .i64 a2], [D.i .i64 a3], [D.i .i64 a4], [D.i .i64 a5], [D.i .i64 a6]] : List (List D)).getD ((1 : Int).toNat) [] = [D.i .i64 a1] := id rfl
theorem lA72 (a0 a1 a2 a3 a4 a5 a6 : Int) : (decide ((0 : Int) ≤ (2 : Int)) && decide ((2 : Int) < (([[D.i .i64 a0], [D.i .i64 a1], [D.i .i64 a2], [D.i .i64 a3], [D.i .i64 a4], [D.i .i64 a5], [D.i .i64 a6]] : List (List D)).length : Int))) = true := id rfl
theorem lB72 (a0 a1 a2 a3 a4 a5 a6 : Int) : ([[D.i .i64 a0], [D.i .i64 a1], [D.i .i64 a2], [D.i .i64 a3], [D.i .i64 a4], [D.i .i64 a5], [D.i .i64 a6]] : List (List D)).getD ((2 : Int).toNat) [] = [D.i .i64 a2] := id rfl
theorem lA73 (a0 a1 a2 a3 a4 a5 a6 : Int) : (decide ((0 : Int) ≤ (3 : Int)) && decide ((3 : Int) < (([[D.i .i64 a0], [D.i .i64 a1], [D.i .i64 a2], [D.i .i64 a3], [D.i .i64 a4], [D.i .i64 a5], [D.i .i64 a6]] : List (List D)).length : Int))) = true := id rfl
theorem lB73 (a0 a1 a2 a3 a4 a5 a6 : Int) : ([[D.i .i64 a0], [D.i .i64 a1], [D.i .i64 a2], [D.i .i64 a3], [D.i .i64 a4], [D.i .i64 a5], [D.i .i64 a6]] : List (List D)).getD ((3 : Int).toNat) [] = [D.i .i64 a3] := id rfl
theorem lA74 (a0 a1 a2 a3 a4 a5 a6 : Int) : (decide ((0 : Int) ≤ (4 : Int)) && decide ((4 : Int) < (([[D.i .i64 a0], [D.i .i64 a1], [D.i .i64 a2], [D.i .i64 a3], [D.i .i64 a4], [D.i .i64 a5], [D.i .i64 a6]] : List (List D)).length : Int))) = true := id rfl
theorem lB74 (a0 a1 a2 a3 a4 a5 a6 : Int) : ([[D.i .i64 a0], [D.i .i64 a1], [D.i .i64 a2], [D.i .i64 a3], [D.i .i64 a4], [D.i .i64 a5], [D.i .i64 a6]] : List (List D)).getD ((4 : Int).toNat) [] = [D.i .i64 a4] := id rfl
theorem lA75 (a0 a1 a2 a3 a4 a5 a6 : Int) : (decide ((0 : Int) ≤ (5 : Int)) && decide ((5 : Int) < (([[D.i .i64 a0], [D.i .i64 a1], [D.i .i64 a2], [D.i .i64 a3], [D.i .i64 a4], [D.i .i64 a5], [D.i .i64 a6]] : List (List D)).length : Int))) = true := id rfl
theorem lB75 (a0 a1 a2 a3 a4 a5 a6 : Int) : ([[D.i .i64 a0], [D.i .i64 a1], [D.i .i64 a2], [D.i .i64 a3], [D.i .i64 a4], [D.i .i64 a5], [D.i .i64 a6]] : List (List D)).getD ((5 : Int).toNat) [] = [D.i .i64 a5] := id rfl
theorem lA76 (a0 a1 a2 a3 a4 a5 a6 : Int) : (decide ((0 : Int) ≤ (6 : Int)) && decide ((6 : Int) < (([[D.i .i64 a0], [D.i .i64 a1], [D.i .i64 a2], [D.i .i64 a3], [D.i .i64 a4], [D.i .i64 a5], [D.i .i64 a6]] : List (List D)).length : Int))) = true := id rfl
theorem lB76 (a0 a1 a2 a3 a4 a5 a6 : Int) : ([[D.i .i64 a0], [D.i .i64 a1], [D.i .i64 a2], [D.i .i64 a3], [D.i .i64 a4], [D.i .i64 a5], [D.i .i64 a6]] : List (List D)).getD ((6 : Int).toNat) [] = [D.i .i64 a6] := id rfl
theorem lA50 (a0 a1 a2 a3 a4 : Int) : (decide ((0 : Int) ≤ (0 : Int)) && decide ((0 : Int) < (([[D.i .i64 a0], [D.i .i64 a1], [D.i .i64 a2], [D.i .i64 a3], [D.i .i64 a4]] : List (List D)).length : Int))) = true := id rfl
theorem lB50 (a0 a1 a2 a3 a4 : Int) : ([[D.i .i64 a0], [D.i .i64 a1], [D.i .i64 a2], [D.i .i64 a3], [D.i .i64 a4]] : List (List D)).getD ((0 : Int).toNat) [] = [D.i .i64 a0] := id rfl
theorem lA51 (a0 a1 a2 a3 a4 : Int) : (decide ((0 : Int) ≤ (1 : Int)) && decide ((1 : Int) < (([[D.i .i64 a0], [D.i .i64 a1], [D.i .i64 a2], [D.i .i64 a3], [D.i .i64 a4]] : List (List D)).length : Int))) = true := id rfl
theorem lB51 (a0 a1 a2 a3 a4 : Int) : ([[D.i .i64 a0], [D.i .i64 a1], [D.i .i64 a2], [D.i .i64 a3], [D.i .i64 a4]] : List (List D)).getD ((1 : Int).toNat) [] = [D.i .i64 a1] := id rfl
theorem lA52 (a0 a1 a2 a3 a4 : Int) : (decide ((0 : Int) ≤ (2 : Int)) && decide ((2 : Int) < (([[D.i .i64 a0], [D.i .i64 a1], [D.i .i64 a2], [D.i .i64 a3], [D.i .i64 a4]] : List (List D)).length : Int))) = true := id rfl
theorem lB52 (a0 a1 a2 a3 a4 : Int) : ([[D.i .i64 a0], [D.i .i64 a1], [D.i .i64 a2], [D.i .i64 a3], [D.i .i64 a4]] : List (List D)).getD ((2 : Int).toNat) [] = [D.i .i64 a2] := id rfl
theorem lA53 (a0 a1 a2 a3 a4 : Int) : (decide ((0 : Int) ≤ (3 : Int)) && decide ((3 : Int) < (([[D.i .i64 a0], [D.i .i64 a1], [D.i .i64 a2], [D.i .i64 a3], [D.i .i64 a4]] : List (List D)).length : Int))) = true := id rfl
theorem lB53 (a0 a1 a2 a3 a4 : Int) : ([[D.i .i64 a0], [D.i .i64 a1], [D.i .i64 a2], [D.i .i64 a3], [D.i .i64 a4]] : List (List D)).getD ((3 : Int).toNat) [] = [D.i .i64 a3] := id rfl
theorem lA54 (a0 a1 a2 a3 a4 : Int) : (decide ((0 : Int) ≤ (4 : Int)) && decide ((4 : Int) < (([[D.i .i64 a0], [D.i .i64 a1], [D.i .i64 a2], [D.i .i64 a3], [D.i .i64 a4]] : List (List D)).length : Int))) = true := id rfl
theorem lB54 (a0 a1 a2 a3 a4 : Int) : ([[D.i .i64 a0], [D.i .i64 a1], [D.i .i64 a2], [D.i .i64 a3], [D.i .i64 a4]] : List (List D)).getD ((4 : Int).toNat) [] = [D.i .i64 a4] := id rfl
theorem lA30 (a0 a1 a2 : Int) : (decide ((0 : Int) ≤ (0 : Int)) && decide ((0 : Int) < (([[D.i .i64 a0], [D.i .i64 a1], [D.i .i64 a2]] : List (List D)).length : Int))) = true := id rfl
theorem lB30 (a0 a1 a2 : Int) : ([[D.i .i64 a0], [D.i .i64 a1], [D.i .i64 a2]] : List (List D)).getD ((0 : Int).toNat) [] = [D.i .i64 a0] := id rfl
theorem lA31 (a0 a1 a2 : Int) : (decide ((0 : Int) ≤ (1 : Int)) && decide ((1 : Int) < (([[D.i .i64 a0], [D.i .i64 a1], [D.i .i64 a2]] : List (List D)).length : Int))) = true := id rfl
theorem lB31 (a0 a1 a2 : Int) : ([[D.i .i64 a0], [D.i .i64 a1], [D.i .i64 a2]] : List (List D)).getD ((1 : Int).toNat) [] = [D.i .i64 a1] := id rfl
theorem lA32 (a0 a1 a2 : Int) : (decide ((0 : Int) ≤ (2 : Int)) && decide ((2 : Int) < (([[D.i .i64 a0], [D.i .i64 a1], [D.i .i64 a2]] : List (List D)).length : Int))) = true := id rfl
theorem lB32 (a0 a1 a2 : Int) : ([[D.i .i64 a0], [D.i .i64 a1], [D.i .i64 a2]] : List (List D)).getD ((2 : Int).toNat) [] = [D.i .i64 a2] := id rfl
theorem lA20 (a0 a1 : Int) : (decide ((0 : Int) ≤ (0 : Int)) && decide ((0 : Int) < (([[D.i .i64 a0], [D.i .i64 a1]] : List (List D)).length : Int))) = true := id rfl
theorem lB20 (a0 a1 : Int) : ([[D.i .i64 a0], [D.i .i64 a1]] : List (List D)).getD ((0 : Int).toNat) [] = [D.i .i64 a0] := id rfl
theorem lA21 (a0 a1 : Int) : (decide ((0 : Int) ≤ (1 : Int)) && decide ((1 : Int) < (([[D.i .i64 a0], [D.i .i64 a1]] : List (List D)).length : Int))) = true := id rfl
theorem lB21 (a0 a1 : Int) : ([[D.i .i64 a0], [D.i .i64 a1]] : List (List D)).getD ((1 : Int).toNat) [] = [D.i .i64 a1] := id rfl
theorem lA10 (a0 : Int) : (decide ((0 : Int) ≤ (0 : Int)) && decide ((0 : Int) < (([[D.i .i64 a0]] : List (List D)).length : Int))) = true := id rfl
theorem lB10 (a0 : Int) : ([[D.i .i64 a0]] : List (List D)).getD ((0 : Int).toNat) [] = [D.i .i64 a0] := id rfl
theorem vs_w (x y) : okR zr78 zo78 (some ([.one (.l x), .one (.i .i64 y)], [])) = true := id rfl
theorem vs_l (x y) : asL (resC (some ([.one (.l x), .one (.i .i64 y)], [])) 0 0) = x := id rfl
theorem vs_i (x) (y : Int) : asI (resC (some ([.one (.l x), .one (.i .i64 y)], [])) 1 0) = y := id rfl
theorem kuc {s : ByteArray} (hs : s.size ≤ 1048576) (n : Nat) (hn : n < 1000) {o : Option Nat} (hb : inB s o) :
  (posN s n o = none ∧ ∃ L, t78 s (pos o) (n : Int) = some ([.one (.l L), .one (.i .i64 (-1))], [])) ∨
  ∃ q : Nat, posN s n o = some q ∧ q ≤ s.size ∧ t78 s (pos o) (n : Int) = some ([.one (.l ((List.range n).map fun j => [D.i .i64 (valN s j o)])), .one (.i .i64 (q : Int))], []) := by
 have h := kfi s (by omega) n hn o hb
 cases e : posN s n o with
 | none =>
  refine .inl ⟨rfl, (kwb s n o []).1, ?_⟩
  rw [h, kki s n o [] e]; rfl
 | some q =>
  refine .inr ⟨q, rfl, kyb hb n q e, ?_⟩
  rw [h, kgi s n o [] (by rw [e]; simp), e]; rfl
theorem ta_w (x y) : okR zr77 zo77 (some ([.one (.s x), .one (.i .i64 y)], [])) = true := id rfl
theorem ta_s (x) (y : Int) : asS (resC (some ([.one (.s x), .one (.i .i64 y)], [])) 0 0) = x := id rfl
theorem ta_i (x) (y : Int) : asI (resC (some ([.one (.s x), .one (.i .i64 y)], [])) 1 0) = y := id rfl
theorem kdf {s : ByteArray} (hs : s.size ≤ 1048576) {o : Option Nat} (hb : inB s o) : t77 s (pos o) = some ([.one (.s (ke s o).1), .one (.i .i64 (pos (ke s o).2))], []) := kvm s (by omega) o hb
theorem krb (q : Nat) : decide ((q : Int) < 0) = false := by simp
theorem khc : decide ((-1 : Int) < 0) = true := id rfl
theorem kxg : pos none = -1 := id rfl
theorem kcg {s : ByteArray} {o : Option Nat} {n : Int} (h : ¬ (numA s o).1 > n) : kf s o n = numA s o := by unfold kf; rw [if_neg h]
theorem keg {s : ByteArray} {o : Option Nat} {n : Int} (h : (numA s o).1 > n) : (kf s o n).2 = none := by unfold kf; rw [if_pos h]
theorem kme {f : LO → LO} (h : ∀ x, x.2 = none → (f x).2 = none) {k i : Nat} {x : LO} (hi : i < k) (e : (f (itN f i x)).2 = none) : (itN f k x).2 = none := by
 apply Classical.byContradiction
 intro g
 exact kin h (i + 1) (k - (i + 1)) x (by rw [show i + 1 + (k - (i + 1)) = k by omega]; exact g) e
def kp (s : ByteArray) (x : LO) : LO := (x.1 ++ [[.s (ke s x.2).1, .i .i64 (numA s (ke s x.2).2).1]], (numA s (ke s x.2).2).2)
theorem kvc (s : ByteArray) : ∀ x : LO, x.2 = none → (kp s x).2 = none := by
 intro x e; unfold kp; rw [e]; rfl
theorem kxd (s : ByteArray) (x : LO) : (kp s x).1.length = x.1.length + 1 := by simp [kp]
def inoA (s : ByteArray) (o : Option Nat) : List D × Option Nat :=
 let d := ke s (posN s 7 o)
 let m := kf s d.2 12
 let t := itN (kp s) m.1.toNat ([], m.2)
 ([.i .i64 (valN s 0 o), .i .i64 (valN s 1 o), .i .i64 (valN s 2 o), .i .i64 (valN s 3 o), .i .i64 (valN s 4 o), .s d.1, .l t.1, .i .i64 (valN s 5 o), .i .i64 (valN s 6 o)], t.2)
def kk (s : ByteArray) (x : LO) : LO := (x.1 ++ [(inoA s x.2).1], (inoA s x.2).2)
theorem klm (s : ByteArray) : (inoA s none).2 = none := by
 simp only [inoA, kye, kwe, kee]
 exact kob (kvc s) _ _ rfl
theorem kne (s : ByteArray) : ∀ x : LO, x.2 = none → (kk s x).2 = none := by
 intro x e; unfold kk; rw [e]; exact klm s
theorem kvd (s : ByteArray) (x : LO) : (kk s x).1.length = x.1.length + 1 := by simp [kk]
theorem kef {s : ByteArray} (hs : s.size ≤ 1048576) : ∀ x : LO, OkR ks s x → OkR ks s (kp s x) := by
 intro x h
 have hz := kge s _ h.b
 have hm : 1048576 ≤ maxLen := by decide
 have hn := kjd s _ (koc s _ h.b)
 refine h.step (kad s _ (koc s _ h.b)) ⟨_, _, rfl, ⟨_, rfl, by omega⟩, _, _, rfl, ⟨_, rfl, klb _ hn⟩, rfl⟩ ⟨by show (ke s x.2).1.size ≤ 1048576; omega, trivial, trivial⟩
theorem kco {s : ByteArray} (hs : s.size ≤ 1048576) {o : Option Nat} (h : inB s o) : inB s (inoA s o).2 ∧ typL kb (inoA s o).1 ∧ szdL kb (inoA s o).1 := by
 have h7 := kyb h 7
 have hd := koc s _ h7
 have hm := ksc (n := 12) hd
 have hmr := kub (n := 12) hd (by omega)
 have ht := kwc (P := OkR ks s) (kef hs) (kf s (ke s (posN s 7 o)).2 12).1.toNat _ (OkR.nil hm)
 have hl := kjb (kxd s) (kf s (ke s (posN s 7 o)).2 12).1.toNat ([], (kf s (ke s (posN s 7 o)).2 12).2)
 simp only [List.length_nil] at hl
 have hz := kge s _ h7
 have hx : 1048576 ≤ maxLen := by decide
 refine ⟨ht.b, ?_, ?_⟩
 ·exact ⟨_, _, rfl, ⟨_, rfl, klb _ (kib h 0)⟩, _, _, rfl, ⟨_, rfl, klb _ (kib h 1)⟩, _, _, rfl, ⟨_, rfl, klb _ (kib h 2)⟩, _, _, rfl, ⟨_, rfl, klb _ (kib h 3)⟩, _, _, rfl, ⟨_, rfl, klb _ (kib h 4)⟩, _, _, rfl, ⟨_, rfl, by omega⟩, _, _, rfl, ⟨_, rfl, by omega, fun r hr => (ht.t r hr).1⟩, _, _, rfl, ⟨_, rfl, klb _ (kib h 5)⟩, _, _, rfl, ⟨_, rfl, klb _ (kib h 6)⟩, rfl⟩
 ·exact ⟨trivial, trivial, trivial, trivial, trivial, by show (ke s (posN s 7 o)).1.size ≤ 1048576; omega, ⟨by show (itN (kp s) _ _).1.length ≤ 1048576; omega, fun r hr => (ht.t r hr).2⟩, trivial, trivial, trivial⟩
theorem khf {s : ByteArray} (hs : s.size ≤ 1048576) : ∀ x : LO, OkR kb s x → OkR kb s (kk s x) := by
 intro x h
 obtain ⟨a, b, c⟩ := kco hs h.b
 exact h.step a b c
theorem kmn {s : ByteArray} {o : Option Nat} (h : inB s o) (q : Nat) (e : (numA s (ke s o).2).2 = some q) : ∃ p, o = some p ∧ p ≤ q ∧ q ≤ s.size ∧ s.extract p q = dirS [.s (ke s o).1, .i .i64 (numA s (ke s o).2).1] := by
 obtain ⟨p1, e1, a1, b1, c1⟩ := krc s _ (koc s _ h) q e
 obtain ⟨p, e0, a0, b0, c0⟩ := kke s _ h p1 e1
 exact ⟨p, e0, by omega, b1, kx c0 c1 (by omega) (by omega) b1⟩
theorem kji {s : ByteArray} (hs : s.size ≤ 1048576) {o : Option Nat} (h : inB s o) : ∀ k, kcd dirS s o (itN (kp s) k ([], o))
 | 0 => kcd.nil h
 | k + 1 => (kji hs h k).step (kmn (kwc (P := OkR ks s) (kef hs) k _ (OkR.nil h)).b)
theorem kqm {s : ByteArray} (hs : s.size ≤ 1048576) {o : Option Nat} (h : inB s o) (q : Nat) (e : (inoA s o).2 = some q) : ∃ p, o = some p ∧ p ≤ q ∧ q ≤ s.size ∧ s.extract p q = inoS (inoA s o).1 := by
 have h7 := kyb h 7
 have hd := koc s _ h7
 have hm := ksc (n := 12) hd
 have hmr := kub (n := 12) hd (by omega)
 obtain ⟨p9, e9, a9, b9, c9⟩ := kji hs hm (kf s (ke s (posN s 7 o)).2 12).1.toNat q e
 obtain ⟨p8, e8, a8, b8, c8⟩ := kze hd e9
 obtain ⟨p7, e7, a7, b7, c7⟩ := kke s _ h7 p8 e8
 obtain ⟨p6, e6, a6, b6, c6⟩ := kfb h 6 e7
 obtain ⟨p5, e5, a5, b5, c5⟩ := kfb h 5 e6
 obtain ⟨p4, e4, a4, b4, c4⟩ := kfb h 4 e5
 obtain ⟨p3, e3, a3, b3, c3⟩ := kfb h 3 e4
 obtain ⟨p2, e2, a2, b2, c2⟩ := kfb h 2 e3
 obtain ⟨p1, e1, a1, b1, c1⟩ := kfb h 1 e2
 obtain ⟨p0, e0, a0, b0, c0⟩ := kfb h 0 e1
 have hl := kjb (kxd s) (kf s (ke s (posN s 7 o)).2 12).1.toNat ([], (kf s (ke s (posN s 7 o)).2 12).2)
 simp only [List.length_nil] at hl
 have hlen : (((itN (kp s) (kf s (ke s (posN s 7 o)).2 12).1.toNat ([], (kf s (ke s (posN s 7 o)).2 12).2)).1.length : Nat) : Int) = (kf s (ke s (posN s 7 o)).2 12).1 := by omega
 refine ⟨p0, e0, by omega, b9, ?_⟩
 have c9' : s.extract p9 q = catL dirS (itN (kp s) (kf s (ke s (posN s 7 o)).2 12).1.toNat ([], (kf s (ke s (posN s 7 o)).2 12).2)).1 := c9
 rw [← hlen] at c8
 rw [kx c0 (kx c1 (kx c2 (kx c3 (kx c4 (kx c5 (kx c6 (kx c7 (kx c8 c9' (by omega) (by omega) b9) (by omega) (by omega) b9) (by omega) (by omega) b9) (by omega) (by omega) b9) (by omega) (by omega) b9) (by omega) (by omega) b9) (by omega) (by omega) b9) (by omega) (by omega) b9) (by omega) (by omega) b9]
 rfl
theorem kdi {s : ByteArray} (hs : s.size ≤ 1048576) {o : Option Nat} (h : inB s o) : ∀ k, kcd inoS s o (itN (kk s) k ([], o))
 | 0 => kcd.nil h
 | k + 1 => (kdi hs h k).step (kqm hs (kwc (P := OkR kb s) (khf hs) k _ (OkR.nil h)).b)
def volA (s : ByteArray) (o : Option Nat) : (Int × List (List D)) × Option Nat :=
 let m := kf s (numA s o).2 24
 let t := itN (kk s) m.1.toNat ([], m.2)
 (((numA s o).1, t.1), t.2)
theorem kgg {s : ByteArray} (hs : s.size ≤ 1048576) {o : Option Nat} (h : inB s o) : inB s (volA s o).2 ∧ (volA s o).1.2.length ≤ 24 ∧ (∀ r ∈ (volA s o).1.2, typL kb r) ∧ (∀ r ∈ (volA s o).1.2, szdL kb r) := by
 have h1 := kad s o h
 have hm := ksc (n := 24) h1
 have hmr := kub (n := 24) h1 (by omega)
 have ht := kwc (P := OkR kb s) (khf hs) (kf s (numA s o).2 24).1.toNat _ (OkR.nil hm)
 have hl := kjb (kvd s) (kf s (numA s o).2 24).1.toNat ([], (kf s (numA s o).2 24).2)
 simp only [List.length_nil] at hl
 exact ⟨ht.b, by show (itN (kk s) _ _).1.length ≤ 24; omega, fun r hr => (ht.t r hr).1, fun r hr => (ht.t r hr).2⟩
theorem kpj {s : ByteArray} (hs : s.size ≤ 1048576) {o : Option Nat} (h : inB s o) (q : Nat) (e : (volA s o).2 = some q) : ∃ p, o = some p ∧ p ≤ q ∧ q ≤ s.size ∧ s.extract p q = volT (volA s o).1.1 (volA s o).1.2 := by
 have h1 := kad s o h
 have hm := ksc (n := 24) h1
 have hmr := kub (n := 24) h1 (by omega)
 obtain ⟨p2, e2, a2, b2, c2⟩ := kdi hs hm (kf s (numA s o).2 24).1.toNat q e
 obtain ⟨p1, e1, a1, b1, c1⟩ := kze h1 e2
 obtain ⟨p0, e0, a0, b0, c0⟩ := krc s _ h p1 e1
 have hl := kjb (kvd s) (kf s (numA s o).2 24).1.toNat ([], (kf s (numA s o).2 24).2)
 simp only [List.length_nil] at hl
 have hlen : (((itN (kk s) (kf s (numA s o).2 24).1.toNat ([], (kf s (numA s o).2 24).2)).1.length : Nat) : Int) = (kf s (numA s o).2 24).1 := by omega
 refine ⟨p0, e0, by omega, b2, ?_⟩
 rw [← hlen] at c1
 have c2' : s.extract p2 q = catL inoS (itN (kk s) (kf s (numA s o).2 24).1.toNat ([], (kf s (numA s o).2 24).2)).1 := c2
 rw [kx c0 (kx c1 c2' (by omega) (by omega) b2) (by omega) (by omega) b2]
 rfl
def kv (s : ByteArray) (x : LO) : LO := (x.1 ++ [[.i .i64 (valN s 0 x.2), .i .i64 (valN s 1 x.2), .i .i64 (valN s 2 x.2), .i .i64 (valN s 3 x.2), .i .i64 (valN s 4 x.2)]], posN s 5 x.2)
def kn (s : ByteArray) (x : LO) : LO :=
 (x.1 ++ [[.i .i64 (valN s 0 x.2), .i .i64 (valN s 1 x.2), .i .i64 (valN s 2 x.2), .i .i64 (rdR (ke s (posN s 3 x.2)).1).2.1, .s (rdR (ke s (posN s 3 x.2)).1).2.2]], if (rdR (ke s (posN s 3 x.2)).1).1 then (ke s (posN s 3 x.2)).2 else none)
theorem kqd (s : ByteArray) : ∀ x : LO, x.2 = none → (kv s x).2 = none := by
 intro x e; unfold kv; rw [e]; rfl
theorem kzb (s : ByteArray) : ∀ x : LO, x.2 = none → (kn s x).2 = none := by
 intro x e; unfold kn; rw [e]; simp only [kye, kwe]; split <;> rfl
theorem kae (s : ByteArray) (x : LO) : (kv s x).1.length = x.1.length + 1 := by simp [kv]
theorem kwd (s : ByteArray) (x : LO) : (kn s x).1.length = x.1.length + 1 := by simp [kn]
def ntsA (s : ByteArray) (o : Option Nat) : LO := itN (kv s) (kf s (numA s o).2 20).1.toNat ([], (kf s (numA s o).2 20).2)
def sssA (s : ByteArray) (o : Option Nat) : LO := itN (kn s) (kf s (ntsA s o).2 3).1.toNat ([], (kf s (ntsA s o).2 3).2)
theorem gz61 : ∀ a c, flatR 2 [[D.s a, D.i .i64 c]] = true := fun _ _ => id rfl
theorem kpm {s : ByteArray} (k : Nat) (hk : k ≤ 1000) {o : Option Nat} {r : ByteArray} {b : Bool} (h : St s o r b) (n0 n1 : Int) (b0 : Bool) (n2 n3 n4 n5 n6 n7 n8 : Int) (s0 : ByteArray) (n9 n10 : Int) (l0 : List (List D)) (q1 : Int → Bool → ByteArray → Bool → List (List D) → Rs) (v : SV) :
  ∃ a c r' b', la115o2 t82 t116 t117 n0 n1 b0 (k : Int) n2 n3 n4 n5 n6 n7 n8 s0 n9 n10 l0 q1 KK 0 v r b [] = q1 a c r' b' (itN (kp s) k ([], o)).1 ∧ St s (itN (kp s) k ([], o)).2 r' b' := by
 refine keb (α := ByteArray × Bool × List (List D)) (σ := SV) (fun m i x v => la115o2 t82 t116 t117 n0 n1 b0 (k : Int) n2 n3 n4 n5 n6 n7 n8 s0 n9 n10 l0 q1 m (i : Int) v x.1 x.2.1 x.2.2) k (fun i x => x.2.2 = (itN (kp s) i ([], o)).1 ∧ St s (itN (kp s) i ([], o)).2 x.1 x.2.1) (fun y => ∃ a c r' b', y = q1 a c r' b' (itN (kp s) k ([], o)).1 ∧ St s (itN (kp s) k ([], o)).2 r' b')
  ?_ ?_ k 0 KK (r, b, []) v (by omega) (by rw [kl]; omega) ⟨rfl, h⟩
 ·intro m x v hp
  simp only [la115o2, ko, Bool.false_eq_true, if_false, hp.1]
  exact ⟨_, _, _, _, rfl, hp.2⟩
 ·intro i m x v hi hp
  left
  obtain ⟨r1, b1, e1, h1⟩ := kld s _ _ _ hp.2
  obtain ⟨r2, b2, e2, h2⟩ := kab s _ _ _ h1
  have hl := kjb (kxd s) i ([], o)
  have hl : x.2.2.length = i := by rw [hp.1, hl]; simp
  simp only [la115o2, kj hi, e1, e2, kbj, kif, fo1, fo2, fi, fs, gz61, kkd, hl, lim1 (show i ≤ 1000 by omega), Bool.and_true, ka, if_true, kc i (by omega)]
  exact ⟨(r2, b2, _), _, rfl, by rw [hp.1]; rfl, h2⟩
theorem kbm {s : ByteArray} (k : Nat) (hk : k ≤ 1000) {o : Option Nat} {r : ByteArray} {b : Bool} (h : St s o r b) (n0 n1 : Int) (q1 : Int → Bool → SV → SV → SV → ByteArray → Bool → List (List D) → Rs) (v : SV × SV × SV × SV) :
  ∃ a c d e f r' b', la115o0 t82 t116 t117 (k : Int) n0 n1 q1 KK 0 v.1 v.2.1 v.2.2.1 v.2.2.2 r b [] = q1 a c d e f r' b' (itN (kk s) k ([], o)).1 ∧ St s (itN (kk s) k ([], o)).2 r' b' := by
 refine keb (α := ByteArray × Bool × List (List D)) (σ := SV × SV × SV × SV) (fun m i x v => la115o0 t82 t116 t117 (k : Int) n0 n1 q1 m (i : Int) v.1 v.2.1 v.2.2.1 v.2.2.2 x.1 x.2.1 x.2.2) k (fun i x => x.2.2 = (itN (kk s) i ([], o)).1 ∧ St s (itN (kk s) i ([], o)).2 x.1 x.2.1) (fun y => ∃ a c d e f r' b', y = q1 a c d e f r' b' (itN (kk s) k ([], o)).1 ∧ St s (itN (kk s) k ([], o)).2 r' b')
  ?_ ?_ k 0 KK (r, b, []) v (by omega) (by rw [kl]; omega) ⟨rfl, h⟩
 ·intro m x v hp
  simp only [la115o0, ko, Bool.false_eq_true, if_false, hp.1]
  exact ⟨_, _, _, _, _, _, _, rfl, hp.2⟩
 ·intro i m x v hi hp
  left
  have hB := kbf hp.2
  obtain ⟨r1, b1, e1, h1⟩ := kab s _ _ _ hp.2
  obtain ⟨r2, b2, e2, h2⟩ := kab s _ _ _ h1
  obtain ⟨r3, b3, e3, h3⟩ := kab s _ _ _ h2
  obtain ⟨r4, b4, e4, h4⟩ := kab s _ _ _ h3
  obtain ⟨r5, b5, e5, h5⟩ := kab s _ _ _ h4
  obtain ⟨r6, b6, e6, h6⟩ := kab s _ _ _ h5
  obtain ⟨r7, b7, e7, h7⟩ := kab s _ _ _ h6
  obtain ⟨r8, b8, e8, h8⟩ := kld s _ _ _ h7
  obtain ⟨r9, b9, e9, h9⟩ := kue s _ _ _ 12 h8
  have hl := kjb (kvd s) i ([], o)
  have hl : x.2.2.length = i := by rw [hp.1, hl]; simp
  have hm := kub (n := 12) (kbf h8) (by omega)
  have hn : ((kf s (ke s (posN s 7 (itN (kk s) i ([], o)).2)).2 12).1.toNat : Int) = (kf s (ke s (posN s 7 (itN (kk s) i ([], o)).2)).2 12).1 := Int.toNat_of_nonneg hm.1
  have hm2 : (kf s (ke s (posN s 7 (itN (kk s) i ([], o)).2)).2 12).1 ≤ 12 := hm.2
  simp only [la115o0, kj hi, e1, e2, e3, e4, e5, e6, e7, e8, e9, kbj, kif, kfh, fo1, fo2, fi, fs, hl, kkd, lim1 (show i ≤ 1000 by omega), Bool.and_true, ka, if_true, kc i (by omega)]
  obtain ⟨a, c, r', b', e, hS⟩ := kpm (s := s) (kf s (ke s (posN s 7 (itN (kk s) i ([], o)).2)).2 12).1.toNat (by omega) h9 (k : Int) (i : Int) true n0 n1 _ _ _ _ _ _ _ _ x.2.2 (fun n2 b0 s0 b10 l0 => la115o0 t82 t116 t117 (k : Int) n0 n1 q1 m ((i + 1 : Nat) : Int) (.d (.b true)) (.d (.i .i64 (kf s (ke s (posN s 7 (itN (kk s) i ([], o)).2)).2 12).1)) (.d (.i .i64 n2)) (.d (.b b0)) s0 b10 (x.2.2 ++ [[.i .i64 (valN s 0 (itN (kk s) i ([], o)).2), .i .i64 (valN s 1 (itN (kk s) i ([], o)).2), .i .i64 (valN s 2 (itN (kk s) i ([], o)).2), .i .i64 (valN s 3 (itN (kk s) i ([], o)).2), .i .i64 (valN s 4 (itN (kk s) i ([], o)).2), .s (ke s (posN s 7 (itN (kk s) i ([], o)).2)).1, .l l0, .i .i64 (valN s 5 (itN (kk s) i ([], o)).2), .i .i64 (valN s 6 (itN (kk s) i ([], o)).2)]])) v.2.2.2
  rw [hn] at e
  exact ⟨(r', b', _), (_, _, _, _), e, by rw [hp.1]; rfl, hS⟩
theorem kon (s : ByteArray) (o : Option Nat) (r : ByteArray) (b : Bool) (h : St s o r b) : ∃ r' b', t115 r b = some ([.agg [.i .i64 (volA s o).1.1, .l (volA s o).1.2]], [[.s r', .b b']]) ∧ St s (volA s o).2 r' b' := by
 obtain ⟨r1, b1, e1, h1⟩ := kab s _ _ _ h
 obtain ⟨r2, b2, e2, h2⟩ := kue s _ _ _ 24 h1
 have hm := kub (n := 24) (kbf h1) (by omega)
 have hn : ((kf s (numA s o).2 24).1.toNat : Int) = (kf s (numA s o).2 24).1 := Int.toNat_of_nonneg hm.1
 simp only [t115, ta115, e1, e2, kif, kfh, fo1, fo2, fi, ka]
 obtain ⟨_, _, _, _, _, r', b', e, hS⟩ := kbm (s := s) (kf s (numA s o).2 24).1.toNat (by omega) h2 0 (numA s o).1 (fun (n0 : Int) (b3 : Bool) (v0 : SV) (v1 : SV) (v2 : SV) (s0 : ByteArray) (b0 : Bool) (l0 : List (List D)) => some ([.agg [.i .i64 (numA s o).1, .l l0]], [[.s s0, .b b0]])) (SV.undef, SV.undef, SV.undef, SV.undef)
 rw [hn] at e
 exact ⟨r', b', e, hS⟩
theorem gz62 : ∀ a c d e f, flatR 5 [[D.i .i64 a, D.i .i64 c, D.i .i64 d, D.i .i64 e, D.i .i64 f]] = true := fun _ _ _ _ _ => id rfl
theorem kem {s : ByteArray} (k : Nat) (hk : k ≤ 1000) {o : Option Nat} {r : ByteArray} {b : Bool} (h : St s o r b) (n0 n1 n2 n3 : Int) (s0 : ByteArray) (b0 : Bool) (l0 : List (List D)) (q1 : Int → Bool → ByteArray → Bool → List (List D) → Rs) (v : SV) :
  ∃ a c r' b', la81o0 t82 t115 t116 t117 t118 (k : Int) n0 n1 n2 n3 s0 b0 l0 q1 KK 0 v r b [] = q1 a c r' b' (itN (kv s) k ([], o)).1 ∧ St s (itN (kv s) k ([], o)).2 r' b' := by
 refine keb (α := ByteArray × Bool × List (List D)) (σ := SV) (fun m i x v => la81o0 t82 t115 t116 t117 t118 (k : Int) n0 n1 n2 n3 s0 b0 l0 q1 m (i : Int) v x.1 x.2.1 x.2.2) k (fun i x => x.2.2 = (itN (kv s) i ([], o)).1 ∧ St s (itN (kv s) i ([], o)).2 x.1 x.2.1) (fun y => ∃ a c r' b', y = q1 a c r' b' (itN (kv s) k ([], o)).1 ∧ St s (itN (kv s) k ([], o)).2 r' b')
  ?_ ?_ k 0 KK (r, b, []) v (by omega) (by rw [kl]; omega) ⟨rfl, h⟩
 ·intro m x v hp
  simp only [la81o0, ko, Bool.false_eq_true, if_false, hp.1]
  exact ⟨_, _, _, _, rfl, hp.2⟩
 ·intro i m x v hi hp
  left
  obtain ⟨r1, b1, e1, h1⟩ := kab s _ _ _ hp.2
  obtain ⟨r2, b2, e2, h2⟩ := kab s _ _ _ h1
  obtain ⟨r3, b3, e3, h3⟩ := kab s _ _ _ h2
  obtain ⟨r4, b4, e4, h4⟩ := kab s _ _ _ h3
  obtain ⟨r5, b5, e5, h5⟩ := kab s _ _ _ h4
  have hl := kjb (kae s) i ([], o)
  have hl : x.2.2.length = i := by rw [hp.1, hl]; simp
  simp only [la81o0, kj hi, e1, e2, e3, e4, e5, kif, fo1, fo2, fi, gz62, kkd, hl, lim1 (show i ≤ 1000 by omega), Bool.and_true, ka, if_true, kc i (by omega)]
  exact ⟨(r5, b5, _), _, rfl, by rw [hp.1]; rfl, h5⟩
theorem gz63 : ∀ a c d e f, flatR 5 [[D.i .i64 a, D.i .i64 c, D.i .i64 d, D.i .i64 e, D.s f]] = true := fun _ _ _ _ _ => id rfl
theorem gz64 : ∀ a c d, okR zr118 zo118 (some ([.agg [.i .i64 a, .s c], .one (.b d)], [])) = true := fun _ _ _ => id rfl
theorem gz65 : ∀ a c d, asI (resC (some ([.agg [.i .i64 a, .s c], .one (.b d)], [])) 0 0) = a := fun _ _ _ => id rfl
theorem gz66 : ∀ a c d, asS (resC (some ([.agg [.i .i64 a, .s c], .one (.b d)], [])) 0 1) = c := fun _ _ _ => id rfl
theorem gz67 : ∀ a c d, asB (resC (some ([.agg [.i .i64 a, .s c], .one (.b d)], [])) 1 0) = d := fun _ _ _ => id rfl
theorem kmm {s : ByteArray} (k : Nat) (hk : k ≤ 1000) {o : Option Nat} {r : ByteArray} {b : Bool} (h : St s o r b) (n0 n1 : Int) (b0 : Bool) (n2 n3 n4 n5 : Int) (s0 : ByteArray) (b5 : Bool) (l0 l1 : List (List D)) (q1 : SV → Int → Bool → ByteArray → Bool → List (List D) → Rs) (v w : SV) :
  ∃ a c d r' b', la81o2 t82 t115 t116 t117 t118 n0 n1 b0 (k : Int) n2 n3 n4 n5 s0 b5 l0 l1 q1 KK v 0 w r b [] = q1 a c d r' b' (itN (kn s) k ([], o)).1 ∧ St s (itN (kn s) k ([], o)).2 r' b' := by
 refine keb (α := ByteArray × Bool × List (List D)) (σ := SV × SV) (fun m i x v => la81o2 t82 t115 t116 t117 t118 n0 n1 b0 (k : Int) n2 n3 n4 n5 s0 b5 l0 l1 q1 m v.1 (i : Int) v.2 x.1 x.2.1 x.2.2) k (fun i x => x.2.2 = (itN (kn s) i ([], o)).1 ∧ St s (itN (kn s) i ([], o)).2 x.1 x.2.1) (fun y => ∃ a c d r' b', y = q1 a c d r' b' (itN (kn s) k ([], o)).1 ∧ St s (itN (kn s) k ([], o)).2 r' b')
  ?_ ?_ k 0 KK (r, b, []) (v, w) (by omega) (by rw [kl]; omega) ⟨rfl, h⟩
 ·intro m x v hp
  simp only [la81o2, ko, Bool.false_eq_true, if_false, hp.1]
  exact ⟨_, _, _, _, _, rfl, hp.2⟩
 ·intro i m x v hi hp
  left
  obtain ⟨r1, b1, e1, h1⟩ := kab s _ _ _ hp.2
  obtain ⟨r2, b2, e2, h2⟩ := kab s _ _ _ h1
  obtain ⟨r3, b3, e3, h3⟩ := kab s _ _ _ h2
  obtain ⟨r4, b4, e4, h4⟩ := kld s _ _ _ h3
  have hl := kjb (kwd s) i ([], o)
  have hl : x.2.2.length = i := by rw [hp.1, hl]; simp
  simp only [la81o2, kj hi, e1, e2, e3, e4, kjj, gz64, gz65, gz66, gz67, kif, kbj, fo1, fo2, fi, fs, gz63, kkd, hl, lim1 (show i ≤ 1000 by omega), Bool.and_true, ka, if_true, kc i (by omega)]
  refine ⟨(r4, b4 || !(rdR (ke s (posN s 3 (itN (kn s) i ([], o)).2)).1).1, _), (_, _), rfl, by rw [hp.1]; rfl, ?_⟩
  show St s (if (rdR (ke s (posN s 3 (itN (kn s) i ([], o)).2)).1).1 = true then (ke s (posN s 3 (itN (kn s) i ([], o)).2)).2 else none) r4 (b4 || !(rdR (ke s (posN s 3 (itN (kn s) i ([], o)).2)).1).1)
  cases (rdR (ke s (posN s 3 (itN (kn s) i ([], o)).2)).1).1
  ·simp only [Bool.false_eq_true, if_false, Bool.not_false, Bool.or_true]; rfl
  ·simp only [if_true, Bool.not_true, Bool.or_false]; exact h4
noncomputable def tP (s : ByteArray) : ByteArray := (ke s oz).1
noncomputable def tV (s : ByteArray) := volA (tP s) oz
noncomputable def tG (s : ByteArray) : Bool := decide ((tV s).2 = some (tP s).size)
noncomputable def tO (s : ByteArray) : Option Nat := if tG s then (ke s oz).2 else none
theorem gz68 : ∀ a c x y, okR zr115 zo115 (some ([.agg [.i .i64 a, .l c]], [[.s x, .b y]])) = true := fun _ _ _ _ => id rfl
theorem gz69 : ∀ a c y, asI (resC (some ([.agg [.i .i64 a, .l c]], y)) 0 0) = a := fun _ _ _ => id rfl
theorem gz70 : ∀ a c y, asL (resC (some ([.agg [.i .i64 a, .l c]], y)) 0 1) = c := fun _ _ _ => id rfl
theorem gz71 : ∀ x y z, asS (outC (some ([.agg x], [[.s y, .b z]])) 0 0) = y := fun _ _ _ => id rfl
theorem gz72 : ∀ x y z, asB (outC (some ([.agg x], [[.s y, .b z]])) 0 1) = z := fun _ _ _ => id rfl
theorem kkn (s : ByteArray) : ∃ r' b', t81 s false = some ([.agg [.i .i64 (tV s).1.1, .l (tV s).1.2, .i .i64 (numA s (tO s)).1, .l (ntsA s (tO s)).1, .l (sssA s (tO s)).1]], [[.s r', .b b']]) ∧ St s (sssA s (tO s)).2 r' b' := by
  have h0 := ksn s
  obtain ⟨r1, b1, e1, h1⟩ := kld s _ _ _ h0
  have hp := ksn (tP s)
  obtain ⟨rv, bv, ev, hv⟩ := kon (tP s) _ _ _ hp
  have hv' := krn hv
  have h2 : St s (tO s) r1 ((b1 || bv) || !(rv.toList == (⟨#[]⟩ : ByteArray).toList)) := by
    rw [Bool.or_assoc, hv']
    show St s (if tG s then (ke s oz).2 else none) r1 (b1 || !tG s)
    cases tG s
    · simp only [Bool.false_eq_true, if_false, Bool.not_false, Bool.or_true]; rfl
    · simp only [if_true, Bool.not_true, Bool.or_false]; exact h1
  obtain ⟨r3, b3, e3, h3⟩ := kab s _ _ _ h2
  obtain ⟨r4, b4, e4, h4⟩ := kue s _ _ _ 20 h3
  have hm := kub (n := 20) (kbf h3) (by omega)
  have hn : ((kf s (numA s (tO s)).2 20).1.toNat : Int) = (kf s (numA s (tO s)).2 20).1 := Int.toNat_of_nonneg hm.1
  have ev : t115 (ke s oz).1 false = some ([.agg [.i .i64 (tV s).1.1, .l (tV s).1.2]], [[.s rv, .b bv]]) := ev
  simp only [t81, ta81, e1, ev, e3, e4, gz68, gz69, gz70, gz71, gz72, kbj, kif, kfh, fo1, fo2, fi, fs, ka]
  obtain ⟨a, c, r5, b5, e5, h5⟩ := kem (s := s) (kf s (numA s (tO s)).2 20).1.toNat (by omega) h4 0 0 (tV s).1.1 (numA s (tO s)).1 rv bv (tV s).1.2 (fun (n0 : Int) (b8 : Bool) (s0 : ByteArray) (b0 : Bool) (l1 : List (List D)) =>
    chk (okR zr117 zo117 (t117 s0 b0 (3 : Int))) <|
    la81o2 t82 t115 t116 t117 t118 (kf s (numA s (tO s)).2 20).1 n0 b8 (asI (resC (t117 s0 b0 (3 : Int)) 0 0)) (0 : Int) (0 : Int) (tV s).1.1 (numA s (tO s)).1 rv bv (tV s).1.2 l1
     (fun (v0 : SV) (n1 : Int) (b9 : Bool) (s1 : ByteArray) (b2 : Bool) (l0 : List (List D)) =>
      some ([.agg [.i .i64 (tV s).1.1, .l (tV s).1.2, .i .i64 (numA s (tO s)).1, .l l1, .l l0]], [[.s s1, .b b2]])) KK SV.undef (0 : Int) SV.undef (asS (outC (t117 s0 b0 (3 : Int)) 0 0)) (asB (outC (t117 s0 b0 (3 : Int)) 0 1)) ([] : List (List D))) SV.undef
  rw [hn] at e5
  obtain ⟨r6, b6, e6, h6⟩ := kue s _ _ _ 3 h5
  have hm2 := kub (n := 3) (kbf h5) (by omega)
  have hn2 : ((kf s (ntsA s (tO s)).2 3).1.toNat : Int) = (kf s (ntsA s (tO s)).2 3).1 := Int.toNat_of_nonneg hm2.1
  have hm3 : (kf s (ntsA s (tO s)).2 3).1 ≤ 3 := hm2.2
  obtain ⟨_, _, _, r7, b7, e7, h7⟩ := kmm (s := s) (kf s (ntsA s (tO s)).2 3).1.toNat (by omega) h6 (kf s (numA s (tO s)).2 20).1 a c 0 0 (tV s).1.1 (numA s (tO s)).1 rv bv (tV s).1.2 (ntsA s (tO s)).1 (fun (v0 : SV) (n1 : Int) (b9 : Bool) (s1 : ByteArray) (b2 : Bool) (l0 : List (List D)) =>
      some ([.agg [.i .i64 (tV s).1.1, .l (tV s).1.2, .i .i64 (numA s (tO s)).1, .l (ntsA s (tO s)).1, .l l0]], [[.s s1, .b b2]])) SV.undef SV.undef
  rw [hn2] at e7
  refine ⟨r7, b7, Eq.trans e5 ?_, h7⟩
  simp only [e6, kfh, fi, fo1, fo2, ka]
  exact e7
theorem knm {s : ByteArray} (hs : s.size ≤ 1048576) (k : Nat) (hk : k ≤ 1000) (p0 : Nat) (hp0 : p0 ≤ s.size) (n0 n1 : Int) (s0 : ByteArray) (b0 b1 b2 : Bool) (n2 n3 n4 n5 n6 : Int) (s1 : ByteArray) (n7 n8 n9 n53 n54 n55 n56 : Int) (s2 : ByteArray) (n58 n59 : Int) (l0 : List (List D)) (q1 : Int → Int → ByteArray → Int → Bool → Bool → List (List D) → List (List D) → Rs) (q2 : Int → Int → SV → SV → Bool → SV → List (List D) → Rs) (E : List (List D) → Rs) (F : Int → List (List D) → Rs) (h1 : ∀ a b c d e f g l, q1 a b c d e f g l = E l) (h2 : ∀ a b c d e f l, q2 a b c d e f l = F a l) (v : SV × SV × SV × SV) :
  ((itN (kp s) k ([], some p0)).2 = none ∧ ∃ L, la114o3 t77 t78 s n0 n1 s0 b0 b1 b2 n2 n3 n4 n5 n6 s1 n7 n8 n9 n53 n54 n55 n56 s2 n58 n59 l0 [[.i .i64 (k : Int)]] q1 q2 KK (p0 : Int) 0 v.1 v.2.1 v.2.2.1 v.2.2.2 [] = E L) ∨
  ∃ q : Nat, (itN (kp s) k ([], some p0)).2 = some q ∧ la114o3 t77 t78 s n0 n1 s0 b0 b1 b2 n2 n3 n4 n5 n6 s1 n7 n8 n9 n53 n54 n55 n56 s2 n58 n59 l0 [[.i .i64 (k : Int)]] q1 q2 KK (p0 : Int) 0 v.1 v.2.1 v.2.2.1 v.2.2.2 [] = F (q : Int) (itN (kp s) k ([], some p0)).1 := by
 have hB0 : inB s (some p0) := by intro x hx; cases hx; exact hp0
 refine keb (α := Nat × List (List D)) (σ := SV × SV × SV × SV) (fun m i x v => la114o3 t77 t78 s n0 n1 s0 b0 b1 b2 n2 n3 n4 n5 n6 s1 n7 n8 n9 n53 n54 n55 n56 s2 n58 n59 l0 [[.i .i64 (k : Int)]] q1 q2 m (x.1 : Int) (i : Int) v.1 v.2.1 v.2.2.1 v.2.2.2 x.2) k (fun i x => itN (kp s) i ([], some p0) = (x.2, some x.1)) (fun y => ((itN (kp s) k ([], some p0)).2 = none ∧ ∃ L, y = E L) ∨ ∃ q : Nat, (itN (kp s) k ([], some p0)).2 = some q ∧ y = F (q : Int) (itN (kp s) k ([], some p0)).1)
  ?_ ?_ k 0 KK (p0, []) v (by omega) (by rw [kl]; omega) rfl
 ·intro m x v hp
  right
  refine ⟨x.1, by rw [hp], ?_⟩
  simp only [la114o3, lA10, lB10, isI, asI1, ko, ka, Bool.false_eq_true, if_false, h2, hp]
 ·intro i m x v hi hp
  have hB := (kwc (P := OkR ks s) (kef hs) i _ (OkR.nil hB0)).b
  rw [hp] at hB
  have hl := kjb (kxd s) i ([], some p0)
  rw [hp] at hl
  have hl : x.2.length = i := by simpa using hl
  have ht := kdf hs hB
  rw [ktd] at ht
  have hst : kp s (itN (kp s) i ([], some p0)) = (x.2 ++ [[.s (ke s (some x.1)).1, .i .i64 (numA s (ke s (some x.1)).2).1]], (numA s (ke s (some x.1)).2).2) := by rw [hp]; rfl
  rcases kuc hs 1 (by omega) (koc s _ hB) with ⟨e, L, hv⟩ | ⟨q, e, _, hv⟩
  ·right; left
   have hv : t78 s (pos (ke s (some x.1)).2) 1 = _ := hv
   refine ⟨kme (kvc s) hi (by rw [hst]; exact e), x.2, ?_⟩
   simp only [la114o3, lA10, lB10, isI, asI1, kj hi, ht, ta_w, ta_i, hv, vs_w, vs_i, khc, ka, if_true, h1]
  ·left
   have hv : t78 s (pos (ke s (some x.1)).2) 1 = some ([.one (.l [[D.i .i64 (numA s (ke s (some x.1)).2).1]]), .one (.i .i64 (q : Int))], []) := hv
   simp only [la114o3, lA10, lB10, isI, asI1, kj hi, ht, ta_w, ta_i, ta_s, hv, vs_w, vs_l, vs_i, krb, gz61, kkd, hl, lim1 (show i ≤ 1000 by omega), Bool.and_true, ka, if_true, Bool.false_eq_true, if_false, kc i (by omega)]
   refine ⟨(q, _), (_, _, _, _), rfl, ?_⟩
   show kp s (itN (kp s) i ([], some p0)) = _
   rw [hst]
   exact congrArg (Prod.mk _) e
theorem kuj {s : ByteArray} {o : Option Nat} (h : (ke s (posN s 7 o)).2 = none) : (inoA s o).2 = none := by
 simp only [inoA, h, kee]
 exact kob (kvc s) _ _ rfl
theorem kjn {s : ByteArray} (hs : s.size ≤ 1048576) {o : Option Nat} (hB : inB s o) :
  ((inoA s o).2 = none ∧ ∃ (a b c d e : Int) (f : ByteArray) (g : List (List D)) (h i : Int), t114 s (pos o) = some ([.agg [.i .i64 a, .i .i64 b, .i .i64 c, .i .i64 d, .i .i64 e, .s f, .l g, .i .i64 h, .i .i64 i], .one (.i .i64 (-1))], [])) ∨
  ∃ q : Nat, (inoA s o).2 = some q ∧ t114 s (pos o) = some ([.agg (inoA s o).1, .one (.i .i64 (q : Int))], []) := by
 have hB7 := kyb hB 7
 rcases kuc hs 7 (by omega) hB with ⟨e, L, hv⟩ | ⟨q7, e, _, hv⟩
 ·left
  have hv : t78 s (pos o) 7 = _ := hv
  refine ⟨kuj (by rw [e]; rfl), ?_⟩
  simp only [t114, ta114, hv, vs_w, vs_i, khc, ka, if_true]
  exact ⟨_, _, _, _, _, _, _, _, _, rfl⟩
 have hv : t78 s (pos o) 7 = some ([.one (.l [[D.i .i64 (valN s 0 o)], [D.i .i64 (valN s 1 o)], [D.i .i64 (valN s 2 o)], [D.i .i64 (valN s 3 o)], [D.i .i64 (valN s 4 o)], [D.i .i64 (valN s 5 o)], [D.i .i64 (valN s 6 o)]]), .one (.i .i64 (q7 : Int))], []) := hv
 have ht := kdf hs hB7
 rw [e, ktd] at ht
 rw [e] at hB7
 cases e2 : (ke s (some q7)).2 with
 | none =>
  left
  rw [e2, kxg] at ht
  refine ⟨kuj (by rw [e]; exact e2), ?_⟩
  simp only [t114, ta114, hv, vs_w, vs_i, vs_l, krb, lA70, lB70, lA71, lB71, lA72, lB72, lA73, lB73, lA74, lB74, lA75, lB75, lA76, lB76, isI, asI1, ht, ta_w, ta_i, khc, ka, if_true, Bool.false_eq_true, if_false]
  exact ⟨_, _, _, _, _, _, _, _, _, rfl⟩
 | some q8 =>
  rw [e2, ktd] at ht
  have hB8 : inB s (some q8) := by rw [← e2]; exact koc s _ hB7
  have hmr := kjd s _ hB8
  have hino : ∀ x, kf s (some q8) 12 = x → (inoA s o).2 = (itN (kp s) x.1.toNat ([], x.2)).2 ∧ (inoA s o).1 = [.i .i64 (valN s 0 o), .i .i64 (valN s 1 o), .i .i64 (valN s 2 o), .i .i64 (valN s 3 o), .i .i64 (valN s 4 o), .s (ke s (some q7)).1, .l (itN (kp s) x.1.toNat ([], x.2)).1, .i .i64 (valN s 5 o), .i .i64 (valN s 6 o)] := by
   intro x hx
   simp only [inoA, e, e2, hx]; exact ⟨trivial, trivial⟩
  rcases kuc hs 1 (by omega) hB8 with ⟨e3, L, hw⟩ | ⟨q9, e3, hq9, hw⟩
  ·left
   have hw : t78 s (q8 : Int) 1 = _ := hw
   have e3 : (numA s (some q8)).2 = none := e3
   refine ⟨?_, ?_⟩
   ·rw [(hino _ rfl).1]
    have : (kf s (some q8) 12).2 = none := by unfold kf; split <;> first | rfl | exact e3
    rw [this]; exact kob (kvc s) _ _ rfl
   ·simp only [t114, ta114, hv, vs_w, vs_i, vs_l, krb, lA70, lB70, lA71, lB71, lA72, lB72, lA73, lB73, lA74, lB74, lA75, lB75, lA76, lB76, isI, asI1, ht, hw, ta_w, ta_i, ta_s, khc, Bool.not_true, Bool.not_false, Bool.or_true, Bool.true_or, ka, if_true, Bool.false_eq_true, if_false]
    exact ⟨_, _, _, _, _, _, _, _, _, rfl⟩
  ·have hw : t78 s (q8 : Int) 1 = some ([.one (.l [[D.i .i64 (numA s (some q8)).1]]), .one (.i .i64 (q9 : Int))], []) := hw
   have e3 : (numA s (some q8)).2 = some q9 := e3
   by_cases g : (numA s (some q8)).1 > 12
   ·left
    refine ⟨?_, ?_⟩
    ·rw [(hino _ rfl).1, keg g]; exact kob (kvc s) _ _ rfl
    ·simp only [t114, ta114, hv, vs_w, vs_i, vs_l, krb, lA70, lB70, lA71, lB71, lA72, lB72, lA73, lB73, lA74, lB74, lA75, lB75, lA76, lB76, lA10, lB10, isI, asI1, ht, hw, ta_w, ta_i, ta_s, g, decide_true, Bool.not_true, Bool.not_false, Bool.or_true, Bool.true_or, ka, if_true, Bool.false_eq_true, if_false]
     exact ⟨_, _, _, _, _, _, _, _, _, rfl⟩
   ·have hm := kcg g
    obtain ⟨g1, g2⟩ := hino _ hm
    rw [e3] at g1 g2
    have hn : ((numA s (some q8)).1.toNat : Int) = (numA s (some q8)).1 := Int.toNat_of_nonneg hmr.1
    simp only [t114, ta114, hv, vs_w, vs_i, vs_l, krb, lA70, lB70, lA71, lB71, lA72, lB72, lA73, lB73, lA74, lB74, lA75, lB75, lA76, lB76, lA10, lB10, isI, asI1, ht, hw, ta_w, ta_i, ta_s, g, decide_false, Bool.not_true, Bool.not_false, Bool.or_true, Bool.true_or, Bool.or_self, ka, if_true, Bool.false_eq_true, if_false]
    rcases knm hs (numA s (some q8)).1.toNat (by omega) q9 hq9 (pos o) 0 (ke s (some q7)).1 false false false 0 0 0 0 0 ⟨#[]⟩ 0 0 (valN s 0 o) (valN s 1 o) (valN s 2 o) (valN s 3 o) (valN s 4 o) (ke s (some q7)).1 (valN s 5 o) (valN s 6 o) [[D.i .i64 (valN s 0 o)], [D.i .i64 (valN s 1 o)], [D.i .i64 (valN s 2 o)], [D.i .i64 (valN s 3 o)], [D.i .i64 (valN s 4 o)], [D.i .i64 (valN s 5 o)], [D.i .i64 (valN s 6 o)]] (fun (n1 : Int) (n2 : Int) (s0 : ByteArray) (n3 : Int) (b0 : Bool) (b1 : Bool) (l2 : List (List D)) (l0 : List (List D)) => some ([.agg [.i .i64 (valN s 0 o), .i .i64 (valN s 1 o), .i .i64 (valN s 2 o), .i .i64 (valN s 3 o), .i .i64 (valN s 4 o), .s (ke s (some q7)).1, .l l0, .i .i64 (valN s 5 o), .i .i64 (valN s 6 o)], .one (.i .i64 (-1 : Int))], [])) (fun (n0 : Int) (n4 : Int) (v0 : SV) (v1 : SV) (b2 : Bool) (v2 : SV) (l1 : List (List D)) => some ([.agg [.i .i64 (valN s 0 o), .i .i64 (valN s 1 o), .i .i64 (valN s 2 o), .i .i64 (valN s 3 o), .i .i64 (valN s 4 o), .s (ke s (some q7)).1, .l l1, .i .i64 (valN s 5 o), .i .i64 (valN s 6 o)], .one (.i .i64 n0)], [])) _ _ (fun _ _ _ _ _ _ _ _ => rfl) (fun _ _ _ _ _ _ _ => rfl) (SV.undef, SV.undef, SV.undef, SV.undef) with ⟨f1, L, f2⟩ | ⟨q, f1, f2⟩
    ·rw [hn] at f2
     exact .inl ⟨by rw [g1, f1], _, _, _, _, _, _, _, _, _, f2⟩
    ·rw [hn] at f2
     exact .inr ⟨q, by rw [g1, f1], by rw [g2]; exact f2⟩
theorem in_0 (a b c d e f g h i x) : asI (resC (some ([.agg [.i .i64 a, .i .i64 b, .i .i64 c, .i .i64 d, .i .i64 e, .s f, .l g, .i .i64 h, .i .i64 i], .one (.i .i64 x)], [])) 0 0) = a := id rfl
theorem in_1 (a b c d e f g h i x) : asI (resC (some ([.agg [.i .i64 a, .i .i64 b, .i .i64 c, .i .i64 d, .i .i64 e, .s f, .l g, .i .i64 h, .i .i64 i], .one (.i .i64 x)], [])) 0 1) = b := id rfl
theorem in_2 (a b c d e f g h i x) : asI (resC (some ([.agg [.i .i64 a, .i .i64 b, .i .i64 c, .i .i64 d, .i .i64 e, .s f, .l g, .i .i64 h, .i .i64 i], .one (.i .i64 x)], [])) 0 2) = c := id rfl
theorem in_3 (a b c d e f g h i x) : asI (resC (some ([.agg [.i .i64 a, .i .i64 b, .i .i64 c, .i .i64 d, .i .i64 e, .s f, .l g, .i .i64 h, .i .i64 i], .one (.i .i64 x)], [])) 0 3) = d := id rfl
theorem in_4 (a b c d e f g h i x) : asI (resC (some ([.agg [.i .i64 a, .i .i64 b, .i .i64 c, .i .i64 d, .i .i64 e, .s f, .l g, .i .i64 h, .i .i64 i], .one (.i .i64 x)], [])) 0 4) = e := id rfl
theorem in_5 (a b c d e f g h i x) : asS (resC (some ([.agg [.i .i64 a, .i .i64 b, .i .i64 c, .i .i64 d, .i .i64 e, .s f, .l g, .i .i64 h, .i .i64 i], .one (.i .i64 x)], [])) 0 5) = f := id rfl
theorem in_6 (a b c d e f g h i x) : asL (resC (some ([.agg [.i .i64 a, .i .i64 b, .i .i64 c, .i .i64 d, .i .i64 e, .s f, .l g, .i .i64 h, .i .i64 i], .one (.i .i64 x)], [])) 0 6) = g := id rfl
theorem in_7 (a b c d e f g h i x) : asI (resC (some ([.agg [.i .i64 a, .i .i64 b, .i .i64 c, .i .i64 d, .i .i64 e, .s f, .l g, .i .i64 h, .i .i64 i], .one (.i .i64 x)], [])) 0 7) = h := id rfl
theorem in_8 (a b c d e f g h i x) : asI (resC (some ([.agg [.i .i64 a, .i .i64 b, .i .i64 c, .i .i64 d, .i .i64 e, .s f, .l g, .i .i64 h, .i .i64 i], .one (.i .i64 x)], [])) 0 8) = i := id rfl
theorem in_p (a b c d e f g h i) (x : Int) : asI (resC (some ([.agg [.i .i64 a, .i .i64 b, .i .i64 c, .i .i64 d, .i .i64 e, .s f, .l g, .i .i64 h, .i .i64 i], .one (.i .i64 x)], [])) 1 0) = x := id rfl
theorem in_w (a b c d e f g h i x) : okR zr114 zo114 (some ([.agg [.i .i64 a, .i .i64 b, .i .i64 c, .i .i64 d, .i .i64 e, .s f, .l g, .i .i64 h, .i .i64 i], .one (.i .i64 x)], [])) = true := id rfl
theorem kzm {s : ByteArray} (hs : s.size ≤ 1048576) (k : Nat) (hk : k ≤ 1000) (p0 : Nat) (hp0 : p0 ≤ s.size) (b0 b1 : Bool) (n0 n1 a0 : Int) (q1 : Int → Int → Int → Bool → Bool → Int → Int → Int → Int → Int → ByteArray → Int → Int → List (List D) → List (List D) → Rs) (q2 : Int → Int → SV → Bool → SV → List (List D) → Rs) (E : Rs) (F : List (List D) → Rs) (h1 : ∀ a b c d e f g h i j k l m n o, q1 a b c d e f g h i j k l m n o = E) (h2 : ∀ a b c d e l, q2 a b c d e l = F l) (v : SV × SV × SV) :
  ((itN (kk s) k ([], some p0)).2 = none ∧ la79o1 t68 t78 t114 s b0 b1 n0 n1 [[.i .i64 a0], [.i .i64 (k : Int)]] q1 q2 KK (p0 : Int) 0 v.1 v.2.1 v.2.2 [] = E) ∨
  ∃ q : Nat, (itN (kk s) k ([], some p0)).2 = some q ∧ la79o1 t68 t78 t114 s b0 b1 n0 n1 [[.i .i64 a0], [.i .i64 (k : Int)]] q1 q2 KK (p0 : Int) 0 v.1 v.2.1 v.2.2 [] = F (itN (kk s) k ([], some p0)).1 := by
 have hB0 : inB s (some p0) := by intro x hx; cases hx; exact hp0
 refine keb (α := Nat × List (List D)) (σ := SV × SV × SV) (fun m i x v => la79o1 t68 t78 t114 s b0 b1 n0 n1 [[.i .i64 a0], [.i .i64 (k : Int)]] q1 q2 m (x.1 : Int) (i : Int) v.1 v.2.1 v.2.2 x.2) k (fun i x => itN (kk s) i ([], some p0) = (x.2, some x.1)) (fun y => ((itN (kk s) k ([], some p0)).2 = none ∧ y = E) ∨ ∃ q : Nat, (itN (kk s) k ([], some p0)).2 = some q ∧ y = F (itN (kk s) k ([], some p0)).1)
  ?_ ?_ k 0 KK (p0, []) v (by omega) (by rw [kl]; omega) rfl
 ·intro m x v hp
  right
  refine ⟨x.1, by rw [hp], ?_⟩
  simp only [la79o1, lA21, lB21, isI, asI1, ko, ka, Bool.false_eq_true, if_false, h2, hp]
 ·intro i m x v hi hp
  have hB := (kwc (P := OkR kb s) (khf hs) i _ (OkR.nil hB0)).b
  rw [hp] at hB
  have hl := kjb (kvd s) i ([], some p0)
  rw [hp] at hl
  have hl : x.2.length = i := by simpa using hl
  have hst : kk s (itN (kk s) i ([], some p0)) = (x.2 ++ [(inoA s (some x.1)).1], (inoA s (some x.1)).2) := by rw [hp]; rfl
  rcases kjn hs hB with ⟨e, a, b, c, d, f, g, h, j, l, hv⟩ | ⟨q, e, hv⟩
  ·right; left
   have hv : t114 s (x.1 : Int) = _ := hv
   refine ⟨kme (kne s) hi (by rw [hst]; exact e), ?_⟩
   simp only [la79o1, lA21, lB21, isI, asI1, kj hi, hv, in_p, in_w, khc, ka, if_true, h1]
  ·left
   have hv : t114 s (x.1 : Int) = some ([.agg [.i .i64 (valN s 0 (some x.1)), .i .i64 (valN s 1 (some x.1)), .i .i64 (valN s 2 (some x.1)), .i .i64 (valN s 3 (some x.1)), .i .i64 (valN s 4 (some x.1)), .s (ke s (posN s 7 (some x.1))).1, .l (itN (kp s) (kf s (ke s (posN s 7 (some x.1))).2 12).1.toNat ([], (kf s (ke s (posN s 7 (some x.1))).2 12).2)).1, .i .i64 (valN s 5 (some x.1)), .i .i64 (valN s 6 (some x.1))], .one (.i .i64 (q : Int))], []) := hv
   simp only [la79o1, lA21, lB21, isI, asI1, kj hi, hv, in_0, in_1, in_2, in_3, in_4, in_5, in_6, in_7, in_8, in_p, in_w, krb, kkd, hl, lim1 (show i ≤ 1000 by omega), Bool.and_true, ka, if_true, Bool.false_eq_true, if_false, kc i (by omega)]
   refine ⟨(q, _), (_, _, _), rfl, ?_⟩
   show kk s (itN (kk s) i ([], some p0)) = _
   rw [hst]
   exact congrArg (Prod.mk _) e
theorem krd (s : ByteArray) : inB s oz := by rw [kyf]; exact inB0 s
theorem kej : pos oz = 0 := by rw [kyf]; rfl
noncomputable def vB (s : ByteArray) : Bool := decide ((volA s oz).2 = some s.size) && volB (volA s oz).1.1 (volA s oz).1.2
noncomputable def vD (s : ByteArray) : Int × List (List D) := if vB s then (volA s oz).1 else (0, [])
theorem kah (a s : ByteArray) (h : (a.toList == s.toList) = true) : a = s := (kfe a s).1 h
theorem kik (s : ByteArray) (hs : s.size ≤ 1048576) : t79 s = some ([.agg [.i .i64 (vD s).1, .l (vD s).2], .one (.b (vB s))], []) := by
 have hB := krd s
 have hB1 := kad s oz hB
 have no : vB s = false → some ([.agg [.i .i64 0, .l []], .one (.b false)], []) = (some ([.agg [.i .i64 (vD s).1, .l (vD s).2], .one (.b (vB s))], []) : Rs) := by
  intro h; unfold vD; rw [h]; rfl
 have bad : (volA s oz).2 = none → vB s = false := by intro h; unfold vB; rw [h]; simp
 rcases kuc hs 2 (by omega) hB with ⟨e, L, hv⟩ | ⟨q2, e, hq2, hv⟩
 ·have hv : t78 s (pos oz) 2 = _ := hv
  rw [kej] at hv
  refine Eq.trans ?_ (no (bad ?_))
  ·simp only [t79, ta79, hv, vs_w, vs_i, khc, Bool.not_true, Bool.not_false, Bool.or_true, Bool.true_or, ka, if_true]
  ·have e : (numA s (numA s oz).2).2 = none := e
   show (itN (kk s) _ ([], (kf s (numA s oz).2 24).2)).2 = none
   have : (kf s (numA s oz).2 24).2 = none := by unfold kf; split <;> first | rfl | exact e
   rw [this]; exact kob (kne s) _ _ rfl
 ·have hv : t78 s (pos oz) 2 = some ([.one (.l [[D.i .i64 (numA s oz).1], [D.i .i64 (numA s (numA s oz).2).1]]), .one (.i .i64 (q2 : Int))], []) := hv
  rw [kej] at hv
  have e : (numA s (numA s oz).2).2 = some q2 := e
  have hmr := kjd s _ hB1
  obtain ⟨px, -, hpx, hqx, -⟩ := krc s _ hB1 q2 e
  have hs0 : ((⟨#[]⟩ : ByteArray).toList == s.toList) = false := by
   rw [Bool.eq_false_iff]; intro h
   have := congrArg ByteArray.size (kah _ _ h)
   have h0 : (⟨#[]⟩ : ByteArray).size = 0 := rfl
   omega
  by_cases g : (numA s (numA s oz).2).1 > 24
  ·refine Eq.trans ?_ (no (bad ?_))
   ·simp only [t79, ta79, hv, vs_w, vs_i, vs_l, lA21, lB21, isI, asI1, krb, g, decide_true, Bool.not_true, Bool.not_false, Bool.or_true, Bool.true_or, ka, if_true]
   ·show (itN (kk s) _ ([], (kf s (numA s oz).2 24).2)).2 = none
    rw [keg g]; exact kob (kne s) _ _ rfl
  ·have hm := kcg g
   have hn : ((numA s (numA s oz).2).1.toNat : Int) = (numA s (numA s oz).2).1 := Int.toNat_of_nonneg hmr.1
   have hvol : volA s oz = (((numA s oz).1, (itN (kk s) (numA s (numA s oz).2).1.toNat ([], some q2)).1), (itN (kk s) (numA s (numA s oz).2).1.toNat ([], some q2)).2) := by
    simp only [volA, hm, e]
   obtain ⟨o1, o2, o3, o4⟩ := kgg hs hB
   have hback := kpj hs hB
   simp only [t79, ta79, hv, vs_w, vs_i, vs_l, lA21, lB21, lA20, lB20, isI, asI1, krb, g, decide_false, Bool.not_true, Bool.not_false, Bool.or_true, Bool.true_or, Bool.or_self, ka, if_true, Bool.false_eq_true, if_false]
   rcases kzm hs (numA s (numA s oz).2).1.toNat (by omega) q2 hq2 false false 0 (numA s oz).1 (numA s oz).1 (fun (n0 : Int) (n1 : Int) (n2 : Int) (b0 : Bool) (b1 : Bool) (n3 : Int) (n4 : Int) (n5 : Int) (n6 : Int) (n7 : Int) (s0 : ByteArray) (n8 : Int) (n9 : Int) (l1 : List (List D)) (l2 : List (List D)) => some ([.agg [.i .i64 (0 : Int), .l ([] : List (List D))], .one (.b false)], []))
    (fun (n71 : Int) (n72 : Int) (v0 : SV) (b2 : Bool) (v1 : SV) (l0 : List (List D)) =>
     chk (okR zr68 zo68 (t68 (numA s oz).1 l0)) <|
     if (!((asS (resC (t68 (numA s oz).1 l0) 0 0)).toList == s.toList)) = true then some ([.agg [.i .i64 (0 : Int), .l ([] : List (List D))], .one (.b false)], []) else some ([.agg [.i .i64 (numA s oz).1, .l l0], .one (.b true)], [])) _ _ (fun _ _ _ _ _ _ _ _ _ _ _ _ _ _ _ => rfl) (fun _ _ _ _ _ _ => rfl) (SV.undef, SV.undef, SV.undef) with ⟨f1, f2⟩ | ⟨q, f1, f2⟩
   ·rw [hn] at f2
    refine Eq.trans f2 (no (bad ?_))
    rw [hvol]; exact f1
   ·rw [hn] at f2
    refine Eq.trans f2 ?_
    have hV2 : (volA s oz).2 = some q := by rw [hvol]; exact f1
    have hV1 : (volA s oz).1 = ((numA s oz).1, (itN (kk s) (numA s (numA s oz).2).1.toNat ([], some q2)).1) := by rw [hvol]
    rw [hV1] at o2 o3 o4
    obtain ⟨p, ep, a1, a2, a3⟩ := hback q hV2
    rw [kyf] at ep; cases ep
    rw [hV1] at a3
    have hsv := ksf (numA s oz).1 _ (by omega) o3 o4
    simp only [hsv, gz48, fs, ka]
    cases hb : volB (numA s oz).1 (itN (kk s) (numA s (numA s oz).2).1.toNat ([], some q2)).1
    ·have : vB s = false := by unfold vB; rw [hV1, hb, Bool.and_false]
     rw [← no this]
     simp only [hs0, Bool.false_eq_true, if_false, Bool.not_false, if_true]
    ·simp only [if_true]
     have a3 : s.extract 0 q = volT (numA s oz).1 (itN (kk s) (numA s (numA s oz).2).1.toNat ([], some q2)).1 := a3
     rw [← a3]
     by_cases hq : q = s.size
     ·have hx : ((s.extract 0 q).toList == s.toList) = true := (kfe _ _).2 ((kve s q a2).2 hq)
      have : vB s = true := by unfold vB; rw [hV1, hb, hV2, hq]; simp
      unfold vD
      simp only [hx, this, hV1, Bool.not_true, Bool.false_eq_true, if_false, if_true]
     ·have hx : ((s.extract 0 q).toList == s.toList) = false := by
       rw [Bool.eq_false_iff]; intro h; exact hq ((kve s q a2).1 (kah _ _ h))
      have : vB s = false := by unfold vB; rw [hV2]; simp [hq]
      rw [← no this]
      simp only [hx, Bool.not_false, if_true]
theorem kho (n : Int) (s : ByteArray) : kbd n s = resB n s := by
 unfold kbd resB rngB; rw [Bool.eq_iff_iff]; simp [and_assoc]
theorem kel (x : ByteArray) : (0 ≤ (rdR x).2.1 ∧ (rdR x).2.1 ≤ 562949953421311) ∧ (rdR x).2.2.size ≤ x.size ∧ ((rdR x).1 = true → rsS (rdR x).2.1 (rdR x).2.2 = x) := by
 have hr := kud x
 unfold rdR
 by_cases h : (rdV x).2 ≠ 0 ∧ kbd (rdV x).1 (x.extract (rdV x).2.toNat x.size) = true
 ·rw [if_pos h]
  refine ⟨⟨hr.1, hr.2.1⟩, by rw [knc]; omega, fun _ => ?_⟩
  have h2 := h.2
  rw [kho] at h2
  simp only [rsS, h2, if_true]
  rw [kvg x h.1]
  exact kwf x _ (by omega)
 ·rw [if_neg h]
  exact ⟨by simp, Nat.zero_le _, fun q => by cases q⟩
theorem kjf {s : ByteArray} : ∀ x : LO, OkR knb s x → OkR knb s (kv s x) := by
 intro x h
 exact h.step (kyb h.b 5) ⟨_, _, rfl, ⟨_, rfl, klb _ (kib h.b 0)⟩, _, _, rfl, ⟨_, rfl, klb _ (kib h.b 1)⟩, _, _, rfl, ⟨_, rfl, klb _ (kib h.b 2)⟩, _, _, rfl, ⟨_, rfl, klb _ (kib h.b 3)⟩, _, _, rfl, ⟨_, rfl, klb _ (kib h.b 4)⟩, rfl⟩ ⟨trivial, trivial, trivial, trivial, trivial, trivial⟩
theorem kff {s : ByteArray} (hs : s.size ≤ 1048576) : ∀ x : LO, OkR kcb s x → OkR kcb s (kn s x) := by
 intro x h
 have h3 := kyb h.b 3
 have hz := kge s _ h3
 obtain ⟨hr, hr2, -⟩ := kel (ke s (posN s 3 x.2)).1
 have hx : 1048576 ≤ maxLen := by decide
 refine h.step ?_ ⟨_, _, rfl, ⟨_, rfl, klb _ (kib h.b 0)⟩, _, _, rfl, ⟨_, rfl, klb _ (kib h.b 1)⟩, _, _, rfl, ⟨_, rfl, klb _ (kib h.b 2)⟩, _, _, rfl, ⟨_, rfl, klb _ hr⟩, _, _, rfl, ⟨_, rfl, by omega⟩, rfl⟩ ⟨trivial, trivial, trivial, trivial, by show (rdR (ke s (posN s 3 x.2)).1).2.2.size ≤ 1048576; omega, trivial⟩
 split
 ·exact koc s _ h3
 ·intro p hp; cases hp
theorem kcj {s : ByteArray} {o : Option Nat} (h : inB s o) : ∀ k, kcd nteS s o (itN (kv s) k ([], o))
 | 0 => kcd.nil h
 | k + 1 => (kcj h k).step (by
   have hB := (kwc (P := OkR knb s) kjf k _ (OkR.nil h)).b
   intro q e
   obtain ⟨p4, e4, a4, b4, c4⟩ := kfb hB 4 e
   obtain ⟨p3, e3, a3, b3, c3⟩ := kfb hB 3 e4
   obtain ⟨p2, e2, a2, b2, c2⟩ := kfb hB 2 e3
   obtain ⟨p1, e1, a1, b1, c1⟩ := kfb hB 1 e2
   obtain ⟨p0, e0, a0, b0, c0⟩ := kfb hB 0 e1
   exact ⟨p0, e0, by omega, b4, kx c0 (kx c1 (kx c2 (kx c3 c4 (by omega) (by omega) b4) (by omega) (by omega) b4) (by omega) (by omega) b4) (by omega) (by omega) b4⟩)
theorem kfj {s : ByteArray} (hs : s.size ≤ 1048576) {o : Option Nat} (h : inB s o) : ∀ k, kcd sesS s o (itN (kn s) k ([], o))
 | 0 => kcd.nil h
 | k + 1 => (kfj hs h k).step (by
   have hB := (kwc (P := OkR kcb s) (kff hs) k _ (OkR.nil h)).b
   intro q e
   obtain ⟨-, -, hr⟩ := kel (ke s (posN s 3 (itN (kn s) k ([], o)).2)).1
   cases g : (rdR (ke s (posN s 3 (itN (kn s) k ([], o)).2)).1).1 with
   | false => rw [g] at e; simp at e
   | true =>
    rw [g] at e
    simp only [if_true] at e
    obtain ⟨p3, e3, a3, b3, c3⟩ := kke s _ (kyb hB 3) q e
    obtain ⟨p2, e2, a2, b2, c2⟩ := kfb hB 2 e3
    obtain ⟨p1, e1, a1, b1, c1⟩ := kfb hB 1 e2
    obtain ⟨p0, e0, a0, b0, c0⟩ := kfb hB 0 e1
    refine ⟨p0, e0, by omega, b3, ?_⟩
    rw [← hr g] at c3
    exact kx c0 (kx c1 (kx c2 c3 (by omega) (by omega) b3) (by omega) (by omega) b3) (by omega) (by omega) b3)
theorem kuf {s : ByteArray} {o : Option Nat} (h : inB s o) : OkR knb s (ntsA s o) ∧ (ntsA s o).1.length ≤ 20 := by
 have h1 := kad s o h
 have hmr := kub (n := 20) h1 (by omega)
 have hl := kjb (kae s) (kf s (numA s o).2 20).1.toNat ([], (kf s (numA s o).2 20).2)
 simp only [List.length_nil] at hl
 exact ⟨kwc (P := OkR knb s) kjf _ _ (OkR.nil (ksc h1)), by show (itN (kv s) _ _).1.length ≤ 20; omega⟩
theorem khk {s : ByteArray} (hs : s.size ≤ 1048576) {o : Option Nat} (h : inB s o) : OkR kcb s (sssA s o) ∧ (sssA s o).1.length ≤ 3 := by
 have h1 := (kuf h).1.b
 have hmr := kub (n := 3) h1 (by omega)
 have hl := kjb (kwd s) (kf s (ntsA s o).2 3).1.toNat ([], (kf s (ntsA s o).2 3).2)
 simp only [List.length_nil] at hl
 exact ⟨kwc (P := OkR kcb s) (kff hs) _ _ (OkR.nil (ksc h1)), by show (itN (kn s) _ _).1.length ≤ 3; omega⟩
noncomputable def tQ (s : ByteArray) : Option Nat := (ke s oz).2
theorem krf (s : ByteArray) : inB s (tQ s) := koc s oz (krd s)
theorem kfg (s : ByteArray) : (tP s).size ≤ s.size := kge s oz (krd s)
theorem kqn {s : ByteArray} (hs : s.size ≤ 1048576) (hg : tG s = true) {q : Nat} (e : (sssA s (tQ s)).2 = some q) :
  0 < q ∧ q ≤ s.size ∧ s.extract 0 q = tenT (tV s).1.1 (tV s).1.2 (numA s (tQ s)).1 (ntsA s (tQ s)).1 (sssA s (tQ s)).1 := by
 have hB := krf s
 have h1 := kad s _ hB
 have hN := (kuf hB).1.b
 have hmr := kub (n := 20) h1 (by omega)
 have hmr2 := kub (n := 3) hN (by omega)
 have hl := kjb (kae s) (kf s (numA s (tQ s)).2 20).1.toNat ([], (kf s (numA s (tQ s)).2 20).2)
 have hl2 := kjb (kwd s) (kf s (ntsA s (tQ s)).2 3).1.toNat ([], (kf s (ntsA s (tQ s)).2 3).2)
 simp only [List.length_nil] at hl hl2
 have hlen : ((ntsA s (tQ s)).1.length : Int) = (kf s (numA s (tQ s)).2 20).1 := by show (((itN (kv s) _ _).1.length : Nat) : Int) = _; omega
 have hlen2 : ((sssA s (tQ s)).1.length : Int) = (kf s (ntsA s (tQ s)).2 3).1 := by show (((itN (kn s) _ _).1.length : Nat) : Int) = _; omega
 obtain ⟨p5, e5, a5, b5, c5⟩ := kfj hs (ksc hN) (kf s (ntsA s (tQ s)).2 3).1.toNat q e
 obtain ⟨p4, e4, a4, b4, c4⟩ := kze hN e5
 obtain ⟨p3, e3, a3, b3, c3⟩ := kcj (ksc h1) (kf s (numA s (tQ s)).2 20).1.toNat p4 e4
 obtain ⟨p2, e2, a2, b2, c2⟩ := kze h1 e3
 obtain ⟨p1, e1, a1, b1, c1⟩ := krc s _ hB p2 e2
 obtain ⟨p0, e0, a0, b0, c0⟩ := kke s oz (krd s) p1 e1
 rw [kyf] at e0; cases e0
 have hv : (tV s).2 = some (tP s).size := by simpa [tG] using hg
 obtain ⟨pv, ev, -, -, cv⟩ := kpj (s := tP s) (by have := kfg s; omega) (krd (tP s)) _ hv
 rw [kyf] at ev; cases ev
 rw [kzd] at cv
 have cv : tP s = volT (tV s).1.1 (tV s).1.2 := cv
 have c0 : s.extract 0 p1 = kic (tP s) := c0
 rw [cv] at c0
 rw [← hlen] at c2
 rw [← hlen2] at c4
 exact ⟨by omega, b5, kx c0 (kx c1 (kx c2 (kx c3 (kx c4 c5 (by omega) (by omega) b5) (by omega) (by omega) b5) (by omega) (by omega) b5) (by omega) (by omega) b5) (by omega) (by omega) b5⟩
noncomputable def tB (s : ByteArray) : Bool := (tG s && decide ((sssA s (tQ s)).2 = some s.size)) && tenB (tV s).1.1 (tV s).1.2 (numA s (tQ s)).1 (ntsA s (tQ s)).1 (sssA s (tQ s)).1
def zD : List DV := [.agg [.i .i64 0, .l [], .i .i64 0, .l [], .l []], .one (.b false)]
noncomputable def tD (s : ByteArray) : List DV := if tB s then [.agg [.i .i64 (tV s).1.1, .l (tV s).1.2, .i .i64 (numA s (tQ s)).1, .l (ntsA s (tQ s)).1, .l (sssA s (tQ s)).1], .one (.b true)] else zD
theorem kpn (s : ByteArray) : (sssA s none).2 = none := by
 have h1 : (ntsA s none).2 = none := by
  unfold ntsA; rw [kfn, kee]; exact kob (kqd s) _ _ rfl
 unfold sssA; rw [h1, kee]; exact kob (kzb s) _ _ rfl
theorem gz73 : ∀ a b c d e x y, okR zr81 zo81 (some ([.agg [.i .i64 a, .l b, .i .i64 c, .l d, .l e]], [[.s x, .b y]])) = true := fun _ _ _ _ _ _ _ => id rfl
theorem gz74 : ∀ a b c d e y, asI (resC (some ([.agg [.i .i64 a, .l b, .i .i64 c, .l d, .l e]], y)) 0 0) = a := fun _ _ _ _ _ _ => id rfl
theorem gz75 : ∀ a b c d e y, asL (resC (some ([.agg [.i .i64 a, .l b, .i .i64 c, .l d, .l e]], y)) 0 1) = b := fun _ _ _ _ _ _ => id rfl
theorem gz76 : ∀ a b c d e y, asI (resC (some ([.agg [.i .i64 a, .l b, .i .i64 c, .l d, .l e]], y)) 0 2) = c := fun _ _ _ _ _ _ => id rfl
theorem gz77 : ∀ a b c d e y, asL (resC (some ([.agg [.i .i64 a, .l b, .i .i64 c, .l d, .l e]], y)) 0 3) = d := fun _ _ _ _ _ _ => id rfl
theorem gz78 : ∀ a b c d e y, asL (resC (some ([.agg [.i .i64 a, .l b, .i .i64 c, .l d, .l e]], y)) 0 4) = e := fun _ _ _ _ _ _ => id rfl
theorem gz79 : ∀ x, okR zr25 zo25 (some ([.one (.b x)], [])) = true := fun _ => id rfl
theorem kgj (s : ByteArray) (hs : s.size ≤ 1048576) : t37 s = some (tD s, []) := by
 obtain ⟨r, b, e, h⟩ := kkn s
 have hE := krn h
 have hO : inB s (tO s) := by unfold tO; split; exact krf s; intro p hp; cases hp
 obtain ⟨v1, v2, v3, v4⟩ := kgg (s := tP s) (by have := kfg s; omega) (krd (tP s))
 have hn := kuf hO
 have hss := khk hs hO
 have ht := kpi (tV s).1.1 (tV s).1.2 (numA s (tO s)).1 (ntsA s (tO s)).1 (sssA s (tO s)).1 (by show (volA (tP s) oz).1.2.length ≤ 1048576; omega) v3 v4 (by omega) (fun r hr => (hn.1.t r hr).1) (by omega) (fun r hr => (hss.1.t r hr).1)
 simp only [t37, ta37, e, gz73, gz74, gz75, gz76, gz77, gz78, gz71, gz72, hE, ht, gz79, gz5, Bool.true_or, ka]
 unfold tD tB
 cases hg : tG s with
 | false =>
  have ho : tO s = none := by unfold tO; rw [hg]; rfl
  rw [ho, kpn]
  simp [zD]
 | true =>
  have ho : tO s = tQ s := by unfold tO; rw [hg]; rfl
  rw [ho, ← Bool.not_and, Bool.true_and]
  cases (decide ((sssA s (tQ s)).2 = some s.size) && tenB (tV s).1.1 (tV s).1.2 (numA s (tQ s)).1 (ntsA s (tQ s)).1 (sssA s (tQ s)).1) <;> rfl
theorem gz80 : ∀ a b c d e, flatR 5 [[D.i .i64 a, D.i .i64 b, D.i .i64 c, D.i .i64 d, D.i .i64 e]] = true := fun _ _ _ _ _ => id rfl
theorem krm {s : ByteArray} (hs : s.size ≤ 1048576) (k : Nat) (hk : k ≤ 1000) (p0 : Nat) (hp0 : p0 ≤ s.size) (b0 : Bool) (s0 : ByteArray) (b1 : Bool) (n0 n1 n2 n3 n4 n5 n6 a0 : Int) (l0 : List (List D)) (q1 : Int → Int → Int → Bool → Bool → List (List D) → List (List D) → Rs) (q2 : Int → Int → SV → Bool → SV → List (List D) → Rs) (E : Rs) (h1 : ∀ a b c d e f g, q1 a b c d e f g = E) (v : SV × SV × SV) :
  ((itN (kv s) k ([], some p0)).2 = none ∧ la36o1 t30 t77 t78 t79 t80 s b0 s0 b1 n0 n1 n2 n3 n4 n5 n6 [[.i .i64 a0], [.i .i64 (k : Int)]] l0 q1 q2 KK (p0 : Int) 0 v.1 v.2.1 v.2.2 [] = E) ∨
  ∃ q : Nat, (itN (kv s) k ([], some p0)).2 = some q ∧ ∃ a b c d, la36o1 t30 t77 t78 t79 t80 s b0 s0 b1 n0 n1 n2 n3 n4 n5 n6 [[.i .i64 a0], [.i .i64 (k : Int)]] l0 q1 q2 KK (p0 : Int) 0 v.1 v.2.1 v.2.2 [] = q2 (q : Int) a b c d (itN (kv s) k ([], some p0)).1 := by
 have hB0 : inB s (some p0) := by intro x hx; cases hx; exact hp0
 refine keb (α := Nat × List (List D)) (σ := SV × SV × SV) (fun m i x v => la36o1 t30 t77 t78 t79 t80 s b0 s0 b1 n0 n1 n2 n3 n4 n5 n6 [[.i .i64 a0], [.i .i64 (k : Int)]] l0 q1 q2 m (x.1 : Int) (i : Int) v.1 v.2.1 v.2.2 x.2) k (fun i x => itN (kv s) i ([], some p0) = (x.2, some x.1)) (fun y => ((itN (kv s) k ([], some p0)).2 = none ∧ y = E) ∨ ∃ q : Nat, (itN (kv s) k ([], some p0)).2 = some q ∧ ∃ a b c d, y = q2 (q : Int) a b c d (itN (kv s) k ([], some p0)).1)
  ?_ ?_ k 0 KK (p0, []) v (by omega) (by rw [kl]; omega) rfl
 ·intro m x v hp
  right
  refine ⟨x.1, by rw [hp], ?_⟩
  simp only [la36o1, lA21, lB21, isI, asI1, ko, ka, Bool.false_eq_true, if_false, hp]
  exact ⟨_, _, _, _, rfl⟩
 ·intro i m x v hi hp
  have hB := (kwc (P := OkR knb s) kjf i _ (OkR.nil hB0)).b
  rw [hp] at hB
  have hl := kjb (kae s) i ([], some p0)
  rw [hp] at hl
  have hl : x.2.length = i := by simpa using hl
  have hst : kv s (itN (kv s) i ([], some p0)) = (x.2 ++ [[.i .i64 (valN s 0 (some x.1)), .i .i64 (valN s 1 (some x.1)), .i .i64 (valN s 2 (some x.1)), .i .i64 (valN s 3 (some x.1)), .i .i64 (valN s 4 (some x.1))]], posN s 5 (some x.1)) := by rw [hp]; rfl
  rcases kuc hs 5 (by omega) hB with ⟨e, L, hv⟩ | ⟨q, e, _, hv⟩
  ·right; left
   have hv : t78 s (x.1 : Int) 5 = _ := hv
   refine ⟨kme (kqd s) hi (by rw [hst]; exact e), ?_⟩
   simp only [la36o1, lA21, lB21, isI, asI1, kj hi, hv, vs_w, vs_i, khc, ka, if_true, h1]
  ·left
   have hv : t78 s (x.1 : Int) 5 = some ([.one (.l [[D.i .i64 (valN s 0 (some x.1))], [D.i .i64 (valN s 1 (some x.1))], [D.i .i64 (valN s 2 (some x.1))], [D.i .i64 (valN s 3 (some x.1))], [D.i .i64 (valN s 4 (some x.1))]]), .one (.i .i64 (q : Int))], []) := hv
   simp only [la36o1, lA21, lB21, lA50, lB50, lA51, lB51, lA52, lB52, lA53, lB53, lA54, lB54, isI, asI1, kj hi, hv, vs_w, vs_l, vs_i, krb, gz80, kkd, hl, lim1 (show i ≤ 1000 by omega), Bool.and_true, ka, if_true, Bool.false_eq_true, if_false, kc i (by omega)]
   refine ⟨(q, _), (_, _, _), rfl, ?_⟩
   show kv s (itN (kv s) i ([], some p0)) = _
   rw [hst]
   exact congrArg (Prod.mk _) e
theorem rr_w (a b c) : okR zr80 zo80 (some ([.agg [.i .i64 a, .s b], .one (.b c)], [])) = true := id rfl
theorem rr_0 (a b c) : asI (resC (some ([.agg [.i .i64 a, .s b], .one (.b c)], [])) 0 0) = a := id rfl
theorem rr_1 (a b c) : asS (resC (some ([.agg [.i .i64 a, .s b], .one (.b c)], [])) 0 1) = b := id rfl
theorem rr_2 (a b c) : asB (resC (some ([.agg [.i .i64 a, .s b], .one (.b c)], [])) 1 0) = c := id rfl
theorem gz81 : ∀ a b c d e, flatR 5 [[D.i .i64 a, D.i .i64 b, D.i .i64 c, D.i .i64 d, D.s e]] = true := fun _ _ _ _ _ => id rfl
theorem kbn {s : ByteArray} (hs : s.size ≤ 1048576) (k : Nat) (hk : k ≤ 1000) (p0 : Nat) (hp0 : p0 ≤ s.size) (b0 : Bool) (s0 : ByteArray) (n0 : Int) (b1 b2 b3 : Bool) (n1 n2 n3 n4 n5 n6 n7 : Int) (l0 l1 l2 : List (List D)) (q1 : Int → SV → Int → Int → ByteArray → Bool → SV → Bool → Bool → Int → ByteArray → List (List D) → List (List D) → Rs) (q2 : Int → SV → Int → SV → SV → SV → SV → Bool → SV → List (List D) → Rs) (E : Rs) (F : List (List D) → Rs) (h1 : ∀ a b c d e f g h i j k l m, q1 a b c d e f g h i j k l m = E) (h2 : ∀ a b c d e f g h i l, q2 a b c d e f g h i l = F l) (v : SV × SV × SV × SV × SV × SV × SV) :
  ((itN (kn s) k ([], some p0)).2 = none ∧ la36o5 t30 t77 t78 t79 t80 s b0 s0 n0 b1 b2 b3 n1 n2 n3 n4 n5 n6 n7 l0 [[.i .i64 (k : Int)]] l1 l2 q1 q2 KK (p0 : Int) v.1 0 v.2.1 v.2.2.1 v.2.2.2.1 v.2.2.2.2.1 v.2.2.2.2.2.1 v.2.2.2.2.2.2 [] = E) ∨
  ∃ q : Nat, (itN (kn s) k ([], some p0)).2 = some q ∧ la36o5 t30 t77 t78 t79 t80 s b0 s0 n0 b1 b2 b3 n1 n2 n3 n4 n5 n6 n7 l0 [[.i .i64 (k : Int)]] l1 l2 q1 q2 KK (p0 : Int) v.1 0 v.2.1 v.2.2.1 v.2.2.2.1 v.2.2.2.2.1 v.2.2.2.2.2.1 v.2.2.2.2.2.2 [] = F (itN (kn s) k ([], some p0)).1 := by
 have hB0 : inB s (some p0) := by intro x hx; cases hx; exact hp0
 refine keb (α := Nat × List (List D)) (σ := SV × SV × SV × SV × SV × SV × SV) (fun m i x v => la36o5 t30 t77 t78 t79 t80 s b0 s0 n0 b1 b2 b3 n1 n2 n3 n4 n5 n6 n7 l0 [[.i .i64 (k : Int)]] l1 l2 q1 q2 m (x.1 : Int) v.1 (i : Int) v.2.1 v.2.2.1 v.2.2.2.1 v.2.2.2.2.1 v.2.2.2.2.2.1 v.2.2.2.2.2.2 x.2) k (fun i x => itN (kn s) i ([], some p0) = (x.2, some x.1)) (fun y => ((itN (kn s) k ([], some p0)).2 = none ∧ y = E) ∨ ∃ q : Nat, (itN (kn s) k ([], some p0)).2 = some q ∧ y = F (itN (kn s) k ([], some p0)).1)
  ?_ ?_ k 0 KK (p0, []) v (by omega) (by rw [kl]; omega) rfl
 ·intro m x v hp
  right
  refine ⟨x.1, by rw [hp], ?_⟩
  simp only [la36o5, lA10, lB10, isI, asI1, ko, ka, Bool.false_eq_true, if_false, h2, hp]
 ·intro i m x v hi hp
  have hB := (kwc (P := OkR kcb s) (kff hs) i _ (OkR.nil hB0)).b
  rw [hp] at hB
  have hl := kjb (kwd s) i ([], some p0)
  rw [hp] at hl
  have hl : x.2.length = i := by simpa using hl
  have hst : kn s (itN (kn s) i ([], some p0)) = (x.2 ++ [[.i .i64 (valN s 0 (some x.1)), .i .i64 (valN s 1 (some x.1)), .i .i64 (valN s 2 (some x.1)), .i .i64 (rdR (ke s (posN s 3 (some x.1))).1).2.1, .s (rdR (ke s (posN s 3 (some x.1))).1).2.2]], if (rdR (ke s (posN s 3 (some x.1))).1).1 then (ke s (posN s 3 (some x.1))).2 else none) := by rw [hp]; rfl
  have ht := kdf hs (kyb hB 3)
  rcases kuc hs 3 (by omega) hB with ⟨e, L, hv⟩ | ⟨q3, e, _, hv⟩
  ·right; left
   have hv : t78 s (x.1 : Int) 3 = _ := hv
   rw [e, kwe, kxg] at ht
   refine ⟨kme (kzb s) hi (by rw [hst, e, kwe]; split <;> rfl), ?_⟩
   simp only [la36o5, lA10, lB10, isI, asI1, kj hi, hv, vs_w, vs_i, ht, ta_w, ta_s, ta_i, knd, rr_w, rr_2, khc, Bool.true_or, ka, if_true, h1]
  ·have hv : t78 s (x.1 : Int) 3 = some ([.one (.l [[D.i .i64 (valN s 0 (some x.1))], [D.i .i64 (valN s 1 (some x.1))], [D.i .i64 (valN s 2 (some x.1))]]), .one (.i .i64 (q3 : Int))], []) := hv
   have hq : pos (posN s 3 (some x.1)) = (q3 : Int) := by rw [e]; rfl
   rw [hq] at ht
   cases e2 : (ke s (posN s 3 (some x.1))).2 with
   | none =>
    right; left
    rw [e2, kxg] at ht
    refine ⟨kme (kzb s) hi (by rw [hst, e2]; split <;> rfl), ?_⟩
    simp only [la36o5, lA10, lB10, isI, asI1, kj hi, hv, vs_w, vs_i, ht, ta_w, ta_s, ta_i, knd, rr_w, rr_2, khc, Bool.true_or, ka, if_true, h1]
   | some q =>
    rw [e2, ktd] at ht
    cases g : (rdR (ke s (posN s 3 (some x.1))).1).1 with
    | false =>
     right; left
     refine ⟨kme (kzb s) hi (by rw [hst, g]; rfl), ?_⟩
     simp only [la36o5, lA10, lB10, isI, asI1, kj hi, hv, vs_w, vs_i, ht, ta_w, ta_s, ta_i, knd, rr_w, rr_2, g, krb, Bool.not_false, Bool.or_true, ka, if_true, h1]
    | true =>
     left
     simp only [la36o5, lA10, lB10, lA30, lB30, lA31, lB31, lA32, lB32, isI, asI1, kj hi, hv, vs_w, vs_l, vs_i, ht, ta_w, ta_s, ta_i, knd, rr_w, rr_0, rr_1, rr_2, g, krb, Bool.not_true, Bool.or_self, gz81, kkd, hl, lim1 (show i ≤ 1000 by omega), Bool.and_true, ka, if_true, Bool.false_eq_true, if_false, kc i (by omega)]
     refine ⟨(q, _), (_, _, _, _, _, _, _), rfl, ?_⟩
     show kn s (itN (kn s) i ([], some p0)) = _
     rw [hst, g, e2]; rfl
theorem kbo (n3 : Int) (l4 l5 : List (List D)) : tenB 0 [] n3 l4 l5 = false := by
 unfold tenB volB
 have : rngB 0 2 100000 = false := rfl
 rw [this]; simp
theorem gz82 : ∀ a b c, okR zr79 zo79 (some ([.agg [.i .i64 a, .l b], .one (.b c)], [])) = true := fun _ _ _ => id rfl
theorem gz83 : ∀ a b c, asI (resC (some ([.agg [.i .i64 a, .l b], .one (.b c)], [])) 0 0) = a := fun _ _ _ => id rfl
theorem gz84 : ∀ a b c, asL (resC (some ([.agg [.i .i64 a, .l b], .one (.b c)], [])) 0 1) = b := fun _ _ _ => id rfl
theorem gz85 : ∀ x, okR zr30 zo30 (some ([.one (.s x)], [])) = true := fun _ => id rfl
theorem kmj (s : ByteArray) (hs : s.size ≤ 1048576) : t36 s = some (tD s, []) := by
 have hB := krf s
 have h1 := kad s _ hB
 have hsP : (tP s).size ≤ 1048576 := by have := kfg s; omega
 have no : tB s = false → some (zD, []) = (some (tD s, []) : Rs) := by intro h; unfold tD; rw [h]; rfl
 have bad : (sssA s (tQ s)).2 = none → tB s = false := by intro h; unfold tB; rw [h]; simp
 have badN : (ntsA s (tQ s)).2 = none → tB s = false := by
  intro h; apply bad; unfold sssA; rw [h, kee]; exact kob (kzb s) _ _ rfl
 have ht := kdf hs (krd s)
 rw [kej] at ht
 have ht : t77 s 0 = some ([.one (.s (tP s)), .one (.i .i64 (pos (tQ s)))], []) := ht
 have hrv := kik (tP s) hsP
 rcases kuc hs 2 (by omega) hB with ⟨e, L, hv⟩ | ⟨q2, e, hq2, hv⟩
 ·have hv : t78 s (pos (tQ s)) 2 = _ := hv
  refine Eq.trans ?_ (no (badN ?_))
  ·simp only [t36, ta36, ht, ta_w, ta_i, hv, vs_w, vs_i, khc, Bool.not_true, Bool.not_false, Bool.or_true, Bool.true_or, ka, if_true]; rfl
  ·have e : (numA s (numA s (tQ s)).2).2 = none := e
   have : (kf s (numA s (tQ s)).2 20).2 = none := by unfold kf; split <;> first | rfl | exact e
   unfold ntsA; rw [this]; exact kob (kqd s) _ _ rfl
 have hv : t78 s (pos (tQ s)) 2 = some ([.one (.l [[D.i .i64 (numA s (tQ s)).1], [D.i .i64 (numA s (numA s (tQ s)).2).1]]), .one (.i .i64 (q2 : Int))], []) := hv
 have e : (numA s (numA s (tQ s)).2).2 = some q2 := e
 have hmr := kjd s _ h1
 obtain ⟨px, -, hpx, hqx, -⟩ := krc s _ h1 q2 e
 have hs0 : ((⟨#[]⟩ : ByteArray).toList == s.toList) = false := by
  rw [Bool.eq_false_iff]; intro h
  have := congrArg ByteArray.size (kah _ _ h)
  have h0 : (⟨#[]⟩ : ByteArray).size = 0 := rfl
  omega
 by_cases g : (numA s (numA s (tQ s)).2).1 > 20
 ·refine Eq.trans ?_ (no (badN ?_))
  ·simp only [t36, ta36, ht, ta_w, ta_i, hv, vs_w, vs_i, vs_l, lA21, lB21, isI, asI1, krb, g, decide_true, Bool.not_true, Bool.not_false, Bool.or_true, Bool.true_or, ka, if_true]; rfl
  ·unfold ntsA; rw [keg g]; exact kob (kqd s) _ _ rfl
 have hm := kcg g
 have hn : ((numA s (numA s (tQ s)).2).1.toNat : Int) = (numA s (numA s (tQ s)).2).1 := Int.toNat_of_nonneg hmr.1
 have hnts : ntsA s (tQ s) = itN (kv s) (numA s (numA s (tQ s)).2).1.toNat ([], some q2) := by unfold ntsA; rw [hm, e]
 simp only [t36, ta36, ht, ta_w, ta_s, ta_i, hrv, gz82, gz83, gz84, hv, vs_w, vs_i, vs_l, lA21, lB21, lA20, lB20, isI, asI1, krb, g, decide_false, Bool.not_true, Bool.not_false, Bool.or_true, Bool.true_or, Bool.or_self, ka, if_true, Bool.false_eq_true, if_false]
 rcases krm hs (numA s (numA s (tQ s)).2).1.toNat (by omega) q2 hq2 false (tP s) false 0 0 0 0 (vD (tP s)).1 (vD (tP s)).1 (numA s (tQ s)).1 (numA s (tQ s)).1 (vD (tP s)).2 _ _ (some (zD, [])) (fun _ _ _ _ _ _ _ => rfl) (SV.undef, SV.undef, SV.undef) with ⟨f1, f2⟩ | ⟨q4, f1, a, b, c, d, f2⟩
 ·rw [hn] at f2
  exact Eq.trans f2 (no (badN (by rw [hnts]; exact f1)))
 rw [hn] at f2
 refine Eq.trans f2 ?_
 rw [← hnts] at f1 ⊢
 have hN := kuf hB
 have hB4 : inB s (some q4) := by rw [← f1]; exact hN.1.b
 have hq4 : q4 ≤ s.size := hB4 q4 rfl
 have hmr4 := kjd s _ hB4
 rcases kuc hs 1 (by omega) hB4 with ⟨e5, L, hv5⟩ | ⟨q5, e5, hq5, hv5⟩
 ·have hv5 : t78 s (q4 : Int) 1 = _ := hv5
  refine Eq.trans ?_ (no (bad ?_))
  ·simp only [hv5, vs_w, vs_i, khc, Bool.not_true, Bool.not_false, Bool.or_true, Bool.true_or, ka, if_true]; rfl
  ·have e5 : (numA s (some q4)).2 = none := e5
   have : (kf s (some q4) 3).2 = none := by unfold kf; split <;> first | rfl | exact e5
   unfold sssA; rw [f1, this]; exact kob (kzb s) _ _ rfl
 have hv5 : t78 s (q4 : Int) 1 = some ([.one (.l [[D.i .i64 (numA s (some q4)).1]]), .one (.i .i64 (q5 : Int))], []) := hv5
 have e5 : (numA s (some q4)).2 = some q5 := e5
 by_cases g5 : (numA s (some q4)).1 > 3
 ·refine Eq.trans ?_ (no (bad ?_))
  ·simp only [hv5, vs_w, vs_i, vs_l, lA10, lB10, isI, asI1, krb, g5, decide_true, Bool.not_true, Bool.not_false, Bool.or_true, Bool.true_or, ka, if_true]; rfl
  ·unfold sssA; rw [f1, keg g5]; exact kob (kzb s) _ _ rfl
 have hm5 := kcg g5
 have hn5 : ((numA s (some q4)).1.toNat : Int) = (numA s (some q4)).1 := Int.toNat_of_nonneg hmr4.1
 have hsss : sssA s (tQ s) = itN (kn s) (numA s (some q4)).1.toNat ([], some q5) := by unfold sssA; rw [f1, hm5, e5]
 simp only [hv5, vs_w, vs_i, vs_l, lA10, lB10, isI, asI1, krb, g5, decide_false, Bool.not_true, Bool.not_false, Bool.or_true, Bool.true_or, Bool.or_self, ka, if_true, Bool.false_eq_true, if_false]
 have hS := khk hs hB
 obtain ⟨o1, o2, o3, o4⟩ := kgg hsP (krd (tP s))
 have hvt : (vD (tP s)).2.length ≤ 1048576 ∧ (∀ r ∈ (vD (tP s)).2, typL kb r) ∧ (∀ r ∈ (vD (tP s)).2, szdL kb r) := by
  unfold vD; split
  ·exact ⟨by omega, o3, o4⟩
  ·exact ⟨by simp, by simp, by simp⟩
 rcases kbn hs (numA s (some q4)).1.toNat (by omega) q5 hq5 false (tP s) a false c false 0 0 0 0 (vD (tP s)).1 (vD (tP s)).1 (numA s (tQ s)).1 [[D.i .i64 (numA s (tQ s)).1], [D.i .i64 (numA s (numA s (tQ s)).2).1]] (vD (tP s)).2 (ntsA s (tQ s)).1 _ _ (some (zD, [])) (fun l0 => chk (okR zr30 zo30 (t30 (vD (tP s)).1 (vD (tP s)).2 (numA s (tQ s)).1 (ntsA s (tQ s)).1 l0)) <|
    if (!((asS (resC (t30 (vD (tP s)).1 (vD (tP s)).2 (numA s (tQ s)).1 (ntsA s (tQ s)).1 l0) 0 0)).toList == s.toList)) = true then some (zD, []) else some ([.agg [.i .i64 (vD (tP s)).1, .l (vD (tP s)).2, .i .i64 (numA s (tQ s)).1, .l (ntsA s (tQ s)).1, .l l0], .one (.b true)], [])) (fun _ _ _ _ _ _ _ _ _ _ _ _ _ => rfl) (fun _ _ _ _ _ _ _ _ _ _ => rfl) (b, SV.undef, SV.undef, SV.undef, d, SV.undef, SV.undef) with ⟨f6, f7⟩ | ⟨q, f6, f7⟩
 ·rw [hn5] at f7
  exact Eq.trans f7 (no (bad (by rw [hsss]; exact f6)))
 rw [hn5] at f7
 refine Eq.trans f7 ?_
 rw [← hsss] at f6 ⊢
 have hst := kqj (vD (tP s)).1 (vD (tP s)).2 (numA s (tQ s)).1 (ntsA s (tQ s)).1 (sssA s (tQ s)).1 hvt.1 hvt.2.1 hvt.2.2 (by omega) (fun r hr => (hN.1.t r hr).1) (by omega) (fun r hr => (hS.1.t r hr).1)
 simp only [hst, gz85, fs, ka]
 cases hvB : vB (tP s) with
 | false =>
  have hd : vD (tP s) = (0, []) := by unfold vD; rw [hvB]; rfl
  have : tB s = false := by
   unfold tB tenB
   have hx : (tG s && volB (tV s).1.1 (tV s).1.2) = false := hvB
   cases hg : tG s with
   | false => simp
   | true => rw [hg, Bool.true_and] at hx; rw [hx]; simp
  rw [hd, kbo, ← no this]
  simp only [hs0, Bool.false_eq_true, if_false, Bool.not_false, if_true]
 | true =>
  have hd : vD (tP s) = (tV s).1 := by unfold vD; rw [hvB]; rfl
  have hx : (tG s && volB (tV s).1.1 (tV s).1.2) = true := hvB
  rw [Bool.and_eq_true] at hx
  obtain ⟨hq0, hq1, hback⟩ := kqn hs hx.1 f6
  rw [hd]
  cases ht9 : tenB (tV s).1.1 (tV s).1.2 (numA s (tQ s)).1 (ntsA s (tQ s)).1 (sssA s (tQ s)).1 with
  | false =>
   have : tB s = false := by unfold tB; rw [ht9, Bool.and_false]
   rw [← no this]
   simp only [hs0, Bool.false_eq_true, if_false, Bool.not_false, if_true]
  | true =>
   simp only [if_true]
   rw [← hback]
   by_cases hq : q = s.size
   ·have hy : ((s.extract 0 q).toList == s.toList) = true := (kfe _ _).2 ((kve s q hq1).2 hq)
    have : tB s = true := by unfold tB; rw [hx.1, ht9, f6, hq]; simp
    unfold tD
    simp only [hy, this, Bool.not_true, Bool.false_eq_true, if_false, if_true]
   ·have hy : ((s.extract 0 q).toList == s.toList) = false := by
     rw [Bool.eq_false_iff]; intro h; exact hq ((kve s q hq1).1 (kah _ _ h))
    have : tB s = false := by unfold tB; rw [f6]; simp [hq]
    rw [← no this]
    simp only [hy, Bool.not_false, if_true]
theorem kph (x1 : ByteArray) (w1 : x1.size ≤ 1048576) :
  ∃ (r1 : Int) (r2 : List (List D)) (r3 : Int) (r4 r5 : List (List D)) (r6 : Bool), t36 x1 = some ([.agg [.i .i64 r1, .l r2, .i .i64 r3, .l r4, .l r5], .one (.b r6)], []) ∧ t37 x1 = some ([.agg [.i .i64 r1, .l r2, .i .i64 r3, .l r4, .l r5], .one (.b r6)], []) ∧
  r2.length ≤ 1048576 ∧ (∀ r ∈ r2, typL kb r) ∧ (∀ r ∈ r2, szdL kb r) ∧ r4.length ≤ 1048576 ∧ (∀ r ∈ r4, typL knb r) ∧ r5.length ≤ 1048576 ∧ (∀ r ∈ r5, typL kcb r) ∧ True := by
 rw [kmj x1 w1, kgj x1 w1]
 have hsP : (tP x1).size ≤ 1048576 := by have := kfg x1; omega
 obtain ⟨o1, o2, o3, o4⟩ := kgg hsP (krd (tP x1))
 have hN := kuf (krf x1)
 have hS := khk w1 (krf x1)
 unfold tD
 cases tB x1
 ·exact ⟨0, [], 0, [], [], false, rfl, rfl, by simp, by simp, by simp, by simp, by simp, by simp, by simp, trivial⟩
 ·exact ⟨_, _, _, _, _, true, rfl, rfl, by show (volA (tP x1) oz).1.2.length ≤ 1048576; omega, o3, o4, by omega, fun r hr => (hN.1.t r hr).1, by omega, fun r hr => (hS.1.t r hr).1, trivial⟩
theorem law10 (x1 : ByteArray) (wx1 : x1.size ≤ maxLen) : t10 x1 = some ([.one (.b true)], []) := by
 by_cases n1 : (x1.size : Int) > 1048576
 ·simp only [t10, ta10, n1, zr14, zo14, zr15, zo15, zr16, zo16, zr36, zo36, zr37, zo37, okR, isVs, isV, isD, isDs, isOs, resC, outC, nthR, nthO, cellsDV, nthD, asB, asI, asS, asL, Bool.and_true, Bool.true_and, Bool.true_or, BEq.rfl, ka, bne_self_eq_false, Bool.not_true, Bool.not_false, Bool.or_self, Bool.or_false, Bool.false_or, decide_true, decide_false, Bool.false_eq_true, if_false, if_true]
 have sx1 : x1.size ≤ 1048576 := by omega
 obtain ⟨r1, r2, r3, r4, r5, r6, k1, k2, qr2, tr2, szr2, qr4, tr4, qr5, tr5, _⟩ := kph x1 sx1
 have br2 := kjc r2 tr2 szr2
 have nr2 := ksb r2
 have mr4 : ∀ r ∈ r4, r.length = 5 := fun r hr => kpe _ r (tr4 r hr)
 have mr5 : ∀ r ∈ r5, r.length = 5 := fun r hr => kpe _ r (tr5 r hr)
 have f1 := kwi r1 r2 r3 r4 r5 tr2 szr2 qr2 mr4 qr4 mr5 qr5 (1) (by omega) (by omega)
 have f2 : decide (1 + kh r2 + 5 * (r4.length : Int) + 5 * (r5.length : Int) < 0) = false := decide_eq_false (by omega)
 have f3 := kni r1 r2 r3 r4 r5 tr2 szr2 qr2 mr4 qr4 mr5 qr5 (1) (by omega) (by omega)
 have f4 : decide (1 + kh r2 + 5 * (r4.length : Int) + 5 * (r5.length : Int) < 0) = false := decide_eq_false (by omega)
 simp only [t10, ta10, n1, k1, k2, kxi r1 r2 r3 r4 r5 qr2 tr2 szr2 qr4 tr4 qr5 tr5, f1, f2, f3, f4, zr14, zo14, zr15, zo15, zr16, zo16, zr36, zo36, zr37, zo37, okR, isVs, isV, isD, isDs, isOs, resC, outC, nthR, nthO, cellsDV, nthD, asB, asI, asS, asL, Bool.and_true, Bool.true_and, Bool.true_or, BEq.rfl, ka, bne_self_eq_false, Bool.not_true, Bool.not_false, Bool.or_self, Bool.or_false, Bool.false_or, decide_true, decide_false, Bool.false_eq_true, if_false, if_true]
end Go.Den.L10
