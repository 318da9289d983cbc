/- Plain laws about what the functions compute, the second part; no condition. -/
import Derived.Test.YthnpflcemooaeaaL11Pa
set_option linter.unusedVariables false
set_option linter.unusedSimpArgs false
namespace Go.Den.L11
open Go Go.IntWalk
theorem kdf : ∀ r, typL kpb r → isRow z90 r = true := fun r h => by
 obtain ⟨x1, x2, x3, x4, x5, rfl⟩ := kfk h; rfl
theorem kwd : ∀ r, typL kab r → isRow z81 r = true := fun r h => by
 obtain ⟨x1, x2, x3, x4, x5, rfl, -⟩ := kdh h; rfl
theorem kgm (a b c d e f g : Bool) : (((((!a || (b && c)) || !d) || !e) || !f) || !g) = !(((((a && !(b && c)) && d) && e) && f) && g) := by revert a b c d e f g; decide
theorem kdl (a b c d e f : Bool) : ((((!a || (b && c)) || !d) || !e) || !f) = !((((a && !(b && c)) && d) && e) && f) := by revert a b c d e f; decide
def nteB (l : Rw) (i : Nat) : Bool :=
 ((((rngB (asI (nthD (l.getD i []) 0)) 1 100000 && !(decide ((i : Int) > 0) && decide (asI (nthD (l.getD (i - 1) []) 0) > asI (nthD (l.getD i []) 0)))) && rngB (asI (nthD (l.getD i []) 1)) 1 3) && rngB (asI (nthD (l.getD i []) 2)) 1 1000000) && rngB (asI (nthD (l.getD i []) 3)) 1 22) && rngB (asI (nthD (l.getD i []) 4)) 0 200
def audB (l : Rw) : Bool := decide ((l.length : Int) ≤ 20) && allW (nteB l) l.length 0
theorem kpk (l : Rw) (i : Nat) : (((((rngB (asI (nthD (l.getD i []) 0)) 1 100000 && !(decide ((i : Int) > 0) && decide (asI (nthD (l.getD (i - 1) []) 0) > asI (nthD (l.getD i []) 0)))) && rngB (asI (nthD (l.getD i []) 1)) 1 3) && rngB (asI (nthD (l.getD i []) 2)) 1 1000000) && rngB (asI (nthD (l.getD i []) 3)) 1 22) && rngB (asI (nthD (l.getD i []) 4)) 0 200) = nteB l i := rfl
theorem knk (l : Rw) (hl : l.length ≤ 1048576) (ht : ∀ r ∈ l, typL kpb r) : t58 l = some ([.one (.b (audB l))], []) := by
 have e1 : ∀ a b c, (decide (b ≤ a) && decide (a ≤ c)) = rngB a b c := fun _ _ _ => rfl
 have key := fun b => kdd (σ := SV × SV) (fun m i s' => la58o1 t57 l false b (fun _ _ _ _ _ _ _ _ => some ([.one (.b false)], [])) (fun _ _ _ => some ([.one (.b true)], [])) m (i : Int) s'.1 s'.2) l.length (nteB l) (some ([.one (.b false)], [])) (some ([.one (.b true)], []))
  (by intro m s'; simp only [la58o1, kp, bft, if_false])
  (by
   intro i m s' hi
   have hr := kzb ht kdf i hi
   have hp := krc ht kdf hi (by omega)
   simp only [la58o1, kk hi, itn, hr, kde, gz7, gz8, e1, bto, ksc i (by omega), hp, ka, if_true, kc i (by omega), kgm, kpk]
   cases hq : nteB l i
   ·exact .inr ⟨rfl, rfl⟩
   ·exact .inl ⟨rfl, (_, _), rfl⟩) l.length 0 KK (SV.undef, SV.undef) (by omega) (by rw [kj]; omega)
 have e2 : decide ((l.length : Int) > 20) = !decide ((l.length : Int) ≤ 20) := by rw [Bool.eq_iff_iff]; simp
 simp only [t58, ta58, e2, audB]
 cases decide ((l.length : Int) ≤ 20)
 ·rfl
 ·simp only [bnt, bft, if_false, bta]
  refine Eq.trans (key _) ?_
  cases allW (nteB l) l.length 0 <;> rfl
theorem kok (l : Rw) (hl : l.length ≤ 1048576) (ht : ∀ r ∈ l, typL kpb r) : t65 l = some ([.one (.b (audB l))], []) := by
 have e1 : ∀ a b c, (decide (b ≤ a) && decide (a ≤ c)) = rngB a b c := fun _ _ _ => rfl
 have key := kdd (σ := SV × SV × SV) (fun m i s' => la65o0 t63 l false l (l.length : Int) (fun _ _ _ _ _ _ _ _ => some ([.one (.b false)], [])) (fun _ _ _ _ => some ([.one (.b (decide ((l.length : Int) ≤ (20 : Int))))], [])) m s'.1 (i : Int) s'.2.1 s'.2.2) l.length (nteB l) (some ([.one (.b false)], [])) (some ([.one (.b (decide ((l.length : Int) ≤ (20 : Int))))], []))
  (by intro m s'; simp only [la65o0, kp, bft, if_false])
  (by
   intro i m s' hi
   have hr := kzb ht kdf i hi
   have hp := krc ht kdf hi (by omega)
   simp only [la65o0, kk hi, itn, hr, kvc, gz26, gz8, e1, bto, ksc i (by omega), hp, ka, if_true, kc i (by omega), kgm, kpk]
   cases hq : nteB l i
   ·exact .inr ⟨rfl, rfl⟩
   ·exact .inl ⟨rfl, (_, _, _), rfl⟩) l.length 0 KK (SV.undef, SV.undef, SV.undef) (by omega) (by rw [kj]; omega)
 refine Eq.trans key ?_
 unfold audB
 cases allW (nteB l) l.length 0 <;> cases decide ((l.length : Int) ≤ 20) <;> rfl
def resB (c : Int) (s : BA) : Bool := rngB c 0 200 && decide ((s.size : Int) ≤ 400)
theorem kbg (c : Int) (s : BA) : t59 c s = some ([.one (.b (resB c s))], []) := rfl
theorem kqj (c : Int) (s : BA) : t64 c s = some ([.one (.b (resB c s))], []) := rfl
def sesB (l : Rw) (i : Nat) : Bool :=
 (((rngB (asI (nthD (l.getD i []) 0)) 1 3 && !(decide ((i : Int) > 0) && decide (asI (nthD (l.getD (i - 1) []) 0) ≥ asI (nthD (l.getD i []) 0)))) && rngB (asI (nthD (l.getD i []) 1)) 1 1000000) && rngB (asI (nthD (l.getD i []) 2)) 1 100000) && resB (asI (nthD (l.getD i []) 3)) (asS (nthD (l.getD i []) 4))
theorem kml (l : Rw) (i : Nat) : ((((rngB (asI (nthD (l.getD i []) 0)) 1 3 && !(decide ((i : Int) > 0) && decide (asI (nthD (l.getD (i - 1) []) 0) ≥ asI (nthD (l.getD i []) 0)))) && rngB (asI (nthD (l.getD i []) 1)) 1 1000000) && rngB (asI (nthD (l.getD i []) 2)) 1 100000) && resB (asI (nthD (l.getD i []) 3)) (asS (nthD (l.getD i []) 4))) = sesB l i := rfl
theorem kwi {l : Rw} (h : allW (sesB l) l.length 0 = true) : l.length ≤ 3 := by
 have hall : ∀ i, i < l.length → sesB l i = true := fun i hi => (kwb _ _).1 h i (by omega) (by omega)
 have key : ∀ i, i < l.length → (i : Int) + 1 ≤ asI (nthD (l.getD i []) 0) := by
  intro i
  induction i with
  | zero =>
   intro hi
   have := hall 0 hi
   simp only [sesB, rngB, Bool.and_eq_true, decide_eq_true_eq] at this
   have := this.1.1.1.1.1
   omega
  | succ i ih =>
   intro hi
   have h1 := ih (by omega)
   have := hall (i + 1) hi
   simp only [sesB, Bool.and_eq_true, Bool.not_eq_true', Bool.and_eq_false_iff, decide_eq_false_iff_not, Nat.add_sub_cancel] at this
   rcases this.1.1.1.2 with h2 | h2
   ·exact absurd (by omega : ((i + 1 : Nat) : Int) > 0) h2
   ·omega
 apply Classical.byContradiction
 intro hq
 have h1 := key 3 (by omega)
 have := hall 3 (by omega)
 simp only [sesB, rngB, Bool.and_eq_true, decide_eq_true_eq] at this
 have := this.1.1.1.1.2
 omega
noncomputable def tenB (n1 : Int) (l2 : Rw) (n3 : Int) (l4 l5 : Rw) : Bool := allW (sesB l5) l5.length 0 && ((rngB n3 0 30 && audB l4) && volB n1 l2)
theorem gz41 : ∀ x, okR zr56 zo56 (some ([.one (.b x)], [])) = true := fun _ => id rfl
theorem gz42 : ∀ x, okR zr58 zo58 (some ([.one (.b x)], [])) = true := fun _ => id rfl
theorem gz43 : ∀ x, okR zr59 zo59 (some ([.one (.b x)], [])) = true := fun _ => id rfl
theorem kcg (n1 : Int) (l2 : Rw) (n3 : Int) (l4 l5 : Rw) (hl : l2.length ≤ 1048576) (ht : ∀ r ∈ l2, typL ke r) (hz : ∀ r ∈ l2, szdL ke r) (hl4 : l4.length ≤ 1048576) (ht4 : ∀ r ∈ l4, typL kpb r) (hl5 : l5.length ≤ 1048576) (ht5 : ∀ r ∈ l5, typL kab r) :
  t23 n1 l2 n3 l4 l5 = some ([.one (.b (tenB n1 l2 n3 l4 l5))], []) := by
 have e1 : ∀ a b c, (decide (b ≤ a) && decide (a ≤ c)) = rngB a b c := fun _ _ _ => rfl
 have key := fun b => kdd (σ := SV × SV) (fun m i s' => la23o1 t56 t57 t58 t59 n1 l2 n3 l4 l5 false b n1 l2 n3 l4 l5 (fun _ _ _ _ _ _ _ _ => some ([.one (.b false)], [])) (fun _ _ _ => some ([.one (.b true)], [])) m (i : Int) s'.1 s'.2) l5.length (sesB l5) (some ([.one (.b false)], [])) (some ([.one (.b true)], []))
  (by intro m s'; simp only [la23o1, kp, bft, if_false])
  (by
   intro i m s' hi
   have hr := kzb ht5 kwd i hi
   have hp := krc ht5 kwd hi (by omega)
   simp only [la23o1, kk hi, itn, hr, kde, kbg, gz7, gz43, gz8, e1, bto, ksc i (by omega), hp, ka, if_true, kc i (by omega), kdl, kml]
   cases hq : sesB l5 i
   ·exact .inr ⟨rfl, rfl⟩
   ·exact .inl ⟨rfl, (_, _), rfl⟩) l5.length 0 KK (SV.undef, SV.undef) (by omega) (by rw [kj]; omega)
 have e2 : decide ((l5.length : Int) > 3) = !decide ((l5.length : Int) ≤ 3) := by rw [Bool.eq_iff_iff]; simp
 simp only [t23, ta23, kci n1 l2 hl ht hz, knk l4 hl4 ht4, kde, gz7, gz41, gz42, gz8, e1, e2, bto, ka, tenB]
 cases hv : volB n1 l2 <;> cases ha : audB l4 <;> cases hi : rngB n3 0 30 <;> cases h3 : decide ((l5.length : Int) ≤ 3)
 case true.true.true.true =>
  simp only [bnt, Bool.or_self, bft, if_false, bat]
  refine Eq.trans (key _) ?_
  cases allW (sesB l5) l5.length 0 <;> rfl
 case true.true.true.false =>
  have : allW (sesB l5) l5.length 0 = false := by
   rw [Bool.eq_false_iff]
   intro hq
   have := kwi hq
   rw [decide_eq_false_iff_not] at h3
   omega
  rw [this]
  simp
 all_goals simp
theorem gz44 : ∀ x, okR zr66 zo66 (some ([.one (.b x)], [])) = true := fun _ => id rfl
theorem gz45 : ∀ x, okR zr65 zo65 (some ([.one (.b x)], [])) = true := fun _ => id rfl
theorem gz46 : ∀ x, okR zr64 zo64 (some ([.one (.b x)], [])) = true := fun _ => id rfl
theorem krj (n1 : Int) (l2 : Rw) (n3 : Int) (l4 l5 : Rw) (hl : l2.length ≤ 1048576) (ht : ∀ r ∈ l2, typL ke r) (hz : ∀ r ∈ l2, szdL ke r) (hl4 : l4.length ≤ 1048576) (ht4 : ∀ r ∈ l4, typL kpb r) (hl5 : l5.length ≤ 1048576) (ht5 : ∀ r ∈ l5, typL kab r) :
  t25 n1 l2 n3 l4 l5 = some ([.one (.b (tenB n1 l2 n3 l4 l5))], []) := by
 have e1 : ∀ a b c, (decide (b ≤ a) && decide (a ≤ c)) = rngB a b c := fun _ _ _ => rfl
 simp only [t25, ta25, khn n1 l2 hl ht hz, kok l4 hl4 ht4, kvc, gz26, gz44, gz45, gz8, e1, bto, ka, tenB]
 refine Eq.trans (kdd (σ := SV × SV × SV) (fun m i s' => la25o0 t63 t64 t65 t66 n1 l2 n3 l4 l5 false l5 (l5.length : Int) n1 l2 n3 l4 l5 (fun _ _ _ _ _ _ _ _ => some ([.one (.b false)], [])) (fun _ _ _ _ => some ([.one (.b ((rngB n3 0 30 && audB l4) && volB n1 l2))], [])) m s'.1 (i : Int) s'.2.1 s'.2.2) l5.length (sesB l5) (some ([.one (.b false)], [])) (some ([.one (.b ((rngB n3 0 30 && audB l4) && volB n1 l2))], []))
  (by intro m s'; simp only [la25o0, kp, bft, if_false])
  (by
   intro i m s' hi
   have hr := kzb ht5 kwd i hi
   have hp := krc ht5 kwd hi (by omega)
   simp only [la25o0, kk hi, itn, hr, kvc, kqj, gz26, gz46, gz8, e1, bto, ksc i (by omega), hp, ka, if_true, kc i (by omega), kdl, kml]
   cases hq : sesB l5 i
   ·exact .inr ⟨rfl, rfl⟩
   ·exact .inl ⟨rfl, (_, _, _), rfl⟩) l5.length 0 KK (SV.undef, SV.undef, SV.undef) (by omega) (by rw [kj]; omega)) ?_
 cases allW (sesB l5) l5.length 0 <;> rfl
noncomputable def rowT (r : List D) : Bool := tenB (asI (nthD r 0)) (asL (nthD r 1)) (asI (nthD r 2)) (asL (nthD r 3)) (asL (nthD r 4))
noncomputable def staB (l : Rw) : Bool := decide ((l.length : Int) = 3) && allW (fun i => rowT (l.getD i [])) l.length 0
theorem kzh : ∀ r, typL km r → isRow z28 r = true := fun r h => by
 obtain ⟨x1, x2, x3, x4, x5, rfl, -⟩ := kod h; rfl
structure TenR (r : List D) : Prop where
 l2 : (asL (nthD r 1)).length ≤ 1048576
 t2 : ∀ e ∈ asL (nthD r 1), typL ke e
 z2 : ∀ e ∈ asL (nthD r 1), szdL ke e
 l4 : (asL (nthD r 3)).length ≤ 1048576
 t4 : ∀ e ∈ asL (nthD r 3), typL kpb e
 l5 : (asL (nthD r 4)).length ≤ 1048576
 t5 : ∀ e ∈ asL (nthD r 4), typL kab e
theorem tenR {r : List D} (h : typL km r) (hz : szdL km r) : TenR r := by
 obtain ⟨x1, x2, x3, x4, x5, rfl, -, a2, -, a4, -, a5⟩ := kod h
 obtain ⟨-, ⟨b2, c2⟩, -, ⟨b4, -⟩, ⟨b5, -⟩, -⟩ := hz
 exact ⟨b2, a2, c2, b4, a4, b5, a5⟩
theorem gz47 : ∀ x, okR zr23 zo23 (some ([.one (.b x)], [])) = true := fun _ => id rfl
theorem kkk (l : Rw) (hl : l.length ≤ 1048576) (ht : ∀ r ∈ l, typL km r) (hz : ∀ r ∈ l, szdL km r) : t27 l = some ([.one (.b (staB l))], []) := by
 have key := fun b => kdd (σ := SV × SV) (fun m i s' => la27o1 t23 l false b (fun _ _ _ => some ([.one (.b false)], [])) (fun _ _ _ => some ([.one (.b true)], [])) m (i : Int) s'.1 s'.2) l.length (fun i => rowT (l.getD i [])) (some ([.one (.b false)], [])) (some ([.one (.b true)], []))
  (by intro m s'; simp only [la27o1, kp, bft, if_false])
  (by
   intro i m s' hi
   have hr := kzb ht kzh i hi
   have hT := tenR (kcc ht hi) (hz _ (knb hi))
   have ho := kcg (asI (nthD (l.getD i []) 0)) (asL (nthD (l.getD i []) 1)) (asI (nthD (l.getD i []) 2)) (asL (nthD (l.getD i []) 3)) (asL (nthD (l.getD i []) 4)) hT.l2 hT.t2 hT.z2 hT.l4 hT.t4 hT.l5 hT.t5
   simp only [la27o1, kk hi, itn, hr, ho, gz47, gz8, ka, if_true, kc i (by omega)]
   rw [show tenB (asI (nthD (l.getD i []) 0)) (asL (nthD (l.getD i []) 1)) (asI (nthD (l.getD i []) 2)) (asL (nthD (l.getD i []) 3)) (asL (nthD (l.getD i []) 4)) = rowT (l.getD i []) from rfl]
   cases hq : rowT (l.getD i [])
   ·exact .inr ⟨rfl, rfl⟩
   ·exact .inl ⟨rfl, (_, _), rfl⟩) l.length 0 KK (SV.undef, SV.undef) (by omega) (by rw [kj]; omega)
 have e3 : ((l.length : Int) != 3) = !decide ((l.length : Int) = 3) := rfl
 simp only [t27, ta27, e3, staB]
 cases decide ((l.length : Int) = 3)
 ·rfl
 ·simp only [bnt, bft, if_false, bta]
  refine Eq.trans (key _) ?_
  cases allW (fun i => rowT (l.getD i [])) l.length 0 <;> rfl
theorem kap {l : Rw} (h : staB l = true) : l.length = 3 ∧ ∀ r ∈ l, rowT r = true := by
 simp only [staB, Bool.and_eq_true, decide_eq_true_eq] at h
 refine ⟨by omega, fun r hr => ?_⟩
 obtain ⟨i, hi, rfl⟩ := List.mem_iff_getElem.1 hr
 have := (kwb _ _).1 h.2 i (by omega) (by omega)
 simpa only [klb hi] using this
theorem khf (n : Nat) (h : n < 2 ^ 64) : (BitVec.ofInt 64 (n : Int)).toNat = n := by
 rw [BitVec.toNat_ofInt]; omega
def vp : Nat → Int → Rw → Int × Rw
 | 0, n, l => (n, l)
 | k + 1, n, l => if n ≥ 128 then vp k (n / 128) (l ++ [[.i .u8 (128 + n % 128)]]) else (n, l)
theorem kge : ∀ {l : Rw} {x : Int}, isBytes l = true → isBytes (l ++ [[.i .u8 x]]) = true
 | [], x, _ => rfl
 | r :: l, x, h => by
  unfold isBytes at h
  split at h
  ·rename_i e; cases e
  ·rename_i e; cases e; simp only [List.cons_append, isBytes]; exact kge h
  ·cases h
theorem kxh : ∀ (l : Rw), (bytesD l).length ≤ l.length
 | [] => by simp [bytesD]
 | r :: l => by
  unfold bytesD
  split
  ·rename_i e; cases e; simpa using kxh l
  ·simp
theorem kdn : ∀ (k : Nat) (n : Int) (l : Rw), isBytes l = true → isBytes (vp k n l).2 = true ∧ (vp k n l).2.length ≤ l.length + k
 | 0, n, l, h => ⟨h, Nat.le_refl _⟩
 | k + 1, n, l, h => by
  unfold vp
  split
  ·have := kdn k (n / 128) (l ++ [[.i .u8 (128 + n % 128)]]) (kge h)
   simp only [List.length_append, List.length_cons, List.length_nil] at this
   exact ⟨this.1, by omega⟩
  ·exact ⟨h, by simp only; omega⟩
theorem kvo (n : Int) (h : 0 ≤ n) : n.tdiv 128 = n / 128 := Int.tdiv_eq_ediv_of_nonneg h
theorem kwo (n : Int) (h : 0 ≤ n) : n.tmod 128 = n % 128 := Int.tmod_eq_emod_of_nonneg h
theorem kon (q : Int → Bool → Rw → Rs) (s0 : BA) (b0 : Bool) : ∀ (k m : Nat) (n : Int) (v : SV) (l : Rw), 0 ≤ n → n < 128 ^ (k + 1) → n < 4611686018427387904 → k < m → l.length + k < 1000 →
  la69o1 t57 s0 b0 q m n v l = q (vp k n l).1 false (vp k n l).2 := by
 intro k
 induction k with
 | zero =>
  intro m n v l h0 h1 h2 h3 h4
  obtain ⟨m, rfl⟩ : ∃ m', m = m' + 1 := ⟨m - 1, by omega⟩
  have e : ¬ n ≥ 128 := by omega
  simp [la69o1, e, vp]
 | succ k ih =>
  intro m n v l h0 h1 h2 h3 h4
  obtain ⟨m, rfl⟩ : ∃ m', m = m' + 1 := ⟨m - 1, by omega⟩
  by_cases e : n ≥ 128
  ·simp only [la69o1, vp, e, decide_true, if_true, kwo n h0, kvo n h0]
   rw [ki (n / 128) (by omega), ki (128 + n % 128) (by omega), u8_in _ (by omega), kvd (by simp [flatR, allSc, isSc, lim]; omega)]
   refine ih m (n / 128) _ _ (by omega) ?_ (by omega) (by omega) (by simp; omega)
   rw [Int.ediv_lt_iff_lt_mul (by omega)]
   rw [Int.pow_succ] at h1
   exact h1
  ·simp [la69o1, e, vp]
def varS (n : Int) : BA := if 0 ≤ n ∧ n ≤ 562949953421311 then ⟨(bytesD ((vp 6 n []).2 ++ [[.i .u8 (IntKind.wrap .u8 (vp 6 n []).1)]])).toArray⟩ else ⟨#[]⟩
theorem kg (n : Int) : (varS n).size ≤ 10 := by
 unfold varS
 split
 ·have h := (kdn 6 n [] rfl).2
  have h2 := kxh ((vp 6 n []).2 ++ [[.i .u8 (IntKind.wrap .u8 (vp 6 n []).1)]])
  simp only [List.length_append, List.length_cons, List.length_nil] at h h2
  show (List.toArray _).size ≤ 10
  simp only [List.size_toArray]
  omega
 ·exact Nat.zero_le _
theorem kqc (n : Int) : t69 n = some ([.one (.s (varS n))], []) := by
 unfold t69 ta69 varS
 simp only [kde, zr57, zo57]
 by_cases h : 0 ≤ n ∧ n ≤ 562949953421311
 ·simp [h]
  rw [kon _ _ _ 6 KK n .undef [] h.1 (by omega) (by omega) (by rw [kj]; omega) (by simp)]
  have h1 := kdn 6 n [] rfl
  simp only [List.length_nil] at h1
  rw [kvd (by simp [flatR, allSc, isSc, lim]; omega), kvd (kge h1.1)]
 ·have : ((decide (0 ≤ n) && decide (n ≤ 562949953421311)) = false) := by simpa using h
  simp [h, this]
def ksb (s : BA) : BA := varS (s.size : Int) ++ s
theorem kac (s : BA) : (ksb s).size ≤ 10 + s.size := by
 unfold ksb; rw [ByteArray.size_append]; have := kg (s.size : Int); omega
theorem khe (s : BA) (h : (s.size : Int) ≤ 1000000000) : t67 s = some ([.one (.s (ksb s))], []) := by
 have := kg (s.size : Int)
 simp only [t67, ta67, kqc, zr69, zo69, resC, nthR, cellsDV, nthD, asS, okR, isVs, isV, isD, isOs, bat, ka]
 rw [kvd (decide_eq_true (by unfold lim; omega))]; rfl
def catL (f : List D → BA) : Rw → BA
 | [] => ⟨#[]⟩
 | r :: l => f r ++ catL f l
theorem khh (f : List D → BA) : ∀ (a b : Rw), catL f (a ++ b) = catL f a ++ catL f b
 | [], b => by simp only [List.nil_append, catL, ByteArray.empty_append]; exact ByteArray.empty_append.symm
 | r :: a, b => by simp only [List.cons_append, catL, khh f a b, ByteArray.append_assoc]
theorem kse (f : List D → BA) {l : Rw} {i : Nat} (hi : i < l.length) : catL f (l.take (i + 1)) = catL f (l.take i) ++ f l[i] := by
 rw [List.take_succ_eq_append_getElem hi, khh]
 congr 1
 simp only [catL]; exact ByteArray.append_empty
theorem kkd {f : List D → BA} {c : Nat} : ∀ (l : Rw), (∀ r ∈ l, (f r).size ≤ c) → (catL f l).size ≤ l.length * c
 | [], _ => Nat.zero_le _
 | r :: l, h => by
  have h1 := kkd l (fun r hr => h r (by simp [hr]))
  have h2 := h r (by simp)
  simp only [catL, ByteArray.size_append, List.length_cons, Nat.add_mul]; omega
theorem kie {f : List D → BA} {c n : Nat} {l : Rw} (h : ∀ r ∈ l, (f r).size ≤ c) (i : Nat) (hn : l.length ≤ n) : (catL f (l.take i)).size ≤ n * c := by
 refine Nat.le_trans (kkd _ fun r hr => h r (List.mem_of_mem_take hr)) ?_
 exact Nat.mul_le_mul_right _ (by simp; omega)
theorem kef (s : BA) : s ++ (⟨#[]⟩ : BA) = s := ByteArray.append_empty
theorem kib {a : Nat} (h : a ≤ 1000000000) (x : Rs) : chk (decide (a ≤ lim)) x = x := kvd (decide_eq_true (by unfold lim; omega)) x
def dirS (r : List D) : BA := ksb (asS (nthD r 0)) ++ varS (asI (nthD r 1))
def inoS (r : List D) : BA := varS (asI (nthD r 0)) ++ (varS (asI (nthD r 1)) ++ (varS (asI (nthD r 2)) ++ (varS (asI (nthD r 3)) ++ (varS (asI (nthD r 4)) ++ (varS (asI (nthD r 7)) ++ (varS (asI (nthD r 8)) ++ (ksb (asS (nthD r 5)) ++ (varS ((nmsL r).length : Int) ++ catL dirS (nmsL r)))))))))
def volT (n1 : Int) (l : Rw) : BA := varS n1 ++ (varS (l.length : Int) ++ catL inoS l)
def nteS (r : List D) : BA := varS (asI (nthD r 0)) ++ (varS (asI (nthD r 1)) ++ (varS (asI (nthD r 2)) ++ (varS (asI (nthD r 3)) ++ varS (asI (nthD r 4)))))
def rsS (c : Int) (s : BA) : BA := if resB c s then varS c ++ s else ⟨#[]⟩
def sesS (r : List D) : BA := varS (asI (nthD r 0)) ++ (varS (asI (nthD r 1)) ++ (varS (asI (nthD r 2)) ++ ksb (rsS (asI (nthD r 3)) (asS (nthD r 4)))))
def tenT (n1 : Int) (l2 : Rw) (n3 : Int) (l4 l5 : Rw) : BA := ksb (volT n1 l2) ++ (varS n3 ++ (varS (l4.length : Int) ++ (catL nteS l4 ++ (varS (l5.length : Int) ++ catL sesS l5))))
structure Shrt (l : Rw) : Prop where
 few : Few l
 dat : ∀ r ∈ l, (asS (nthD r 5)).size ≤ 64
 nm : ∀ r ∈ l, ∀ e ∈ nmsL r, (asS (nthD e 0)).size ≤ 8
theorem kmi {n1 : Int} {l : Rw} (ht : ∀ r ∈ l, typL ke r) (h : volB n1 l = true) : Shrt l := by
 simp only [volB, Bool.and_eq_true] at h
 have hlen : l.length ≤ 24 := by have := h.1.1.2; simp only [rngB, Bool.and_eq_true, decide_eq_true_eq] at this; omega
 have hC := h.2.1
 have hG := kri ht hlen hC
 refine ⟨hG.toFew, hG.dat, ?_⟩
 intro r hr e he
 obtain ⟨i, hi, rfl⟩ := List.mem_iff_getElem.1 hr
 have h1 := (kwb _ _).1 hC i (by omega) (by omega)
 rw [frsB, Bool.and_eq_true, klb hi] at h1
 have h1 := h1.2
 simp only [rowB, kte, Bool.and_eq_true] at h1
 have h2 := h1.2
 by_cases hk : asI (nthD l[i] 1) = 2
 ·rw [if_pos hk] at h2
  simp only [Bool.and_eq_true] at h2
  obtain ⟨j, hj, rfl⟩ := List.mem_iff_getElem.1 he
  have h3 := (kwb _ _).1 h2.2 j (by omega) (by omega)
  simp only [nmOk, kzd, Bool.and_eq_true, decide_eq_true_eq, klb hj] at h3
  have := h3.1.1.1.1.1.1.2
  omega
 ·rw [if_neg hk] at h2
  simp only [Bool.and_eq_true, decide_eq_true_eq] at h2
  have h0 : (nmsL l[i]).length = 0 := by have := h2.1.1.1; omega
  rw [List.length_eq_zero_iff.1 h0] at he
  cases he
theorem kbj {r : List D} (h : (asS (nthD r 0)).size ≤ 8) : (dirS r).size ≤ 28 := by
 have := kac (asS (nthD r 0)); have := kg (asI (nthD r 1))
 unfold dirS; simp only [ByteArray.size_append]; omega
theorem kfj {l : Rw} (h : Shrt l) : ∀ r ∈ l, (inoS r).size ≤ 500 := by
 intro r hr
 have h1 := kkd (f := dirS) (c := 28) (nmsL r) (fun e he => kbj (h.nm r hr e he))
 have h2 := h.few.k r hr
 have h3 := h.dat r hr
 have := kac (asS (nthD r 5))
 have := kg (asI (nthD r 0)); have := kg (asI (nthD r 1)); have := kg (asI (nthD r 2)); have := kg (asI (nthD r 3)); have := kg (asI (nthD r 4)); have := kg (asI (nthD r 7)); have := kg (asI (nthD r 8)); have := kg ((nmsL r).length : Int)
 unfold inoS; simp only [ByteArray.size_append]; omega
theorem klj {n1 : Int} {l : Rw} (h : Shrt l) : (volT n1 l).size ≤ 12020 := by
 have h1 := kkd l (kfj h)
 have h2 := h.few.n
 have := kg n1; have := kg (l.length : Int)
 unfold volT; simp only [ByteArray.size_append]; omega
theorem kng (r : List D) : (nteS r).size ≤ 50 := by
 have := kg (asI (nthD r 0)); have := kg (asI (nthD r 1)); have := kg (asI (nthD r 2)); have := kg (asI (nthD r 3)); have := kg (asI (nthD r 4))
 unfold nteS; simp only [ByteArray.size_append]; omega
theorem kmk (c : Int) (s : BA) : (rsS c s).size ≤ 410 := by
 unfold rsS
 split
 ·rename_i h
  simp only [resB, Bool.and_eq_true, decide_eq_true_eq] at h
  have := kg c
  simp only [ByteArray.size_append]; omega
 ·exact Nat.zero_le _
theorem kjj (r : List D) : (sesS r).size ≤ 450 := by
 have := kg (asI (nthD r 0)); have := kg (asI (nthD r 1)); have := kg (asI (nthD r 2)); have := kmk (asI (nthD r 3)) (asS (nthD r 4)); have := kac (rsS (asI (nthD r 3)) (asS (nthD r 4)))
 unfold sesS; simp only [ByteArray.size_append]; omega
theorem gz48 : ∀ x, okR zr69 zo69 (some ([.one (.s x)], [])) = true := fun _ => id rfl
theorem gz49 : ∀ x, okR zr67 zo67 (some ([.one (.s x)], [])) = true := fun _ => id rfl
theorem gz50 : ∀ x, asS (resC (some ([.one (.s x)], [])) 0 0) = x := fun _ => id rfl
theorem kwl (n0 : Int) (l0 : Rw) (s0 : BA) (n1 : Int) (b0 b1 : Bool) (n2 : Int) (l1 : Rw) (n3 n4 n5 n6 n7 : Int) (s1 : BA) (n8 n9 : Int) (q1 : BA → Int → Bool → Rs) (L : Rw) (hL : ∀ r ∈ L, typL kv r) (hk : L.length ≤ 12) (hn : ∀ e ∈ L, (asS (nthD e 0)).size ≤ 8) (s : BA) (hs : s.size ≤ 1000000) (v : SV) :
  ∃ a b, la68o3 t56 t67 t69 n0 l0 s0 n1 b0 b1 n2 l1 n3 n4 n5 n6 n7 s1 L n8 n9 q1 KK s 0 v = q1 (s ++ catL dirS L) a b := by
 refine kgb (α := BA) (σ := SV) (fun m i s v => la68o3 t56 t67 t69 n0 l0 s0 n1 b0 b1 n2 l1 n3 n4 n5 n6 n7 s1 L n8 n9 q1 m s (i : Int) v) L.length (fun i t => t = s ++ catL dirS (L.take i)) (fun y => ∃ a b, y = q1 (s ++ catL dirS L) a b)
  ?_ ?_ L.length 0 KK s v (by omega) (by rw [kj]; omega) (by simp only [List.take_zero, catL, kef])
 ·intro m t v ht
  rw [List.take_length] at ht
  simp only [la68o3, kp, bft, if_false, ht]
  exact ⟨_, _, rfl⟩
 ·intro i m t v hi ht
  left
  have hr := kgd hL knc i hi
  have hg : L.getD i [] = L[i] := klb hi
  have hsz := kie (f := dirS) (fun e he => kbj (hn e he)) i hk
  have h8 := hn _ (List.getElem_mem hi)
  have a1 := kac (asS (nthD L[i] 0)); have a2 := kg (asI (nthD L[i] 1))
  have hts : t.size ≤ 1001000 := by rw [ht, ByteArray.size_append]; omega
  have hp := khe (asS (nthD L[i] 0)) (by omega)
  simp only [la68o3, kk hi, itn, hg, hr, hp, kqc, gz48, gz49, gz50, ka, if_true, kc i (by omega)]
  rw [kib (by first | omega | (simp only [ByteArray.size_append]; omega)), kib (by first | omega | (simp only [ByteArray.size_append]; omega))]
  refine ⟨_, _, rfl, ?_⟩
  rw [kse dirS hi, ht]
  simp only [dirS, ByteArray.append_assoc]
theorem kxl (n0 : Int) (l0 : Rw) (s0 : BA) (b0 : Bool) (n1 : Int) (q1 : BA → Int → SV → Bool → SV → Rs) (h1 : ∀ a b c d e, q1 a b c d e = some ([.one (.s a)], [])) (l : Rw) (h : Shrt l) (s : BA) (hs : s.size ≤ 100) (v : SV × SV × SV) :
    la68o1 t56 t67 t69 n0 l0 s0 b0 n1 l q1 KK s 0 v.1 v.2.1 v.2.2 = some ([.one (.s (s ++ catL inoS l))], []) := by
  have hn := h.few.n
  refine kgb (α := BA) (σ := SV × SV × SV) (fun m i s v => la68o1 t56 t67 t69 n0 l0 s0 b0 n1 l q1 m s (i : Int) v.1 v.2.1 v.2.2) l.length (fun i t => t = s ++ catL inoS (l.take i)) (fun y => y = some ([.one (.s (s ++ catL inoS l))], []))
    ?_ ?_ l.length 0 KK s v (by omega) (by rw [kj]; omega) (by simp only [List.take_zero, catL, kef])
  · intro m t v ht
    rw [List.take_length] at ht
    simp only [la68o1, kp, bft, if_false, ht, h1]
  · intro i m t v hi ht
    left
    have hr := kgd h.few.t ku i hi
    have hg : l.getD i [] = l[i] := klb hi
    have hm := List.getElem_mem hi
    have hsz := kie (kfj h) i hn
    have h8 := h.dat _ hm
    have a0 := kac (asS (nthD l[i] 5)); have a1 := kg (asI (nthD l[i] 0)); have a2 := kg (asI (nthD l[i] 1)); have a3 := kg (asI (nthD l[i] 2)); have a4 := kg (asI (nthD l[i] 3)); have a5 := kg (asI (nthD l[i] 4)); have a6 := kg (asI (nthD l[i] 7)); have a7 := kg (asI (nthD l[i] 8)); have a8 := kg ((asL (nthD l[i] 6)).length : Int)
    have hts : t.size ≤ 13000 := by rw [ht, ByteArray.size_append]; omega
    have hp := khe (asS (nthD l[i] 5)) (by omega)
    simp only [la68o1, kk hi, itn, hg, hr, hp, kqc, gz48, gz49, gz50, ka, if_true, kc i (by omega)]
    rw [kib (by first | omega | (simp only [ByteArray.size_append]; omega)), kib (by first | omega | (simp only [ByteArray.size_append]; omega)), kib (by first | omega | (simp only [ByteArray.size_append]; omega)), kib (by first | omega | (simp only [ByteArray.size_append]; omega)), kib (by first | omega | (simp only [ByteArray.size_append]; omega)), kib (by first | omega | (simp only [ByteArray.size_append]; omega)), kib (by first | omega | (simp only [ByteArray.size_append]; omega)), kib (by first | omega | (simp only [ByteArray.size_append]; omega)), kib (by first | omega | (simp only [ByteArray.size_append]; omega))]
    obtain ⟨a, b, e⟩ := kwl n0 l0 s0 (i : Int) b0 true n1 l (asI (nthD l[i] 0)) (asI (nthD l[i] 1)) (asI (nthD l[i] 2)) (asI (nthD l[i] 3)) (asI (nthD l[i] 4)) (asS (nthD l[i] 5)) (asI (nthD l[i] 7)) (asI (nthD l[i] 8)) (fun (s1 : BA) (n2 : Int) (b1 : Bool) =>
       la68o1 t56 t67 t69 n0 l0 s0 b0 n1 l q1 m s1 ((i + 1 : Nat) : Int) (.d (.i .i64 n2)) (.d (.b true)) (.d (.b b1))) (nmsL l[i]) (knf (h.few.t _ hm)) (h.few.k _ hm) (h.nm _ hm)
       (((((((((t ++ varS (asI (nthD l[i] 0))) ++ varS (asI (nthD l[i] 1))) ++ varS (asI (nthD l[i] 2))) ++ varS (asI (nthD l[i] 3))) ++ varS (asI (nthD l[i] 4))) ++ varS (asI (nthD l[i] 7))) ++ varS (asI (nthD l[i] 8))) ++ ksb (asS (nthD l[i] 5))) ++ varS ((asL (nthD l[i] 6)).length : Int)) (by simp only [ByteArray.size_append]; omega) v.2.2
    refine ⟨_, (_, _, _), e, ?_⟩
    rw [kse inoS hi, ht]
    simp only [inoS, ByteArray.append_assoc]
    rfl
theorem kmg (n1 : Int) (l : Rw) (hl : l.length ≤ 1048576) (ht : ∀ r ∈ l, typL ke r) (hz : ∀ r ∈ l, szdL ke r) : t68 n1 l = some ([.one (.s (if volB n1 l then volT n1 l else ⟨#[]⟩))], []) := by
 simp only [t68, ta68, kci n1 l hl ht hz, kqc, gz41, gz48, gz50, gz8, ka]
 cases hv : volB n1 l
 ·rfl
 ·have hS := kmi ht hv
  have a1 := kg n1; have a2 := kg (l.length : Int)
  simp only [bnt, bft, if_false, if_true]
  rw [kib (by omega)]
  refine Eq.trans (kxl n1 l ⟨#[]⟩ false n1 _ (fun _ _ _ _ _ => rfl) l hS (varS n1 ++ varS (l.length : Int)) (by simp only [ByteArray.size_append]; omega) (SV.undef, SV.undef, SV.undef)) ?_
  simp only [volT, ByteArray.append_assoc]
theorem kdm {l : Rw} (h : audB l = true) : l.length ≤ 20 := by
 simp only [audB, Bool.and_eq_true, decide_eq_true_eq] at h; omega
theorem kjo {n1 : Int} {l2 : Rw} {n3 : Int} {l4 l5 : Rw} (h : Shrt l2) (h4 : l4.length ≤ 20) (h5 : l5.length ≤ 3) : (tenT n1 l2 n3 l4 l5).size ≤ 20000 := by
 have h1 := klj (n1 := n1) h
 have h2 := kac (volT n1 l2)
 have h3 := kkd (f := nteS) (c := 50) l4 (fun r _ => kng r)
 have h6 := kkd (f := sesS) (c := 450) l5 (fun r _ => kjj r)
 have := kg n3; have := kg (l4.length : Int); have := kg (l5.length : Int)
 unfold tenT; simp only [ByteArray.size_append]; omega
theorem kel (c : Int) (s : BA) : t70 c s = some ([.one (.s (rsS c s))], []) := by
 simp only [t70, ta70, kbg, kqc, gz48, gz43, gz50, gz8, ka, rsS]
 cases hr : resB c s
 ·rfl
 ·have a1 := kg c
  simp only [resB, Bool.and_eq_true, decide_eq_true_eq] at hr
  simp only [bnt, bft, if_false, if_true]
  rw [kib (by omega)]
theorem kam (n0 : Int) (l0 : Rw) (n1 : Int) (l1 l2 : Rw) (s0 : BA) (b0 : Bool) (n2 : Int) (l3 : Rw) (n3 : Int) (l4 : Rw) (q1 : BA → Int → Bool → Rs) (l : Rw) (ht : ∀ r ∈ l, typL kpb r) (hn : l.length ≤ 20) (s : BA) (hs : s.size ≤ 20000) (v : SV) :
  ∃ a b, la30o1 t23 t67 t68 t69 t70 n0 l0 n1 l1 l2 s0 b0 n2 l3 n3 l l4 q1 KK s 0 v = q1 (s ++ catL nteS l) a b := by
 refine kgb (α := BA) (σ := SV) (fun m i s v => la30o1 t23 t67 t68 t69 t70 n0 l0 n1 l1 l2 s0 b0 n2 l3 n3 l l4 q1 m s (i : Int) v) l.length (fun i t => t = s ++ catL nteS (l.take i)) (fun y => ∃ a b, y = q1 (s ++ catL nteS l) a b)
  ?_ ?_ l.length 0 KK s v (by omega) (by rw [kj]; omega) (by simp only [List.take_zero, catL, kef])
 ·intro m t v hp
  rw [List.take_length] at hp
  simp only [la30o1, kp, bft, if_false, hp]
  exact ⟨_, _, rfl⟩
 ·intro i m t v hi hp
  left
  have hr := kgd ht kdf i hi
  have hg : l.getD i [] = l[i] := klb hi
  have hsz := kie (f := nteS) (fun r _ => kng r) i hn
  have a1 := kg (asI (nthD l[i] 0)); have a2 := kg (asI (nthD l[i] 1)); have a3 := kg (asI (nthD l[i] 2)); have a4 := kg (asI (nthD l[i] 3)); have a5 := kg (asI (nthD l[i] 4))
  have hts : t.size ≤ 30000 := by rw [hp, ByteArray.size_append]; omega
  simp only [la30o1, kk hi, itn, hg, hr, kqc, gz48, gz50, ka, if_true, kc i (by omega)]
  rw [kib (by first | omega | (simp only [ByteArray.size_append]; omega)), kib (by first | omega | (simp only [ByteArray.size_append]; omega)), kib (by first | omega | (simp only [ByteArray.size_append]; omega)), kib (by first | omega | (simp only [ByteArray.size_append]; omega)), kib (by first | omega | (simp only [ByteArray.size_append]; omega))]
  refine ⟨_, _, rfl, ?_⟩
  rw [kse nteS hi, hp]
  simp only [nteS, ByteArray.append_assoc]
theorem gz51 : ∀ x, okR zr70 zo70 (some ([.one (.s x)], [])) = true := fun _ => id rfl
theorem kvl (n0 : Int) (l0 : Rw) (n1 : Int) (l1 l2 : Rw) (s0 : BA) (n2 : Int) (b0 b1 : Bool) (n3 : Int) (l3 : Rw) (n4 : Int) (l4 : Rw) (q1 : BA → Int → Bool → Rs) (h1 : ∀ a b c, q1 a b c = some ([.one (.s a)], [])) (l : Rw) (ht : ∀ r ∈ l, typL kab r) (hn : l.length ≤ 3) (s : BA) (hs : s.size ≤ 40000) (v : SV) :
  la30o3 t23 t67 t68 t69 t70 n0 l0 n1 l1 l2 s0 n2 b0 b1 n3 l3 n4 l4 l q1 KK s 0 v = some ([.one (.s (s ++ catL sesS l))], []) := by
 refine kgb (α := BA) (σ := SV) (fun m i s v => la30o3 t23 t67 t68 t69 t70 n0 l0 n1 l1 l2 s0 n2 b0 b1 n3 l3 n4 l4 l q1 m s (i : Int) v) l.length (fun i t => t = s ++ catL sesS (l.take i)) (fun y => y = some ([.one (.s (s ++ catL sesS l))], []))
  ?_ ?_ l.length 0 KK s v (by omega) (by rw [kj]; omega) (by simp only [List.take_zero, catL, kef])
 ·intro m t v hp
  rw [List.take_length] at hp
  simp only [la30o3, kp, bft, if_false, hp, h1]
 ·intro i m t v hi hp
  left
  have hr := kgd ht kwd i hi
  have hg : l.getD i [] = l[i] := klb hi
  have hsz := kie (f := sesS) (fun r _ => kjj r) i hn
  have a1 := kg (asI (nthD l[i] 0)); have a2 := kg (asI (nthD l[i] 1)); have a3 := kg (asI (nthD l[i] 2)); have a4 := kmk (asI (nthD l[i] 3)) (asS (nthD l[i] 4)); have a5 := kac (rsS (asI (nthD l[i] 3)) (asS (nthD l[i] 4)))
  have hpp := khe (rsS (asI (nthD l[i] 3)) (asS (nthD l[i] 4))) (by omega)
  have hts : t.size ≤ 50000 := by rw [hp, ByteArray.size_append]; omega
  simp only [la30o3, kk hi, itn, hg, hr, kqc, kel, hpp, gz48, gz49, gz51, gz50, ka, if_true, kc i (by omega)]
  rw [kib (by first | omega | (simp only [ByteArray.size_append]; omega)), kib (by first | omega | (simp only [ByteArray.size_append]; omega)), kib (by first | omega | (simp only [ByteArray.size_append]; omega)), kib (by first | omega | (simp only [ByteArray.size_append]; omega))]
  refine ⟨_, _, rfl, ?_⟩
  rw [kse sesS hi, hp]
  simp only [sesS, ByteArray.append_assoc]
theorem gz52 : ∀ x, okR zr68 zo68 (some ([.one (.s x)], [])) = true := fun _ => id rfl
theorem kkg (n1 : Int) (l2 : Rw) (n3 : Int) (l4 l5 : Rw) (hl : l2.length ≤ 1048576) (ht : ∀ r ∈ l2, typL ke r) (hz : ∀ r ∈ l2, szdL ke r) (hl4 : l4.length ≤ 1048576) (ht4 : ∀ r ∈ l4, typL kpb r) (hl5 : l5.length ≤ 1048576) (ht5 : ∀ r ∈ l5, typL kab r) :
    t30 n1 l2 n3 l4 l5 = some ([.one (.s (if tenB n1 l2 n3 l4 l5 then tenT n1 l2 n3 l4 l5 else ⟨#[]⟩))], []) := by
  simp only [t30, ta30, kcg n1 l2 n3 l4 l5 hl ht hz hl4 ht4 hl5 ht5, kmg n1 l2 hl ht hz, kqc, gz48, gz52, gz47, gz50, gz8, ka]
  cases hv : tenB n1 l2 n3 l4 l5
  · rfl
  · simp only [tenB, Bool.and_eq_true] at hv
    have hS := kmi ht hv.2.2
    have h4 := kdm hv.2.1.2
    have h5 := kwi hv.1
    have hvs := klj (n1 := n1) hS
    have hp := khe (volT n1 l2) (by omega)
    have a0 := kac (volT n1 l2); have a1 := kg n3; have a2 := kg (l4.length : Int); have a3 := kg (l5.length : Int)
    have a4 := kkd (f := nteS) (c := 50) l4 (fun r _ => kng r)
    simp only [hv.2.2, hp, gz49, gz50, bnt, bft, if_false, if_true, ka]
    rw [kib (by first | omega | (simp only [ByteArray.size_append]; omega)), kib (by first | omega | (simp only [ByteArray.size_append]; omega))]
    obtain ⟨a, b, e⟩ := kam n1 l2 n3 l4 l5 ⟨#[]⟩ false n1 l2 n3 l5 (fun (s1 : BA) (n0 : Int) (b0 : Bool) =>
     chk (decide (s1.size + (varS (l5.length : Int)).size ≤ lim)) <|
     la30o3 t23 t67 t68 t69 t70 n1 l2 n3 l4 l5 (⟨#[]⟩ : BA) n0 false b0 n1 l2 n3 l4 l5
      (fun (s0 : BA) (n2 : Int) (b1 : Bool) =>
       some ([.one (.s s0)], [])) KK (s1 ++ varS (l5.length : Int)) (0 : Int) SV.undef) l4 ht4 h4 ((ksb (volT n1 l2) ++ varS n3) ++ varS (l4.length : Int)) (by simp only [ByteArray.size_append]; omega) SV.undef
    refine Eq.trans e ?_
    rw [kib (by first | omega | (simp only [ByteArray.size_append]; omega)), kvl n1 l2 n3 l4 l5 ⟨#[]⟩ a false b n1 l2 n3 l4 (fun s0 _ _ => some ([.one (.s s0)], [])) (fun _ _ _ => rfl) l5 ht5 h5 _ (by simp only [ByteArray.size_append]; omega)]
    simp only [tenT, ByteArray.append_assoc]
def rowS (r : List D) : BA := ksb (tenT (asI (nthD r 0)) (asL (nthD r 1)) (asI (nthD r 2)) (asL (nthD r 3)) (asL (nthD r 4)))
theorem kmj {r : List D} (h : TenR r) (hr : rowT r = true) : (rowS r).size ≤ 20010 := by
 simp only [rowT, tenB, Bool.and_eq_true] at hr
 have h1 := kjo (n1 := asI (nthD r 0)) (n3 := asI (nthD r 2)) (kmi h.t2 hr.2.2) (kdm hr.2.1.2) (kwi hr.1)
 have := kac (tenT (asI (nthD r 0)) (asL (nthD r 1)) (asI (nthD r 2)) (asL (nthD r 3)) (asL (nthD r 4)))
 unfold rowS; omega
theorem gz53 : ∀ x, okR zr27 zo27 (some ([.one (.b x)], [])) = true := fun _ => id rfl
theorem gz54 : ∀ x, okR zr30 zo30 (some ([.one (.s x)], [])) = true := fun _ => id rfl
theorem khl (l : Rw) (hl : l.length ≤ 1048576) (ht : ∀ r ∈ l, typL km r) (hz : ∀ r ∈ l, szdL km r) : t32 l = some ([.one (.s (if staB l then catL rowS l else ⟨#[]⟩))], []) := by
 simp only [t32, ta32, kkk l hl ht hz, gz53, gz8, ka]
 cases hv : staB l
 ·rfl
 ·obtain ⟨hn, hrow⟩ := kap hv
  simp only [bnt, bft, if_false, if_true]
  refine kgb (α := BA) (σ := SV) (fun m i s v => la32o1 t27 t30 t67 l ⟨#[]⟩ false (fun s0 _ _ => some ([.one (.s s0)], [])) m s (i : Int) v) l.length (fun i t => t = catL rowS (l.take i)) (fun y => y = some ([.one (.s (catL rowS l))], []))
   ?_ ?_ l.length 0 KK ⟨#[]⟩ SV.undef (by omega) (by rw [kj]; omega) (by simp only [List.take_zero, catL])
  ·intro m t v hp
   rw [List.take_length] at hp
   simp only [la32o1, kp, bft, if_false, hp]
  ·intro i m t v hi hp
   left
   have hm := knb hi
   have hr := kzb ht kzh i hi
   have hT := tenR (kcc ht hi) (hz _ hm)
   have hR := hrow _ hm
   have ho := kkg (asI (nthD (l.getD i []) 0)) (asL (nthD (l.getD i []) 1)) (asI (nthD (l.getD i []) 2)) (asL (nthD (l.getD i []) 3)) (asL (nthD (l.getD i []) 4)) hT.l2 hT.t2 hT.z2 hT.l4 hT.t4 hT.l5 hT.t5
   rw [show tenB (asI (nthD (l.getD i []) 0)) (asL (nthD (l.getD i []) 1)) (asI (nthD (l.getD i []) 2)) (asL (nthD (l.getD i []) 3)) (asL (nthD (l.getD i []) 4)) = true from hR] at ho
   simp only [if_true] at ho
   have hsz := kie (f := rowS) (fun r hr => kmj (tenR (ht r hr) (hz r hr)) (hrow r hr)) i (Nat.le_of_eq hn)
   have h1 := kmj hT hR
   have h0 : (tenT (asI (nthD (l.getD i []) 0)) (asL (nthD (l.getD i []) 1)) (asI (nthD (l.getD i []) 2)) (asL (nthD (l.getD i []) 3)) (asL (nthD (l.getD i []) 4))).size ≤ 20010 := by
    have h2 : (rowS (l.getD i [])).size = (varS ((tenT (asI (nthD (l.getD i []) 0)) (asL (nthD (l.getD i []) 1)) (asI (nthD (l.getD i []) 2)) (asL (nthD (l.getD i []) 3)) (asL (nthD (l.getD i []) 4))).size : Int)).size + (tenT (asI (nthD (l.getD i []) 0)) (asL (nthD (l.getD i []) 1)) (asI (nthD (l.getD i []) 2)) (asL (nthD (l.getD i []) 3)) (asL (nthD (l.getD i []) 4))).size := by unfold rowS ksb; rw [ByteArray.size_append]
    omega
   have hpp := khe (tenT (asI (nthD (l.getD i []) 0)) (asL (nthD (l.getD i []) 1)) (asI (nthD (l.getD i []) 2)) (asL (nthD (l.getD i []) 3)) (asL (nthD (l.getD i []) 4))) (by omega)
   simp only [la32o1, kk hi, itn, hr, ho, hpp, gz49, gz54, gz50, ka, if_true, kc i (by omega)]
   have h1' : (ksb (tenT (asI (nthD (l.getD i []) 0)) (asL (nthD (l.getD i []) 1)) (asI (nthD (l.getD i []) 2)) (asL (nthD (l.getD i []) 3)) (asL (nthD (l.getD i []) 4)))).size ≤ 20010 := h1
   rw [kib (by rw [hp]; omega)]
   refine ⟨_, _, rfl, ?_⟩
   rw [kse rowS hi, hp, ← klb hi]
   rfl
def val : List UInt8 → Nat | [] => 0 | b :: t => b.toNat % 128 + 128 * val t
def enc : Nat → Nat → List UInt8
 | 0, n => [UInt8.ofNat n]
 | k + 1, n => if n ≥ 128 then UInt8.ofNat (128 + n % 128) :: enc k (n / 128) else [UInt8.ofNat n]
def good : List UInt8 → Bool
 | [] => false
 | [b] => decide (b.toNat < 128)
 | b :: c :: t => decide (b.toNat ≥ 128) && (decide (0 < val (c :: t)) && good (c :: t))
theorem kek (x : Nat) (b : UInt8) (hx : x < 256) : UInt8.ofNat x = b ↔ x = b.toNat := by
 constructor
 ·intro h; subst h; simp; omega
 ·intro h; subst h; simp
theorem knh : ∀ (t : List UInt8) (k : Nat), t.length ≤ k + 1 → (enc k (val t) = t ↔ good t = true)
 | [], k, _ => by
  cases k <;> simp [enc, val, good]
 | [b], k, _ => by
  have hb := b.toNat_lt
  have e : enc k (b.toNat % 128 + 128 * 0) = [UInt8.ofNat (b.toNat % 128)] := by
   cases k with
   | zero => rfl
   | succ k => simp only [enc]; rw [if_neg (by omega)]; simp
  simp only [val, e, good, List.cons.injEq, and_true, decide_eq_true_eq]
  rw [kek _ _ (by omega)]
  omega
 | b :: c :: t, k, h => by
  have hb := b.toNat_lt
  obtain ⟨k, rfl⟩ : ∃ k', k = k' + 1 := ⟨k - 1, by simp at h; omega⟩
  have ih := knh (c :: t) k (by simp at h ⊢; omega)
  have e : val (b :: c :: t) = b.toNat % 128 + 128 * val (c :: t) := rfl
  generalize hv : val (c :: t) = v at *
  simp only [good, hv, Bool.and_eq_true, decide_eq_true_eq]
  rw [e]
  simp only [enc]
  by_cases hz : v = 0
  ·rw [if_neg (by omega)]
   simp; omega
  ·rw [if_pos (by omega), show (b.toNat % 128 + 128 * v) / 128 = v by omega, show (b.toNat % 128 + 128 * v) % 128 = b.toNat % 128 by omega]
   simp only [List.cons.injEq, ih]
   rw [kek _ _ (by omega)]
   constructor
   ·rintro ⟨h1, h2⟩; exact ⟨by omega, by omega, h2⟩
   ·rintro ⟨h1, h2, h3⟩; exact ⟨by omega, h3⟩
theorem kvf : ∀ (bs : List UInt8) (i : Nat), i < bs.length → val (bs.take (i + 1)) = val (bs.take i) + 128 ^ i * ((bs.getD i 0).toNat % 128)
 | [], i, h => by simp at h
 | b :: t, 0, _ => by simp [val]
 | b :: t, i + 1, h => by
  have ih := kvf t i (by simpa using h)
  simp only [List.take_succ_cons, val, ih, List.getD_cons_succ]
  rw [Nat.pow_succ, Nat.mul_add, Nat.mul_comm (128 ^ i) 128, Nat.mul_assoc]
  omega
theorem kwk : ∀ (t : List UInt8), val t < 128 ^ t.length
 | [] => by simp [val]
 | b :: t => by
  have := kwk t
  simp only [val, List.length_cons, Nat.pow_succ]
  omega
theorem klg : ∀ (bs : List UInt8) (i : Nat), i < bs.length → (∀ j, j < i → (bs.getD j 0).toNat ≥ 128) → (good (bs.take (i + 1)) = true ↔ (bs.getD i 0).toNat < 128 ∧ (i = 0 ∨ (bs.getD i 0).toNat ≠ 0))
 | [], i, h, _ => by simp at h
 | b :: t, 0, _, _ => by simp [good]
 | b :: t, i + 1, h, hj => by
  have hi : i < t.length := by simpa using h
  have ih := klg t i hi (fun j hj' => by simpa using hj (j + 1) (by omega))
  have hb : b.toNat ≥ 128 := by simpa using hj 0 (by omega)
  have hv := kvf t i hi
  obtain ⟨c, t', ht⟩ : ∃ c t', t.take (i + 1) = c :: t' := by
   cases t with
   | nil => simp at hi
   | cons c t => exact ⟨c, _, rfl⟩
  simp only [List.take_succ_cons, List.getD_cons_succ]
  rw [ht] at ih hv ⊢
  simp only [good, Bool.and_eq_true, decide_eq_true_eq, ih]
  have hp : 0 < 128 ^ i := Nat.pow_pos (by omega)
  constructor
  ·rintro ⟨_, h2, h3, h4⟩
   refine ⟨h3, .inr ?_⟩
   rcases h4 with rfl | h4
   ·intro hz
    rw [hz] at hv
    simp at hv
    have h0 : val ([] : List UInt8) = 0 := rfl
    omega
   ·exact h4
  ·rintro ⟨h1, h2⟩
   have h2 : (t.getD i 0).toNat ≠ 0 := by rcases h2 with h2 | h2; omega; exact h2
   refine ⟨hb, ?_, h1, .inr h2⟩
   have : 0 < 128 ^ i * ((t.getD i 0).toNat % 128) := Nat.mul_pos hp (by omega)
   omega
theorem klm : ∀ (t : List UInt8), good t = true → ∀ j, j + 1 < t.length → (t.getD j 0).toNat ≥ 128
 | [], h, _, _ => by simp [good] at h
 | [b], _, j, hj => by simp at hj
 | b :: c :: t, h, j, hj => by
  simp only [good, Bool.and_eq_true, decide_eq_true_eq] at h
  cases j with
  | zero => simpa using h.1
  | succ j => simpa using klm (c :: t) h.2.2 j (by simpa using hj)
theorem kne : ∀ {l : Rw} {x : Int}, isBytes l = true → bytesD (l ++ [[.i .u8 x]]) = bytesD l ++ [UInt8.ofNat x.toNat]
 | [], x, _ => rfl
 | r :: l, x, h => by
  unfold isBytes at h
  split at h
  ·rename_i e; cases e
  ·rename_i e; cases e; simp only [List.cons_append, bytesD]; rw [kne h]
  ·cases h
theorem ktn : ∀ (k : Nat) (n : Int) (l : Rw), isBytes l = true → 0 ≤ n → n < 128 ^ (k + 1) → bytesD ((vp k n l).2 ++ [[.i .u8 (IntKind.wrap .u8 (vp k n l).1)]]) = bytesD l ++ enc k n.toNat
 | 0, n, l, h, h0, h1 => by
  simp only [vp, enc]
  rw [u8_in _ (by omega), kne h]
 | k + 1, n, l, h, h0, h1 => by
  unfold vp
  by_cases g : n ≥ 128
  ·rw [if_pos g, ktn k (n / 128) _ (kge h) (by omega) (by
    rw [Int.ediv_lt_iff_lt_mul (by omega)]; rw [Int.pow_succ] at h1; exact h1), kne h]
   simp only [enc]
   rw [if_pos (by omega), List.append_assoc, show (128 + n % 128).toNat = 128 + n.toNat % 128 by omega, show (n / 128).toNat = n.toNat / 128 by omega]
   rfl
  ·rw [if_neg g]
   simp only
   rw [u8_in _ (by omega), kne h]
   simp only [enc]
   rw [if_neg (by omega)]
theorem kck (n : Int) (h0 : 0 ≤ n) (h1 : n ≤ 562949953421311) : (varS n).toList = enc 6 n.toNat := by
 unfold varS
 rw [if_pos ⟨h0, h1⟩, ByteArray.toList_eq]
 simp only [ktn 6 n [] rfl h0 (by omega), bytesD, List.nil_append]
def rdL (bs : List UInt8) : Nat → Nat → Int × Int
 | 0, _ => (0, 0)
 | f + 1, i => if i < bs.length ∧ i < 7 then
   (if (bs.getD i 0).toNat ≥ 128 then rdL bs f (i + 1) else if (bs.getD i 0).toNat = 0 ∧ i > 0 then (0, 0) else (((val (bs.take (i + 1)) : Nat) : Int), ((i + 1 : Nat) : Int)))
  else (0, 0)
def rdV (s : BA) : Int × Int := rdL s.data.toList 8 0
theorem kho (s : BA) (i : Nat) (h : i < s.size) : s.get! i = s.data.toList.getD i 0 := by
 have h' : i < s.data.size := h
 show s.data[i]! = _
 rw [getElem!_pos s.data i h']
 simp [List.getD, List.getElem?_eq_getElem (show i < s.data.toList.length by simpa using h')]
theorem kei (s : BA) (a b : Nat) : (s.extract a b).toList = (s.data.toList.take b).drop a := by
 rw [ByteArray.toList_eq, ByteArray.data_extract, Array.toList_extract]
 simp [List.extract, List.drop_take]
theorem kgo (bs : List UInt8) : ∀ (f i : Nat), f + i = 8 → (∀ j, j < i → (bs.getD j 0).toNat ≥ 128) → rdL bs f i = (0, 0) ∨ ∃ k : Nat, 1 ≤ k ∧ k ≤ 7 ∧ k ≤ bs.length ∧ rdL bs f i = (((val (bs.take k) : Nat) : Int), (k : Int)) ∧ good (bs.take k) = true
 | 0, i, _, _ => .inl rfl
 | f + 1, i, e, hj => by
  unfold rdL
  by_cases h : i < bs.length ∧ i < 7
  ·rw [if_pos h]
   by_cases g : (bs.getD i 0).toNat ≥ 128
   ·rw [if_pos g]
    exact kgo bs f (i + 1) (by omega) (fun j hj' => by
     by_cases e' : j = i
     ·subst e'; exact g
     ·exact hj j (by omega))
   ·rw [if_neg g]
    by_cases g2 : (bs.getD i 0).toNat = 0 ∧ i > 0
    ·rw [if_pos g2]; exact .inl rfl
    ·rw [if_neg g2]
     exact .inr ⟨i + 1, by omega, by omega, by omega, rfl, (klg bs i h.1 hj).2 ⟨by omega, by omega⟩⟩
  ·rw [if_neg h]; exact .inl rfl
theorem kun (s : BA) : rdV s = (0, 0) ∨ ∃ k : Nat, 1 ≤ k ∧ k ≤ 7 ∧ k ≤ s.size ∧ rdV s = (((val (s.data.toList.take k) : Nat) : Int), (k : Int)) ∧ good (s.data.toList.take k) = true := by
 have := kgo s.data.toList 8 0 rfl (by omega)
 have e : s.data.toList.length = s.size := by simp
 rw [e] at this
 exact this
theorem krk (bs : List UInt8) (k : Nat) (h : k ≤ 7) : val (bs.take k) ≤ 562949953421311 := by
 have h1 := kwk (bs.take k)
 have h2 : 128 ^ (bs.take k).length ≤ 128 ^ 7 := Nat.pow_le_pow_right (by omega) (by simp; omega)
 omega
theorem kfh (s : BA) (h : (rdV s).2 ≠ 0) : varS (rdV s).1 = s.extract 0 (rdV s).2.toNat := by
 rcases kun s with h0 | ⟨k, h1, h2, h3, h4, h5⟩
 ·rw [h0] at h; exact absurd rfl h
 ·rw [h4]
  have hv := krk s.data.toList k h2
  have e1 := kck (val (s.data.toList.take k) : Nat) (by omega) (by omega)
  have e2 := (knh (s.data.toList.take k) 6 (by simp; omega)).2 h5
  have e3 := kei s 0 k
  simp only [itn] at e1 ⊢
  rw [e2] at e1
  simp only [List.drop_zero] at e3
  rw [← e1, ByteArray.toList_eq, ByteArray.toList_eq] at e3
  exact ByteArray.ext (Array.ext' e3.symm)
theorem kke (s : BA) : 0 ≤ (rdV s).1 ∧ (rdV s).1 ≤ 562949953421311 ∧ 0 ≤ (rdV s).2 ∧ (rdV s).2 ≤ 7 ∧ (rdV s).2 ≤ (s.size : Int) := by
 rcases kun s with h0 | ⟨k, h1, h2, h3, h4, h5⟩
 ·rw [h0]; simp
 ·have := krk s.data.toList k h2
  rw [h4]; simp only; omega
theorem ksp (n b i : Nat) (hn : n < 2 ^ (7 * i)) (hb : b < 128) (hi : i ≤ 6) : bitOr .i64 (n : Int) ((b * 2 ^ (7 * i) : Nat) : Int) = ((n + b * 2 ^ (7 * i) : Nat) : Int) := by
 have h7 : 2 ^ (7 * i) ≤ 2 ^ 42 := Nat.pow_le_pow_right (by omega) (by omega)
 have h8 : b * 2 ^ (7 * i) ≤ 127 * 2 ^ 42 := Nat.mul_le_mul (by omega) h7
 have h9 : 2 ^ (7 * i) * b = b * 2 ^ (7 * i) := Nat.mul_comm _ _
 unfold bitOr
 show IntKind.wrap .i64 (((BitVec.ofInt 64 (n : Int)) ||| (BitVec.ofInt 64 ((b * 2 ^ (7 * i) : Nat) : Int))).toNat : Int) = _
 have e2 : 2 ^ (7 * i) * b + n = 2 ^ (7 * i) * b ||| n := Nat.two_pow_add_eq_or_of_lt hn b
 rw [BitVec.toNat_or, khf _ (by omega), khf _ (by omega), Nat.or_comm, ← h9, ← e2, i64_in _ (by omega), h9]
 omega
theorem krp (n : Nat) (h : n < 256) : bitAnd .i64 (n : Int) 127 = ((n % 128 : Nat) : Int) := by
 unfold bitAnd
 show IntKind.wrap .i64 (((BitVec.ofInt 64 (n : Int)) &&& (BitVec.ofInt 64 ((127 : Nat) : Int))).toNat : Int) = _
 rw [BitVec.toNat_and, khf n (by omega), khf 127 (by omega), show (127 : Nat) = 2 ^ 7 - 1 by rfl, Nat.and_two_pow_sub_one_eq_mod, i64_in _ (by omega)]
theorem kpo (s : BA) (n8 n9 : Int) (q1 : Int → Int → Int → Int → Int → Bool → Bool → Bool → Rs) (q2 : Int → Int → SV → Bool → SV → Rs)
  (h1 : ∀ a b c d e f g h, q1 a b c d e f g h = some ([.one (.i .i64 a), .one (.i .i64 b)], [])) (h2 : ∀ a b c d e, q2 a b c d e = some ([.one (.i .i64 0), .one (.i .i64 0)], [])) :
  ∀ (f i m : Nat) (u v w : SV), f + i = 8 → 8 < m + i → (∀ j, j < i → (s.data.toList.getD j 0).toNat ≥ 128) →
  l136o0 s n8 n9 q1 q2 m ((val (s.data.toList.take i) : Nat) : Int) i u v w = some ([.one (.i .i64 (rdL s.data.toList f i).1), .one (.i .i64 (rdL s.data.toList f i).2)], []) := by
 have e0 : s.data.toList.length = s.size := by simp
 intro f
 induction f with
 | zero =>
  intro i m u v w e hm hj
  obtain ⟨m, rfl⟩ : ∃ m', m = m' + 1 := ⟨m - 1, by omega⟩
  have ei : decide ((i : Int) < 7) = false := by simp; omega
  simp only [l136o0, ei, Bool.and_false, bft, if_false, h2, rdL]
 | succ f ih =>
  intro i m u v w e hm hj
  obtain ⟨m, rfl⟩ : ∃ m', m = m' + 1 := ⟨m - 1, by omega⟩
  by_cases h : i < s.data.toList.length ∧ i < 7
  ·have a1 : decide ((i : Int) < (s.size : Int)) = true := by rw [e0] at h; simp; omega
   have a2 : decide ((i : Int) < 7) = true := by simp; omega
   have a3 : decide ((0 : Int) ≤ (i : Int) ∧ (i : Int) < (s.size : Int)) = true := by rw [e0] at h; simp; omega
   have a4 : w64 (7 * (i : Int)) = ((7 * i : Nat) : Int) := by rw [ki _ (by omega)]; omega
   have a5 : decide ((0 : Int) ≤ ((7 * i : Nat) : Int)) = true := decide_eq_true (by omega)
   have hb := (s.data.toList.getD i 0).toNat_lt
   have hg := kho s i (by omega)
   have hv := kvf s.data.toList i h.1
   have hlt := kwk (s.data.toList.take i)
   have hl' : (s.data.toList.take i).length = i := by simp only [List.length_take]; omega
   rw [hl'] at hlt
   have e128 : (128 : Nat) ^ i = 2 ^ (7 * i) := by rw [show (128 : Nat) = 2 ^ 7 from rfl, ← Nat.pow_mul]
   have h7 : 2 ^ (7 * i) ≤ 2 ^ 42 := Nat.pow_le_pow_right (by omega) (by omega)
   generalize hbb : (s.data.toList.getD i 0).toNat = b at *
   have a6 : w64 (b : Int) = (b : Int) := ki _ (by omega)
   have a7 : min (7 * i) (IntKind.bits .i64) = 7 * i := Nat.min_eq_left (by show 7 * i ≤ 64; omega)
   have h8 : b % 128 * 2 ^ (7 * i) ≤ 127 * 2 ^ 42 := Nat.mul_le_mul (by omega) h7
   have a8 : w64 (((b % 128 : Nat) : Int) * 2 ^ (7 * i)) = ((b % 128 * 2 ^ (7 * i) : Nat) : Int) := by
    have : ((b % 128 : Nat) : Int) * 2 ^ (7 * i) = ((b % 128 * 2 ^ (7 * i) : Nat) : Int) := by simp
    rw [this, ki _ (by omega)]
   have a9 : bitOr .i64 ((val (s.data.toList.take i) : Nat) : Int) ((b % 128 * 2 ^ (7 * i) : Nat) : Int) = ((val (s.data.toList.take (i + 1)) : Nat) : Int) := by
    rw [ksp _ _ i (by omega) (by omega) (by omega), hv, e128, Nat.mul_comm (b % 128)]
   simp only [l136o0, a1, a2, a3, a4, a5, itn, hg, hbb, a6, krp b hb, a7, a8, a9, bat, ka, if_true, rdL]
   rw [if_pos h]
   by_cases g : b ≥ 128
   ·have g' : decide ((b : Int) > 127) = true := by simp; omega
    simp only [g', if_true, hbb, if_pos g]
    rw [kc i (by omega)]
    exact ih (i + 1) m _ _ _ (by omega) (by omega) (fun j hj' => by
     by_cases e' : j = i
     ·subst e'; omega
     ·exact hj j (by omega))
   ·have g' : decide ((b : Int) > 127) = false := by simp; omega
    simp only [g', bft, if_false, hbb, if_neg g]
    by_cases g2 : b = 0 ∧ i > 0
    ·have g3 : (((b : Int) == 0) && decide ((i : Int) > 0)) = true := by simp; omega
     simp only [g3, if_true, h1, if_pos g2]
    ·have g3 : (((b : Int) == 0) && decide ((i : Int) > 0)) = false := by
      rw [Bool.eq_false_iff]; simp; omega
     simp only [g3, bft, if_false, h1, if_neg g2, kc i (by omega)]
  ·have a1 : (decide ((i : Int) < (s.size : Int)) && decide ((i : Int) < 7)) = false := by
    rw [e0] at h; rw [Bool.eq_false_iff]; simp; omega
   simp only [l136o0, a1, bft, if_false, h2, rdL, if_neg h]
theorem khg (s : BA) : t136 s = some ([.one (.i .i64 (rdV s).1), .one (.i .i64 (rdV s).2)], []) :=
 kpo s 0 0 (fun n0 n1 _ _ _ _ _ _ => some ([.one (.i .i64 n0), .one (.i .i64 n1)], [])) (fun _ _ _ _ _ => some ([.one (.i .i64 0), .one (.i .i64 0)], [])) (fun _ _ _ _ _ _ _ _ => rfl) (fun _ _ _ _ _ => rfl) 8 0 KK .undef .undef .undef rfl (by rw [kj]; omega) (by omega)
theorem kqp (s : BA) (n0 n1 n2 : Int) (b0 : Bool) (q : Int → Int → Bool → SV → Rs) (k : Nat) (hk : k ≤ 7) (hks : k ≤ s.size) : ∀ (j m n : Nat) (v w : SV), j ≤ k → j < m → n < 128 ^ (k - j) →
  ∃ d, la113o2 t69 s n0 n1 n2 b0 q m (n : Int) ((j : Int) - 1) v w = q ((n * 128 ^ j + val (s.data.toList.take j) : Nat) : Int) (-1) false d := by
 intro j
 induction j with
 | zero =>
  intro m n v w hj hm hn
  obtain ⟨m, rfl⟩ : ∃ m', m = m' + 1 := ⟨m - 1, by omega⟩
  exact ⟨_, by simp [la113o2, val]; rfl⟩
 | succ j ih =>
  intro m n v w hj hm hn
  obtain ⟨m, rfl⟩ : ∃ m', m = m' + 1 := ⟨m - 1, by omega⟩
  have e0 : s.data.toList.length = s.size := by simp
  have a0 : (((j + 1 : Nat) : Int) - 1) = (j : Int) := by omega
  have a1 : decide ((j : Int) ≥ 0) = true := by simp
  have a3 : decide ((0 : Int) ≤ (j : Int) ∧ (j : Int) < (s.size : Int)) = true := by simp; omega
  have hg := kho s j (by omega)
  have hv := kvf s.data.toList j (by omega)
  have hb := (s.data.toList.getD j 0).toNat_lt
  generalize hbb : (s.data.toList.getD j 0).toNat = b at *
  have hn7 : 128 ^ (k - (j + 1)) ≤ 128 ^ 6 := Nat.pow_le_pow_right (by omega) (by omega)
  have hp : n * 128 < 128 ^ (k - j) := by rw [show k - j = (k - (j + 1)) + 1 by omega, Nat.pow_succ]; omega
  have a6 : w64 (b : Int) = (b : Int) := ki _ (by omega)
  have a7 : w64 (w64 ((n : Int) * 128) + ((b : Int)).tmod 128) = ((n * 128 + b % 128 : Nat) : Int) := by
   rw [Int.tmod_eq_emod_of_nonneg (by omega), ki ((n : Int) * 128) (by omega), ki _ (by omega)]; omega
  have a8 : w64 ((j : Int) - 1) = (j : Int) - 1 := ki _ (by omega)
  have hq : (n * 128 + b % 128) < 128 ^ (k - j) := by
   rw [show k - j = (k - (j + 1)) + 1 by omega, Nat.pow_succ] at hp ⊢; omega
  obtain ⟨d, hd⟩ := ih m (n * 128 + b % 128) (.d (.b true)) (keepV [] w) (by omega) (by omega) hq
  refine ⟨d, ?_⟩
  simp only [la113o2, a0, a1, a3, itn, hg, hbb, a6, a7, a8, ka, if_true]
  rw [hd]
  congr 2
  rw [hv, Nat.add_mul, Nat.pow_succ, Nat.mul_assoc, Nat.mul_comm 128 (128 ^ j), Nat.mul_comm (b % 128)]
  omega
theorem kkl (s : BA) (n1 n2 : Int) (q1 : Int → Int → Int → Bool → Bool → Bool → Rs) (q2 : Int → SV → SV → Bool → SV → SV → Rs) (k m : Nat) (v1 v2 v3 v4 v5 : SV) (h1 : 1 ≤ k) (h7 : k ≤ 7) (hs : k ≤ s.size) :
    la113o0 t69 s n1 n2 q1 q2 (m + 1) k v1 v2 v3 v4 v5 = if good (s.data.toList.take k) = true then q1 ((val (s.data.toList.take k) : Nat) : Int) k (-1) true false true else la113o0 t69 s n1 n2 q1 q2 m ((k + 1 : Nat) : Int) (.d (.i .i64 ((val (s.data.toList.take k) : Nat) : Int))) (.d (.i .i64 (-1))) (.d (.b true)) (.d (.b false)) (.d (.b false)) := by
  have a1 : (decide ((k : Int) ≤ 7) && decide ((k : Int) ≤ (s.size : Int))) = true := by simp; omega
  have a2 : w64 ((k : Int) - 1) = (k : Int) - 1 := ki _ (by omega)
  have a3 : decide ((0 : Int) ≤ 0 ∧ (0 : Int) ≤ (k : Int) ∧ (k : Int) ≤ (s.size : Int)) = true := by simp; omega
  have e0 : s.data.toList.length = s.size := by simp
  simp only [la113o0, a1, if_true, a2]
  obtain ⟨d, hd⟩ := kqp s n1 n2 k true (fun n0 n3 b0 v0 =>
       chk (okR zr69 zo69 (t69 n0)) <|
       chk (decide ((0 : Int) ≤ 0 ∧ (0 : Int) ≤ (k : Int) ∧ (k : Int) ≤ (s.size : Int))) <|
       if ((asS (resC (t69 n0) 0 0)).toList == (s.extract (0 : Int).toNat (k : Int).toNat).toList) = true then
        q1 n0 k n3 true b0 ((asS (resC (t69 n0) 0 0)).toList == (s.extract (0 : Int).toNat (k : Int).toNat).toList)
       else
        la113o0 t69 s n1 n2 q1 q2 m (w64 ((k : Int) + 1)) (.d (.i .i64 n0)) (.d (.i .i64 n3)) (.d (.b true)) (.d (.b b0)) (.d (.b ((asS (resC (t69 n0) 0 0)).toList == (s.extract (0 : Int).toNat (k : Int).toNat).toList)))) k h7 hs k KK 0 v4 v5 (Nat.le_refl _) (by rw [kj]; omega) (by simp)
  refine Eq.trans hd ?_
  have hv := krk s.data.toList k h7
  have ec : ((varS ((val (s.data.toList.take k) : Nat) : Int)).toList == (s.extract (0 : Int).toNat (k : Int).toNat).toList) = good (s.data.toList.take k) := by
    rw [kck _ (by omega) (by omega), kei, itn, itn, Bool.eq_iff_iff, beq_iff_eq, show (0 : Int).toNat = 0 from rfl, List.drop_zero]
    exact knh _ 6 (by simp; omega)
  simp only [kqc, gz48, gz50, a3, ka, Nat.zero_mul, Nat.zero_add, ec, kc k (by omega)]
  cases good (s.data.toList.take k) <;> rfl
theorem ktg (s : BA) (n0 n1 : Int) (q1 : Int → Int → Int → Bool → Bool → Bool → Rs) (q2 : Int → SV → SV → Bool → SV → SV → Rs) (h2 : ∀ a b c d e f, q2 a b c d e f = some ([.one (.i .i64 0), .one (.i .i64 0)], [])) (k m : Nat) (v1 v2 v3 v4 v5 : SV) (h : ¬ (k ≤ 7 ∧ k ≤ s.size)) :
  la113o0 t69 s n0 n1 q1 q2 (m + 1) k v1 v2 v3 v4 v5 = some ([.one (.i .i64 0), .one (.i .i64 0)], []) := by
 have a1 : (decide ((k : Int) ≤ 7) && decide ((k : Int) ≤ (s.size : Int))) = false := by rw [Bool.eq_false_iff]; simp; omega
 simp only [la113o0, a1, bft, if_false, h2]
theorem kzo (s : BA) (n0 n1 : Int) (q1 : Int → Int → Int → Bool → Bool → Bool → Rs) (q2 : Int → SV → SV → Bool → SV → SV → Rs) (h2 : ∀ a b c d e f, q2 a b c d e f = some ([.one (.i .i64 0), .one (.i .i64 0)], [])) (j : Nat) (hj : (s.data.toList.getD j 0).toNat < 128) :
  ∀ (f k m : Nat) (v1 v2 v3 v4 v5 : SV), f + k = 9 → 9 < m + k → j + 1 < k → la113o0 t69 s n0 n1 q1 q2 m k v1 v2 v3 v4 v5 = some ([.one (.i .i64 0), .one (.i .i64 0)], []) := by
 have e0 : s.data.toList.length = s.size := by simp
 intro f
 induction f with
 | zero =>
  intro k m v1 v2 v3 v4 v5 e hm hk
  obtain ⟨m, rfl⟩ : ∃ m', m = m' + 1 := ⟨m - 1, by omega⟩
  exact ktg s n0 n1 q1 q2 h2 k m _ _ _ _ _ (by omega)
 | succ f ih =>
  intro k m v1 v2 v3 v4 v5 e hm hk
  obtain ⟨m, rfl⟩ : ∃ m', m = m' + 1 := ⟨m - 1, by omega⟩
  by_cases h : k ≤ 7 ∧ k ≤ s.size
  ·rw [kkl s n0 n1 q1 q2 k m _ _ _ _ _ (by omega) h.1 h.2, if_neg]
   ·exact ih (k + 1) m _ _ _ _ _ (by omega) (by omega) (by omega)
   ·intro hg
    have hl' : (s.data.toList.take k).length = k := by simp only [List.length_take]; omega
    have := klm _ hg j (by omega)
    have e1 : (s.data.toList.take k).getD j 0 = s.data.toList.getD j 0 := by simp [List.getD, List.getElem?_take, show j < k by omega]
    rw [e1] at this
    omega
  ·exact ktg s n0 n1 q1 q2 h2 k m _ _ _ _ _ h
theorem koo (s : BA) (n0 n1 : Int) (q1 : Int → Int → Int → Bool → Bool → Bool → Rs) (q2 : Int → SV → SV → Bool → SV → SV → Rs) (h1 : ∀ a b c d e f, q1 a b c d e f = some ([.one (.i .i64 a), .one (.i .i64 b)], [])) (h2 : ∀ a b c d e f, q2 a b c d e f = some ([.one (.i .i64 0), .one (.i .i64 0)], [])) :
  ∀ (f i m : Nat) (v1 v2 v3 v4 v5 : SV), f + i = 8 → 9 < m + i → (∀ j, j < i → (s.data.toList.getD j 0).toNat ≥ 128) →
  la113o0 t69 s n0 n1 q1 q2 m ((i + 1 : Nat) : Int) v1 v2 v3 v4 v5 = some ([.one (.i .i64 (rdL s.data.toList f i).1), .one (.i .i64 (rdL s.data.toList f i).2)], []) := by
 have e0 : s.data.toList.length = s.size := by simp
 intro f
 induction f with
 | zero =>
  intro i m v1 v2 v3 v4 v5 e hm hj
  obtain ⟨m, rfl⟩ : ∃ m', m = m' + 1 := ⟨m - 1, by omega⟩
  exact ktg s n0 n1 q1 q2 h2 (i + 1) m _ _ _ _ _ (by omega)
 | succ f ih =>
  intro i m v1 v2 v3 v4 v5 e hm hj
  obtain ⟨m, rfl⟩ : ∃ m', m = m' + 1 := ⟨m - 1, by omega⟩
  unfold rdL
  by_cases h : i < s.data.toList.length ∧ i < 7
  ·rw [if_pos h, kkl s n0 n1 q1 q2 (i + 1) m _ _ _ _ _ (by omega) (by omega) (by omega)]
   have hgt := klg s.data.toList i h.1 hj
   by_cases g : (s.data.toList.getD i 0).toNat ≥ 128
   ·rw [if_pos g, if_neg (by rw [hgt]; omega)]
    exact ih (i + 1) m _ _ _ _ _ (by omega) (by omega) (fun j hj' => by
     by_cases e' : j = i
     ·subst e'; exact g
     ·exact hj j (by omega))
   ·rw [if_neg g]
    by_cases g2 : (s.data.toList.getD i 0).toNat = 0 ∧ i > 0
    ·rw [if_pos g2, if_neg (by rw [hgt]; omega)]
     exact kzo s n0 n1 q1 q2 h2 i (by omega) (7 - i) (i + 1 + 1) m _ _ _ _ _ (by omega) (by omega) (by omega)
    ·rw [if_neg g2, if_pos (hgt.2 ⟨by omega, by omega⟩), h1]
  ·rw [if_neg h]
   exact ktg s n0 n1 q1 q2 h2 (i + 1) m _ _ _ _ _ (by omega)
theorem kog (s : BA) : t113 s = some ([.one (.i .i64 (rdV s).1), .one (.i .i64 (rdV s).2)], []) :=
 koo s 0 0 (fun n0 n1 _ _ _ _ => some ([.one (.i .i64 n0), .one (.i .i64 n1)], [])) (fun _ _ _ _ _ _ => some ([.one (.i .i64 0), .one (.i .i64 0)], [])) (fun _ _ _ _ _ _ => rfl) (fun _ _ _ _ _ _ => rfl) 8 0 KK .undef .undef .undef .undef .undef rfl (by rw [kj]; omega) (by omega)
theorem ktd (s : BA) : s.extract 0 s.size = s := by
 apply ByteArray.ext
 rw [ByteArray.data_extract]
 exact Array.extract_size
theorem kgg (s : BA) (k : Nat) (h : k ≤ s.size) : s.extract 0 k ++ s.extract k s.size = s := by
 apply ByteArray.ext
 rw [ByteArray.data_append, ByteArray.data_extract, ByteArray.data_extract, Array.extract_append_extract]
 have e : max k s.size = s.data.size := by have : s.size = s.data.size := rfl; omega
 have e0 : min 0 k = 0 := by omega
 rw [e, e0]
 exact Array.extract_size
theorem kxc (s : BA) (a : Nat) : (s.extract a s.size).size = s.size - a := by
 rw [ByteArray.size_extract]; omega
def krd (n : Int) (s : BA) : Bool := decide (0 ≤ n ∧ n ≤ 200 ∧ (s.size : Int) ≤ 400)
def rdR (s : BA) : Bool × Int × BA :=
 if (rdV s).2 ≠ 0 ∧ krd (rdV s).1 (s.extract (rdV s).2.toNat s.size) = true then (true, (rdV s).1, s.extract (rdV s).2.toNat s.size) else (false, 0, ⟨#[]⟩)
theorem kbn (n : Int) (s : BA) : t59 n s = some ([.one (.b (krd n s))], []) := by
 simp only [t59, ta59, kde, zr57, zo57, okR, isVs, isV, isD, isOs, resC, nthR, cellsDV, nthD, asB, bat, ka]
 apply kkj; unfold krd; rw [Bool.eq_iff_iff]; simp; omega
theorem krm (n : Int) (s : BA) : t64 n s = some ([.one (.b (krd n s))], []) := by
 simp only [t64, ta64, kvc, zr63, zo63, okR, isVs, isV, isD, isOs, resC, nthR, cellsDV, nthD, asB, bat, ka]
 apply kkj; unfold krd; rw [Bool.eq_iff_iff]; simp; omega
theorem gz55 : ∀ x y, okR zr113 zo113 (some ([.one (.i .i64 x), .one (.i .i64 y)], [])) = true := fun _ _ => id rfl
theorem kcp (s : BA) : t78 s 0 1 = some (if (rdV s).2 = 0 then [.one (.l []), .one (.i .i64 (-1))] else [.one (.l [[.i .i64 (rdV s).1]]), .one (.i .i64 (rdV s).2)], []) := by
 obtain ⟨k, hk⟩ : ∃ k, KK = k + 2 := ⟨KK - 2, by rw [kj]⟩
 have hr := kke s
 unfold t78 ta78
 rw [hk]
 have a1 : (decide ((0 : Int) < 0) || decide ((0 : Int) > (s.size : Int))) = false := by rw [Bool.eq_false_iff]; simp
 have a2 : decide ((0 : Int) ≤ 0 ∧ (0 : Int) ≤ (s.size : Int)) = true := decide_eq_true (by omega)
 have ex : s.extract (0 : Int).toNat s.size = s := ktd s
 have a3 : decide ((0 : Int) < 1) = true := rfl
 have a4 : decide ((1 : Int) < 1) = false := rfl
 have a5 : w64 (0 + 1) = 1 := rfl
 have a6 : w64 (0 + (rdV s).2) = (rdV s).2 := by rw [ki _ (by omega)]; omega
 simp only [la78o0, a1, a2, a3, ex, kog, gz55, gz22, gz23, ka, if_true, bft, if_false]
 by_cases h : (rdV s).2 = 0
 ·simp [h]
 ·have h' : ((rdV s).2 == 0) = false := by simpa using h
  simp only [h', bft, if_false, a4, a5, a6, if_neg h, List.nil_append]
  rw [kvd (by simp [flatR, allSc, isSc, lim])]
theorem gz56 : ∀ x y, okR zr78 zo78 (some ([.one (.l x), .one (.i .i64 y)], [])) = true := fun _ _ => id rfl
theorem gz57 : ∀ x y, asL (resC (some ([.one (.l x), .one (.i .i64 y)], [])) 0 0) = x := fun _ _ => id rfl
theorem gz58 : ∀ x y, asI (resC (some ([.one (.l x), .one (.i .i64 y)], [])) 1 0) = y := fun _ _ => id rfl
theorem kee (s : BA) : t80 s = some ([.agg [.i .i64 (rdR s).2.1, .s (rdR s).2.2], .one (.b (rdR s).1)], []) := by
 have hr := kke s
 unfold t80 ta80 rdR
 by_cases h : (rdV s).2 = 0
 ·have e : t78 s 0 1 = some ([.one (.l []), .one (.i .i64 (-1))], []) := by rw [kcp, if_pos h]
  simp [e, h, zr78, zo78]
 ·have e : t78 s 0 1 = some ([.one (.l [[.i .i64 (rdV s).1]]), .one (.i .i64 (rdV s).2)], []) := by rw [kcp, if_neg h]
  have hn : ¬ (rdV s).2 < 0 := by omega
  have a1 : decide ((0 : Int) ≤ (rdV s).2 ∧ (rdV s).2 ≤ (s.size : Int)) = true := decide_eq_true (by omega)
  have hb := kfh s h
  have hsz := kxc s (rdV s).2.toNat
  have hj := kgg s (rdV s).2.toNat (by omega)
  rw [← hb] at hj
  have hv := kg (rdV s).1
  have sr : t70 (rdV s).1 (s.extract (rdV s).2.toNat s.size) = some ([.one (.s (if krd (rdV s).1 (s.extract (rdV s).2.toNat s.size) = true then s else ⟨#[]⟩))], []) := by
   simp only [t70, ta70, kbn, kqc, gz43, gz48, gz50, gz8, ka]
   cases hc : krd (rdV s).1 (s.extract (rdV s).2.toNat s.size)
   ·simp
   ·have := hc
    simp only [krd, decide_eq_true_eq] at this
    simp only [bnt, bft, if_false, if_true]
    rw [kvd (decide_eq_true (by unfold lim; omega)), hj]
  simp only [e, gz56, gz57, gz58, hn, decide_false, bft, if_false, ka, a1]
  have z1 : (decide ((0 : Int) ≤ 0) && decide ((0 : Int) < ([[D.i .i64 (rdV s).1]].length : Int))) = true := rfl
  have z2 : [[D.i .i64 (rdV s).1]].getD ((0 : Int).toNat) [] = [D.i .i64 (rdV s).1] := rfl
  have z3 : (decide (1 ≤ [D.i .i64 (rdV s).1].length) && isF z3 0 [D.i .i64 (rdV s).1]) = true := rfl
  have z4 : asI (nthD [D.i .i64 (rdV s).1] 0) = (rdV s).1 := rfl
  simp only [z1, z2, z3, z4, ka, sr, gz51, gz50]
  cases hc : krd (rdV s).1 (s.extract (rdV s).2.toNat s.size)
  ·have hs0 : (([] : List UInt8) == s.toList) = false := by
    rw [beq_eq_false_iff_ne]; intro h0
    have := (kxe s).1 h0.symm
    omega
   simp [hs0]
  ·simp [h]
theorem gz59 : ∀ x y, okR zr136 zo136 (some ([.one (.i .i64 x), .one (.i .i64 y)], [])) = true := fun _ _ => id rfl
theorem kgk (s : BA) : t118 s = some ([.agg [.i .i64 (rdR s).2.1, .s (rdR s).2.2], .one (.b (rdR s).1)], []) := by
 have hr := kke s
 unfold t118 ta118 rdR
 have a1 : decide ((0 : Int) ≤ (rdV s).2 ∧ (rdV s).2 ≤ (s.size : Int)) = true := decide_eq_true (by omega)
 simp only [khg, gz59, gz22, gz23, a1, ka, krm, gz46, gz8, bto]
 cases hc : krd (rdV s).1 (s.extract (rdV s).2.toNat s.size)
 ·simp
 ·by_cases h : (rdV s).2 = 0
  ·simp [h]
  ·simp [h]
theorem kjk (s : BA) (p q r : Nat) (h1 : p ≤ q) (h2 : q ≤ r) (h3 : r ≤ s.size) : s.extract p q ++ s.extract q r = s.extract p r := by
 apply ByteArray.ext
 rw [ByteArray.data_append, ByteArray.data_extract, ByteArray.data_extract, ByteArray.data_extract, Array.extract_append_extract]
 have e : max q r = r := by omega
 have e0 : min p q = p := by omega
 rw [e, e0]
theorem kli (s : BA) (p a b : Nat) (h : p + b ≤ s.size) : (s.extract p s.size).extract a b = s.extract (p + a) (p + b) := by
 apply ByteArray.ext
 rw [ByteArray.data_extract, ByteArray.data_extract, ByteArray.data_extract, Array.extract_extract]
 congr 1; omega
theorem kmm (s : BA) (p a : Nat) (h : p + a ≤ s.size) : (s.extract p s.size).extract a (s.extract p s.size).size = s.extract (p + a) s.size := by
 rw [kxc, kli s p a _ (by omega)]
 congr 1; omega
def pos : Option Nat → Int | none => -1 | some p => (p : Int)
theorem ked (p : Nat) : pos (some p) = (p : Int) := rfl
def inB (s : BA) (o : Option Nat) : Prop := ∀ p, o = some p → p ≤ s.size
def numA (s : BA) : Option Nat → Int × Option Nat
 | none => (0, none)
 | some p => if (rdV (s.extract p s.size)).2 = 0 then (0, none) else ((rdV (s.extract p s.size)).1, some (p + (rdV (s.extract p s.size)).2.toNat))
def kec (s : BA) : Nat → Option Nat → Rw → Rw × Option Nat
 | 0, o, l => (l, o)
 | n + 1, o, l => if (numA s o).2 = none then (l, none) else kec s n (numA s o).2 (l ++ [[.i .i64 (numA s o).1]])
def kb (s : BA) (o : Option Nat) : BA × Option Nat :=
 match (numA s o).2 with
 | none => (⟨#[]⟩, none)
 | some q => if (numA s o).1 > (s.size : Int) - q then (⟨#[]⟩, none) else (s.extract q (q + (numA s o).1.toNat), some (q + (numA s o).1.toNat))
theorem kze (s : BA) (o : Option Nat) (h : inB s o) : ((numA s o).1 = 0 ∧ (numA s o).2 = none) ∨ ∃ p q, o = some p ∧ (numA s o).2 = some q ∧ p < q ∧ q ≤ p + 7 ∧ q ≤ s.size ∧ 0 ≤ (numA s o).1 ∧ (numA s o).1 ≤ 562949953421311 ∧ s.extract p q = varS (numA s o).1 := by
 cases o with
 | none => exact .inl ⟨rfl, rfl⟩
 | some p =>
  have hp := h p rfl
  have hr := kke (s.extract p s.size)
  have hb := kfh (s.extract p s.size)
  have hz := kxc s p
  unfold numA
  by_cases e : (rdV (s.extract p s.size)).2 = 0
  ·simp only [e, if_true]; exact .inl ⟨trivial, trivial⟩
  ·simp only [e, if_false]
   refine .inr ⟨p, _, rfl, rfl, by omega, by omega, by omega, hr.1, hr.2.1, ?_⟩
   rw [hb e, kli s p 0 _ (by omega)]
   rfl
theorem kgh (s : BA) (o : Option Nat) (h : inB s o) : ((kb s o).1 = ⟨#[]⟩ ∧ (kb s o).2 = none) ∨ ∃ p q, o = some p ∧ (kb s o).2 = some q ∧ p < q ∧ q ≤ s.size ∧ s.extract p q = ksb (kb s o).1 ∧ (kb s o).1.size ≤ s.size := by
 rcases kze s o h with ⟨e1, e2⟩ | ⟨p, q, rfl, e2, h1, h2, h3, h4, h5, h6⟩
 ·refine .inl ?_
  unfold kb; rw [e2]; exact ⟨rfl, rfl⟩
 ·unfold kb; rw [e2]
  by_cases g : (numA s (some p)).1 > (s.size : Int) - q
  ·simp only [g, if_true]; exact .inl ⟨trivial, trivial⟩
  ·simp only [g, if_false]
   refine .inr ⟨p, _, rfl, rfl, by omega, by omega, ?_, by rw [ByteArray.size_extract]; omega⟩
   have e7 : (((s.extract q (q + (numA s (some p)).1.toNat)).size : Nat) : Int) = (numA s (some p)).1 := by
    rw [ByteArray.size_extract]; omega
   unfold ksb
   rw [e7, ← h6, kjk s _ _ _ (by omega) (by omega) (by omega)]
theorem knd (s : BA) (o : Option Nat) (h : inB s o) : inB s (numA s o).2 := by
 intro p hp
 rcases kze s o h with ⟨_, e2⟩ | ⟨_, q, _, e2, _, _, h3, _⟩
 ·rw [e2] at hp; cases hp
 ·rw [e2] at hp; cases hp; exact h3
theorem kpc (s : BA) (o : Option Nat) (h : inB s o) : inB s (kb s o).2 := by
 intro p hp
 rcases kgh s o h with ⟨_, e2⟩ | ⟨_, q, _, e2, _, h3, _⟩
 ·rw [e2] at hp; cases hp
 ·rw [e2] at hp; cases hp; exact h3
theorem kxn (s : BA) (hs : s.size ≤ 4000000000000000000) (n : Nat) (hn : n < 1000) (x13 : Int) (q1 : Int → Int → SV → SV → Bool → Bool → SV → Rw → Rs) (q2 : Int → Int → Int → Int → Bool → Bool → Bool → Rw → Rs) (q3 : Int → Int → SV → SV → Bool → SV → SV → Rw → Rs)
  (h1 : ∀ a b c d e f g l, q1 a b c d e f g l = some ([.one (.l l), .one (.i .i64 (-1))], [])) (h2 : ∀ a b c d e f g l, q2 a b c d e f g l = some ([.one (.l l), .one (.i .i64 (-1))], [])) (h3 : ∀ a b c d e f g l, q3 a b c d e f g l = some ([.one (.l l), .one (.i .i64 a)], [])) :
  ∀ (k i m : Nat) (o : Option Nat) (v1 v2 v3 v4 v5 : SV) (l : Rw), i + k = n → k < m → inB s o → l.length + k ≤ lim →
  la78o0 t113 s n x13 q1 q2 q3 m (pos o) i v1 v2 v3 v4 v5 l = some ([.one (.l (kec s k o l).1), .one (.i .i64 (pos (kec s k o l).2))], []) := by
 intro k
 induction k with
 | zero =>
  intro i m o v1 v2 v3 v4 v5 l e hm hb hl
  obtain ⟨m, rfl⟩ : ∃ m', m = m' + 1 := ⟨m - 1, by omega⟩
  have ei : decide ((i : Int) < (n : Int)) = false := by simp; omega
  simp only [la78o0, ei, h3, kec]; simp
 | succ k ih =>
  intro i m o v1 v2 v3 v4 v5 l e hm hb hl
  obtain ⟨m, rfl⟩ : ∃ m', m = m' + 1 := ⟨m - 1, by omega⟩
  have ei : decide ((i : Int) < (n : Int)) = true := by simp; omega
  cases o with
  | none =>
   have a1 : (decide (pos none < (0 : Int)) || decide (pos none > (s.size : Int))) = true := by simp [pos]
   simp only [la78o0, ei, if_true, a1, h1, kec, numA]
   rfl
  | some p =>
   have hp := hb p rfl
   have hr := kke (s.extract p s.size)
   have hz := kxc s p
   have a1 : (decide (pos (some p) < (0 : Int)) || decide (pos (some p) > (s.size : Int))) = false := by
    rw [ked, decide_eq_false (by omega), decide_eq_false (by omega)]; rfl
   have a2 : decide (0 ≤ pos (some p) ∧ pos (some p) ≤ (s.size : Int)) = true := decide_eq_true (by rw [ked]; omega)
   have ex : (pos (some p)).toNat = p := by simp [pos]
   have hw := kc i (by omega)
   simp only [la78o0, ei, if_true, a1, a2, ex, kog, gz55, gz22, gz23, ka, bft, if_false, hw]
   by_cases g : (rdV (s.extract p s.size)).2 = 0
   ·have g' : ((rdV (s.extract p s.size)).2 == 0) = true := by simpa using g
    have : (numA s (some p)).2 = none := by simp [numA, g]
    simp only [g', if_true, h2, kec, this, pos]
   ·have g' : ((rdV (s.extract p s.size)).2 == 0) = false := by simpa using g
    have f2 : (numA s (some p)).2 = some (p + (rdV (s.extract p s.size)).2.toNat) := by simp [numA, g]
    have f1 : (numA s (some p)).1 = (rdV (s.extract p s.size)).1 := by simp [numA, g]
    have a6 : w64 (pos (some p) + (rdV (s.extract p s.size)).2) = pos (some (p + (rdV (s.extract p s.size)).2.toNat)) := by
     simp only [pos]; rw [ki _ (by omega)]; omega
    simp only [g', bft, if_false, a6]
    have hk : ((flatR 1 [[D.i .i64 (rdV (s.extract p s.size)).1]]) && decide (l.length + [[D.i .i64 (rdV (s.extract p s.size)).1]].length ≤ lim)) = true := by
     have : l.length + 1 ≤ lim := by omega
     simpa [flatR, allSc, isSc] using this
    rw [kvd hk]
    rw [ih (i + 1) m _ _ _ _ _ _ _ (by omega) (by omega) (by intro q hq; cases hq; omega) (by simp; omega)]
    simp only [kec, f1, f2]
    simp
theorem kej (s : BA) (hs : s.size ≤ 4000000000000000000) (n : Nat) (hn : n < 1000) (o : Option Nat) (hb : inB s o) : t78 s (pos o) n = some ([.one (.l (kec s n o []).1), .one (.i .i64 (pos (kec s n o []).2))], []) :=
 kxn s hs n hn 0 (fun _ _ _ _ _ _ _ l0 => some ([.one (.l l0), .one (.i .i64 (-1 : Int))], [])) (fun _ _ _ _ _ _ _ l0 => some ([.one (.l l0), .one (.i .i64 (-1 : Int))], [])) (fun n0 _ _ _ _ _ _ l1 => some ([.one (.l l1), .one (.i .i64 n0)], []))
  (fun _ _ _ _ _ _ _ _ => rfl) (fun _ _ _ _ _ _ _ _ => rfl) (fun _ _ _ _ _ _ _ _ => rfl) n 0 KK o _ _ _ _ _ [] (by omega) (by rw [kj]; omega) hb (by simp [lim]; omega)
theorem kko (s : BA) (hs : s.size ≤ 4000000000000000000) (o : Option Nat) (hb : inB s o) : t77 s (pos o) = some ([.one (.s (kb s o).1), .one (.i .i64 (pos (kb s o).2))], []) := by
 have hn := kej s hs 1 (by omega) o hb
 have hn : t78 s (pos o) 1 = _ := hn
 simp only [t77, ta77, hn, gz56, gz57, gz58, ka]
 rcases kze s o hb with ⟨f1, f2⟩ | ⟨p, q, rfl, f2, h1, h2, h3, h4, h5, h6⟩
 ·have ft : kb s o = (⟨#[]⟩, none) := by simp [kb, f2]
  have fn : kec s 1 o [] = ([], none) := by simp [kec, f2]
  simp only [ft, fn]
  rfl
 ·have fn : kec s 1 (some p) [] = ([[.i .i64 (numA s (some p)).1]], some q) := by simp [kec, f2]
  simp only [fn]
  have p1 : pos (some q) = (q : Int) := rfl
  have b1 : decide ((q : Int) < 0) = false := by simp
  have z1 : (decide ((0 : Int) ≤ 0) && decide ((0 : Int) < ([[D.i .i64 (numA s (some p)).1]].length : Int))) = true := rfl
  have z2 : [[D.i .i64 (numA s (some p)).1]].getD ((0 : Int).toNat) [] = [D.i .i64 (numA s (some p)).1] := rfl
  have z3 : (decide (1 ≤ [D.i .i64 (numA s (some p)).1].length) && isF z3 0 [D.i .i64 (numA s (some p)).1]) = true := rfl
  have z4 : asI (nthD [D.i .i64 (numA s (some p)).1] 0) = (numA s (some p)).1 := rfl
  have w1 : w64 ((s.size : Int) - (q : Int)) = (s.size : Int) - q := ki _ (by omega)
  simp only [p1, b1, z1, z2, z3, z4, w1, bto, Bool.false_or, ka]
  by_cases g : (numA s (some p)).1 > (s.size : Int) - q
  ·have g' : decide ((numA s (some p)).1 > (s.size : Int) - q) = true := decide_eq_true g
   have ft : kb s (some p) = (⟨#[]⟩, none) := by simp only [kb, f2, if_pos g]
   simp only [g', if_true, ft]
   rfl
  ·have g' : decide ((numA s (some p)).1 > (s.size : Int) - q) = false := decide_eq_false g
   have ft : kb s (some p) = (s.extract q (q + (numA s (some p)).1.toNat), some (q + (numA s (some p)).1.toNat)) := by simp only [kb, f2, if_neg g]
   have w2 : w64 ((q : Int) + (numA s (some p)).1) = ((q + (numA s (some p)).1.toNat : Nat) : Int) := by rw [ki _ (by omega)]; omega
   have a3 : decide (0 ≤ (q : Int) ∧ (q : Int) ≤ ((q + (numA s (some p)).1.toNat : Nat) : Int) ∧ ((q + (numA s (some p)).1.toNat : Nat) : Int) ≤ (s.size : Int)) = true := decide_eq_true (by omega)
   simp only [g', bft, if_false, w2, a3, ka, itn, ft, pos]
def St (s : BA) (o : Option Nat) (r : BA) (b : Bool) : Prop := match o with | none => b = true | some p => b = false ∧ r = s.extract p s.size ∧ p ≤ s.size
theorem kcf {s : BA} {o : Option Nat} {r : BA} {b : Bool} (h : St s o r b) : inB s o := by
 intro p hp; subst hp; exact h.2.2
theorem keb (s : BA) (o : Option Nat) (r : BA) (b : Bool) (h : St s o r b) : ∃ r' b', t116 r b = some ([.one (.i .i64 (numA s o).1)], [[.s r', .b b']]) ∧ St s (numA s o).2 r' b' := by
 simp only [t116, ta116, khg, gz59, gz22, gz23, ka]
 cases o with
 | none =>
  have hb : b = true := h
  subst hb
  exact ⟨r, true, by simp [numA], rfl⟩
 | some p =>
  obtain ⟨rfl, rfl, hp⟩ := h
  have hr := kke (s.extract p s.size)
  have hz := kxc s p
  by_cases g : (rdV (s.extract p s.size)).2 = 0
  ·refine ⟨s.extract p s.size, true, ?_, ?_⟩
   ·simp [numA, g]
   ·simp [numA, g, St]
  ·have g' : ((rdV (s.extract p s.size)).2 == 0) = false := by simpa using g
   have a1 : decide (0 ≤ (rdV (s.extract p s.size)).2 ∧ (rdV (s.extract p s.size)).2 ≤ ((s.extract p s.size).size : Int)) = true := decide_eq_true (by omega)
   have f2 : numA s (some p) = ((rdV (s.extract p s.size)).1, some (p + (rdV (s.extract p s.size)).2.toNat)) := by simp [numA, g]
   refine ⟨s.extract (p + (rdV (s.extract p s.size)).2.toNat) s.size, false, ?_, ?_⟩
   ·simp only [g', Bool.or_self, bft, if_false, a1, ka, f2, kmm s p _ (show p + (rdV (s.extract p s.size)).2.toNat ≤ s.size by omega)]
   ·rw [f2]; exact ⟨rfl, rfl, by omega⟩
theorem gz60 : ∀ x y z, okR zr116 zo116 (some ([.one (.i .i64 x)], [[.s y, .b z]])) = true := fun _ _ _ => id rfl
theorem gz61 : ∀ x y z, okR zr119 zo119 (some ([.one (.s x)], [[.s y, .b z]])) = true := fun _ _ _ => id rfl
theorem gz62 : ∀ x y z, asI (resC (some ([.one (.i .i64 x)], [[.s y, .b z]])) 0 0) = x := fun _ _ _ => id rfl
theorem gz63 : ∀ x y z, asS (outC (some ([.one x], [[.s y, .b z]])) 0 0) = y := fun _ _ _ => id rfl
theorem gz64 : ∀ x y z, asB (outC (some ([.one x], [[.s y, .b z]])) 0 1) = z := fun _ _ _ => id rfl
theorem gz65 : ∀ x y z, asS (resC (some ([.one (.s x)], [[.s y, .b z]])) 0 0) = x := fun _ _ _ => id rfl
theorem kid (s : BA) (o : Option Nat) (r : BA) (b : Bool) (h : St s o r b) : ∃ r' b', t82 r b = some ([.one (.s (kb s o).1)], [[.s r', .b b']]) ∧ St s (kb s o).2 r' b' := by
 obtain ⟨r1, b1, e1, h1⟩ := keb s o r b h
 simp only [t82, ta82, e1, gz60, gz62, gz63, gz64, ka]
 have hb0 := kcf h
 rcases kze s o hb0 with ⟨g1, g2⟩ | ⟨p, q, rfl, g2, k1, k2, k3, k4, k5, k6⟩
 ·rw [g2] at h1
  have hb : b1 = true := h1
  subst hb
  have ft : kb s o = (⟨#[]⟩, none) := by simp [kb, g2]
  refine ⟨r1, true, ?_, ?_⟩
  ·simp only [t119, bto, if_true, gz61, gz63, gz64, gz65, ka, ft]
  ·rw [ft]; rfl
 ·rw [g2] at h1
  obtain ⟨rfl, rfl, hq⟩ := h1
  have hz := kxc s q
  by_cases g : (numA s (some p)).1 > (s.size : Int) - q
  ·have g' : decide ((numA s (some p)).1 > ((s.extract q s.size).size : Int)) = true := decide_eq_true (by omega)
   have ft : kb s (some p) = (⟨#[]⟩, none) := by simp only [kb, g2, if_pos g]
   refine ⟨s.extract q s.size, true, ?_, ?_⟩
   ·simp only [t119, g', bot, if_true, gz61, gz63, gz64, gz65, ka, ft]
   ·rw [ft]; rfl
  ·have g' : decide ((numA s (some p)).1 > ((s.extract q s.size).size : Int)) = false := decide_eq_false (by omega)
   have ft : kb s (some p) = (s.extract q (q + (numA s (some p)).1.toNat), some (q + (numA s (some p)).1.toNat)) := by simp only [kb, g2, if_neg g]
   have a1 : decide (0 ≤ (0 : Int) ∧ (0 : Int) ≤ (numA s (some p)).1 ∧ (numA s (some p)).1 ≤ ((s.extract q s.size).size : Int)) = true := decide_eq_true (by omega)
   have a2 : decide (0 ≤ (numA s (some p)).1 ∧ (numA s (some p)).1 ≤ ((s.extract q s.size).size : Int)) = true := decide_eq_true (by omega)
   refine ⟨s.extract (q + (numA s (some p)).1.toNat) s.size, false, ?_, ?_⟩
   ·simp only [t119, g', Bool.or_self, bft, if_false, a1, a2, gz61, gz63, gz64, gz65, ka, ft, kmm s q _ (show q + (numA s (some p)).1.toNat ≤ s.size by omega)]
    rw [kli s q _ _ (by omega)]
    rfl
   ·rw [ft]; exact ⟨rfl, rfl, by omega⟩
theorem kfe (a b : BA) : (a.toList == b.toList) = true ↔ a = b := by
 rw [beq_iff_eq]
 constructor
 ·intro h
  rw [ByteArray.toList_eq, ByteArray.toList_eq] at h
  exact ByteArray.ext (Array.ext' h)
 ·intro h; rw [h]
theorem kwe (s : BA) (q : Nat) (h : q ≤ s.size) : s.extract 0 q = s ↔ q = s.size := by
 constructor
 ·intro e
  have := congrArg ByteArray.size e
  rw [ByteArray.size_extract] at this; omega
 ·intro e; subst e; exact ktd s
theorem knn (s : BA) (q : Nat) (h : q ≤ s.size) : s.extract q s.size = ⟨#[]⟩ ↔ q = s.size := by
 constructor
 ·intro e
  have := congrArg ByteArray.size e
  rw [ByteArray.size_extract] at this
  have e0 : (⟨#[]⟩ : BA).size = 0 := rfl
  omega
 ·intro e; subst e
  apply ByteArray.ext
  rw [ByteArray.data_extract]
  simp
theorem kwc (s : BA) (o : Option Nat) (h : inB s o) : 0 ≤ (numA s o).1 ∧ (numA s o).1 ≤ 562949953421311 := by
 rcases kze s o h with ⟨e1, e2⟩ | ⟨p, q, _, _, _, _, _, h4, h5, _⟩
 ·rw [e1]; omega
 ·exact ⟨h4, h5⟩
theorem kjd (s : BA) (o : Option Nat) (h : inB s o) (q : Nat) (e : (numA s o).2 = some q) : ∃ p, o = some p ∧ p < q ∧ q ≤ s.size ∧ s.extract p q = varS (numA s o).1 := by
 rcases kze s o h with ⟨e1, e2⟩ | ⟨p, q', e1, e2, h1, h2, h3, _, _, h6⟩
 ·rw [e2] at e; cases e
 ·rw [e2] at e; cases e; exact ⟨p, e1, h1, h3, h6⟩
theorem kzc (s : BA) (o : Option Nat) (h : inB s o) (q : Nat) (e : (kb s o).2 = some q) : ∃ p, o = some p ∧ p < q ∧ q ≤ s.size ∧ s.extract p q = ksb (kb s o).1 := by
 rcases kgh s o h with ⟨e1, e2⟩ | ⟨p, q', e1, e2, h1, h2, h3, _⟩
 ·rw [e2] at e; cases e
 ·rw [e2] at e; cases e; exact ⟨p, e1, h1, h2, h3⟩
theorem koc (s : BA) (o : Option Nat) (h : inB s o) : (kb s o).1.size ≤ s.size := by
 rcases kgh s o h with ⟨e1, _⟩ | ⟨_, _, _, _, _, _, _, h4⟩
 ·rw [e1]; exact Nat.zero_le _
 ·exact h4
theorem inB0 (s : BA) : inB s (some 0) := by intro p hp; cases hp; omega

theorem wfN (n : Int) (h : -9223372036854775808 ≤ n ∧ n ≤ 9223372036854775807) : (Lit.int .i64 n).wf = true := by
 have : IntKind.wrap .i64 n = n := ki n h
 simp [Lit.wf, this]
 exact h
def itN {α : Type} (f : α → α) : Nat → α → α
 | 0, a => a
 | k + 1, a => f (itN f k a)
abbrev LO := Rw × Option Nat
theorem kvb {f : LO → LO} (h : ∀ x, x.2 = none → (f x).2 = none) : ∀ (k : Nat) (x : LO), x.2 = none → (itN f k x).2 = none
 | 0, _, e => e
 | k + 1, x, e => h _ (kvb h k x e)
theorem kyo {f : LO → LO} (h : ∀ x, x.2 = none → (f x).2 = none) : ∀ (k j : Nat) (x : LO), (itN f (k + j) x).2 ≠ none → (itN f k x).2 ≠ none := by
 intro k j x
 induction j with
 | zero => exact id
 | succ j ih => intro e q; exact e (h _ (by apply Classical.byContradiction; intro g; exact ih g q))
theorem kjb {f : LO → LO} (h : ∀ x, (f x).1.length = x.1.length + 1) : ∀ (k : Nat) (x : LO), (itN f k x).1.length = x.1.length + k
 | 0, _ => rfl
 | k + 1, x => by rw [itN, h, kjb h k x]; omega
theorem klc {f : LO → LO} {P : LO → Prop} (h : ∀ x, P x → P (f x)) : ∀ (k : Nat) (x : LO), P x → P (itN f k x)
 | 0, _, e => e
 | k + 1, x, e => h _ (klc h k x e)
def posN (s : BA) : Nat → Option Nat → Option Nat
 | 0, o => o
 | k + 1, o => (numA s (posN s k o)).2
def valN (s : BA) (k : Nat) (o : Option Nat) : Int := (numA s (posN s k o)).1
theorem kje (s : BA) : ∀ (k : Nat) (o : Option Nat), posN s (k + 1) o = posN s k (numA s o).2
 | 0, _ => rfl
 | k + 1, o => by rw [posN, kje s k o]; rfl
theorem kom (s : BA) (k : Nat) (o : Option Nat) : valN s (k + 1) o = valN s k (numA s o).2 := by
 unfold valN; rw [kje]
theorem klf (s : BA) : ∀ (k : Nat), posN s k none = none
 | 0 => rfl
 | k + 1 => by rw [posN, klf s k]; rfl
theorem kic {s : BA} {o : Option Nat} (h : inB s o) : ∀ k, inB s (posN s k o)
 | 0 => h
 | k + 1 => knd s _ (kic h k)
theorem kdj (s : BA) : ∀ (n : Nat) (o : Option Nat) (l : Rw), posN s n o ≠ none → kec s n o l = (l ++ (List.range n).map (fun j => [D.i .i64 (valN s j o)]), posN s n o)
 | 0, o, l, _ => by simp [kec, posN]
 | n + 1, o, l, h => by
  rw [kje] at h
  have h0 : (numA s o).2 ≠ none := by intro e; rw [e, klf] at h; exact h rfl
  rw [kec, if_neg h0, kdj s n _ _ h, kje, List.range_succ_eq_map, List.map_cons, List.map_map, List.append_assoc]
  congr 2
  ·simp only [List.singleton_append, List.cons.injEq]
   refine ⟨⟨rfl, trivial⟩, List.map_congr_left fun j _ => ?_⟩
   simp only [Function.comp, kom]
theorem kcj (s : BA) : ∀ (n : Nat) (o : Option Nat) (l : Rw), posN s n o = none → (kec s n o l).2 = none
 | 0, o, l, h => h
 | n + 1, o, l, h => by
  rw [kje] at h
  rw [kec]
  by_cases e : (numA s o).2 = none
  ·rw [if_pos e]
  ·rw [if_neg e]; exact kcj s n _ _ h
theorem krb {s : BA} {o : Option Nat} (h : inB s o) (k : Nat) : 0 ≤ valN s k o ∧ valN s k o ≤ 562949953421311 := kwc s _ (kic h k)
theorem kbb {s : BA} {p q r : Nat} {x y : BA} (h1 : s.extract p q = x) (h2 : s.extract q r = y) (a : p ≤ q) (b : q ≤ r) (c : r ≤ s.size) : s.extract p r = x ++ y := by
 rw [← h1, ← h2, kjk s _ _ _ a b c]
theorem kop (s : BA) (p : Nat) : s.extract p p = ⟨#[]⟩ := by
 apply ByteArray.ext
 rw [ByteArray.data_extract]
 simp [Nat.min_le_left]
def kh (s : BA) (o : Option Nat) (n : Int) : Int × Option Nat := if (numA s o).1 > n then (0, none) else numA s o
theorem khd {s : BA} {o : Option Nat} {n : Int} (h : inB s o) : inB s (kh s o n).2 := by
 unfold kh; split
 ·intro p hp; cases hp
 ·exact knd s o h
theorem kve (s : BA) (n : Int) : (kh s none n).2 = none := by
 unfold kh; split <;> rfl
theorem kbc {s : BA} {o : Option Nat} {n : Int} (h : inB s o) (hn : 0 ≤ n) : 0 ≤ (kh s o n).1 ∧ (kh s o n).1 ≤ n := by
 have := kwc s o h
 unfold kh; split <;> omega
theorem kgf {s : BA} {o : Option Nat} {n : Int} (h : inB s o) {q : Nat} (e : (kh s o n).2 = some q) : ∃ p, o = some p ∧ p < q ∧ q ≤ s.size ∧ s.extract p q = varS (kh s o n).1 := by
 unfold kh at e ⊢; split at e
 ·cases e
 ·rename_i g; simp only [g, if_false]; exact kjd s o h q e
theorem kre (s : BA) : kb s none = (⟨#[]⟩, none) := rfl
theorem kso (s : BA) : numA s none = (0, none) := rfl
structure OkR (sh : List Sh) (s : BA) (x : LO) : Prop where
 b : inB s x.2
 t : ∀ r ∈ x.1, typL sh r ∧ szdL sh r
theorem OkR.nil {sh : List Sh} {s : BA} {o : Option Nat} (h : inB s o) : OkR sh s ([], o) := ⟨h, by simp⟩
theorem OkR.step {sh : List Sh} {s : BA} {x : LO} {r : List D} {o : Option Nat} (h : OkR sh s x) (ho : inB s o) (h1 : typL sh r) (h2 : szdL sh r) : OkR sh s (x.1 ++ [r], o) := by
 refine ⟨ho, ?_⟩
 intro e he
 rcases List.mem_append.1 he with he | he
 ·exact h.t e he
 ·simp only [List.mem_singleton] at he; subst he; exact ⟨h1, h2⟩
theorem kob (n : Int) (h : 0 ≤ n ∧ n ≤ 562949953421311) : (Lit.int .i64 n).wf = true := wfN n (by omega)
def kad (f : List D → BA) (s : BA) (o0 : Option Nat) (x : LO) : Prop := ∀ q, x.2 = some q → ∃ p, o0 = some p ∧ p ≤ q ∧ q ≤ s.size ∧ s.extract p q = catL f x.1
theorem kad.nil {f : List D → BA} {s : BA} {o : Option Nat} (h : inB s o) : kad f s o ([], o) := by
 intro q e
 exact ⟨q, e, Nat.le_refl q, h q e, kop s q⟩
theorem kad.step {f : List D → BA} {s : BA} {o : Option Nat} {x : LO} {r : List D} {o' : Option Nat} (h : kad f s o x) (hr : ∀ q, o' = some q → ∃ p, x.2 = some p ∧ p ≤ q ∧ q ≤ s.size ∧ s.extract p q = f r) : kad f s o (x.1 ++ [r], o') := by
 intro q e
 obtain ⟨p1, e1, a1, b1, c1⟩ := hr q e
 obtain ⟨p, e0, a0, b0, c0⟩ := h p1 e1
 refine ⟨p, e0, by omega, b1, ?_⟩
 rw [kbb c0 c1 a0 a1 b1, khh]
 congr 1
 simp only [catL, kef]
theorem kmb {s : BA} {o : Option Nat} (h : inB s o) (k : Nat) {q : Nat} (e : posN s (k + 1) o = some q) : ∃ p, posN s k o = some p ∧ p < q ∧ q ≤ s.size ∧ s.extract p q = varS (valN s k o) := kjd s _ (kic h k) q e
theorem lim1 {n : Nat} (h : n ≤ 1000) : decide (n + 1 ≤ lim) = true := decide_eq_true (by unfold lim; omega)
theorem kcd (r : List D) : ([r] : Rw).length = 1 := rfl
theorem fo1 (x y z) : asS (outC (some ([.one x], [[.s y, .b z]])) 0 0) = y := rfl
theorem fo2 (x y z) : asB (outC (some ([.one x], [[.s y, .b z]])) 0 1) = z := rfl
theorem fi (x : Int) (y) : asI (resC (some ([.one (.i .i64 x)], y)) 0 0) = x := rfl
theorem fs (x : BA) (y) : asS (resC (some ([.one (.s x)], y)) 0 0) = x := rfl
theorem kuf (x y z) : okR zr116 zo116 (some ([.one (.i .i64 x)], [[.s y, .b z]])) = true := rfl
theorem kyg (x y z) : okR zr82 zo82 (some ([.one (.s x)], [[.s y, .b z]])) = true := rfl
theorem kyh (x y z) : okR zr117 zo117 (some ([.one (.i .i64 x)], [[.s y, .b z]])) = true := rfl
theorem kkf (s : BA) (o : Option Nat) (r : BA) (b : Bool) (n : Int) (h : St s o r b) : ∃ r' b', t117 r b n = some ([.one (.i .i64 (kh s o n).1)], [[.s r', .b b']]) ∧ St s (kh s o n).2 r' b' := by
 obtain ⟨r1, b1, e1, h1⟩ := keb s o r b h
 simp only [t117, ta117, e1, kuf, fi, fo1, fo2, ka, kh]
 by_cases g : (numA s o).1 > n
 ·simp only [g, decide_true, if_true]; exact ⟨r1, true, rfl, rfl⟩
 ·simp only [g, decide_false, bft, if_false]; exact ⟨r1, b1, rfl, h1⟩
theorem ksm {s : BA} {o : Option Nat} {r : BA} {b : Bool} (h : St s o r b) : (b || !(r.toList == (⟨#[]⟩ : BA).toList)) = !decide (o = some s.size) := by
 cases o with
 | none => have : b = true := h; simp [this]
 | some q =>
  obtain ⟨rfl, rfl, hqs⟩ := h
  have : ((s.extract q s.size).toList == (⟨#[]⟩ : BA).toList) = decide (q = s.size) := by
   rw [Bool.eq_iff_iff, kfe, knn s q hqs]; simp
  rw [this]; simp
noncomputable def oz : Option Nat := Classical.choose (⟨some 0, rfl⟩ : ∃ o : Option Nat, o = some 0)
theorem kif : oz = some 0 := Classical.choose_spec (⟨some 0, rfl⟩ : ∃ o : Option Nat, o = some 0)
theorem kan (s : BA) : St s oz s false := by rw [kif]; exact ⟨rfl, (ktd s).symm, Nat.zero_le _⟩
theorem isI (a : Int) : (decide (1 ≤ ([D.i .i64 a] : List D).length) && isF z3 0 [D.i .i64 a]) = true := id rfl
theorem asI1 (a : Int) : asI (nthD [D.i .i64 a] 0) = a := id rfl
theorem lA70 (a0 a1 a2 a3 a4 a5 a6 : Int) : (decide ((0 : Int) ≤ (0 : Int)) && decide ((0 : Int) < (([[D.i .i64 a0], [D.i .i64 a1], [D.i .i64 a2], [D.i .i64 a3], [D.i .i64 a4], [D.i .i64 a5], [D.i .i64 a6]] : Rw).length : Int))) = true := id rfl
theorem lB70 (a0 a1 a2 a3 a4 a5 a6 : Int) : ([[D.i .i64 a0], [D.i .i64 a1], [D.i .i64 a2], [D.i .i64 a3], [D.i .i64 a4], [D.i .i64 a5], [D.i .i64 a6]] : Rw).getD ((0 : Int).toNat) [] = [D.i .i64 a0] := id rfl
theorem lA71 (a0 a1 a2 a3 a4 a5 a6 : Int) : (decide ((0 : Int) ≤ (1 : Int)) && decide ((1 : Int) < (([[D.i .i64 a0], [D.i .i64 a1], [D.i .i64 a2], [D.i .i64 a3], [D.i .i64 a4], [D.i .i64 a5], [D.i .i64 a6]] : Rw).length : Int))) = true := id rfl
theorem lB71 (a0 a1 a2 a3 a4 a5 a6 : Int) : ([[D.i .i64 a0], [D.i .i64 a1], [D.i .i64 a2], [D.i .i64 a3], [D.i .i64 a4], [D.i .i64 a5], [D.i .i64 a6]] : Rw).getD ((1 : Int).toNat) [] = [D.i .i64 a1] := id rfl
theorem lA72 (a0 a1 a2 a3 a4 a5 a6 : Int) : (decide ((0 : Int) ≤ (2 : Int)) && decide ((2 : Int) < (([[D.i .i64 a0], [D.i .i64 a1], [D.i .i64 a2], [D.i .i64 a3], [D.i .i64 a4], [D.i .i64 a5], [D.i .i64 a6]] : Rw).length : Int))) = true := id rfl
theorem lB72 (a0 a1 a2 a3 a4 a5 a6 : Int) : ([[D.i .i64 a0], [D.i .i64 a1], [D.i .i64 a2], [D.i .i64 a3], [D.i .i64 a4], [D.i .i64 a5], [D.i .i64 a6]] : Rw).getD ((2 : Int).toNat) [] = [D.i .i64 a2] := id rfl
theorem lA73 (a0 a1 a2 a3 a4 a5 a6 : Int) : (decide ((0 : Int) ≤ (3 : Int)) && decide ((3 : Int) < (([[D.i .i64 a0], [D.i .i64 a1], [D.i .i64 a2], [D.i .i64 a3], [D.i .i64 a4], [D.i .i64 a5], [D.i .i64 a6]] : Rw).length : Int))) = true := id rfl
theorem lB73 (a0 a1 a2 a3 a4 a5 a6 : Int) : ([[D.i .i64 a0], [D.i .i64 a1], [D.i .i64 a2], [D.i .i64 a3], [D.i .i64 a4], [D.i .i64 a5], [D.i .i64 a6]] : Rw).getD ((3 : Int).toNat) [] = [D.i .i64 a3] := id rfl
theorem lA74 (a0 a1 a2 a3 a4 a5 a6 : Int) : (decide ((0 : Int) ≤ (4 : Int)) && decide ((4 : Int) < (([[D.i .i64 a0], [D.i .i64 a1], [D.i .i64 a2], [D.i .i64 a3], [D.i .i64 a4], [D.i .i64 a5], [D.i .i64 a6]] : Rw).length : Int))) = true := id rfl
theorem lB74 (a0 a1 a2 a3 a4 a5 a6 : Int) : ([[D.i .i64 a0], [D.i .i64 a1], [D.i .i64 a2], [D.i .i64 a3], [D.i .i64 a4], [D.i .i64 a5], [D.i .i64 a6]] : Rw).getD ((4 : Int).toNat) [] = [D.i .i64 a4] := id rfl
theorem lA75 (a0 a1 a2 a3 a4 a5 a6 : Int) : (decide ((0 : Int) ≤ (5 : Int)) && decide ((5 : Int) < (([[D.i .i64 a0], [D.i .i64 a1], [D.i .i64 a2], [D.i .i64 a3], [D.i .i64 a4], [D.i .i64 a5], [D.i .i64 a6]] : Rw).length : Int))) = true := id rfl
theorem lB75 (a0 a1 a2 a3 a4 a5 a6 : Int) : ([[D.i .i64 a0], [D.i .i64 a1], [D.i .i64 a2], [D.i .i64 a3], [D.i .i64 a4], [D.i .i64 a5], [D.i .i64 a6]] : Rw).getD ((5 : Int).toNat) [] = [D.i .i64 a5] := id rfl
theorem lA76 (a0 a1 a2 a3 a4 a5 a6 : Int) : (decide ((0 : Int) ≤ (6 : Int)) && decide ((6 : Int) < (([[D.i .i64 a0], [D.i .i64 a1], [D.i .i64 a2], [D.i .i64 a3], [D.i .i64 a4], [D.i .i64 a5], [D.i .i64 a6]] : Rw).length : Int))) = true := id rfl
theorem lB76 (a0 a1 a2 a3 a4 a5 a6 : Int) : ([[D.i .i64 a0], [D.i .i64 a1], [D.i .i64 a2], [D.i .i64 a3], [D.i .i64 a4], [D.i .i64 a5], [D.i .i64 a6]] : Rw).getD ((6 : Int).toNat) [] = [D.i .i64 a6] := id rfl
theorem lA50 (a0 a1 a2 a3 a4 : Int) : (decide ((0 : Int) ≤ (0 : Int)) && decide ((0 : Int) < (([[D.i .i64 a0], [D.i .i64 a1], [D.i .i64 a2], [D.i .i64 a3], [D.i .i64 a4]] : Rw).length : Int))) = true := id rfl
theorem lB50 (a0 a1 a2 a3 a4 : Int) : ([[D.i .i64 a0], [D.i .i64 a1], [D.i .i64 a2], [D.i .i64 a3], [D.i .i64 a4]] : Rw).getD ((0 : Int).toNat) [] = [D.i .i64 a0] := id rfl
theorem lA51 (a0 a1 a2 a3 a4 : Int) : (decide ((0 : Int) ≤ (1 : Int)) && decide ((1 : Int) < (([[D.i .i64 a0], [D.i .i64 a1], [D.i .i64 a2], [D.i .i64 a3], [D.i .i64 a4]] : Rw).length : Int))) = true := id rfl
theorem lB51 (a0 a1 a2 a3 a4 : Int) : ([[D.i .i64 a0], [D.i .i64 a1], [D.i .i64 a2], [D.i .i64 a3], [D.i .i64 a4]] : Rw).getD ((1 : Int).toNat) [] = [D.i .i64 a1] := id rfl
theorem lA52 (a0 a1 a2 a3 a4 : Int) : (decide ((0 : Int) ≤ (2 : Int)) && decide ((2 : Int) < (([[D.i .i64 a0], [D.i .i64 a1], [D.i .i64 a2], [D.i .i64 a3], [D.i .i64 a4]] : Rw).length : Int))) = true := id rfl
theorem lB52 (a0 a1 a2 a3 a4 : Int) : ([[D.i .i64 a0], [D.i .i64 a1], [D.i .i64 a2], [D.i .i64 a3], [D.i .i64 a4]] : Rw).getD ((2 : Int).toNat) [] = [D.i .i64 a2] := id rfl
theorem lA53 (a0 a1 a2 a3 a4 : Int) : (decide ((0 : Int) ≤ (3 : Int)) && decide ((3 : Int) < (([[D.i .i64 a0], [D.i .i64 a1], [D.i .i64 a2], [D.i .i64 a3], [D.i .i64 a4]] : Rw).length : Int))) = true := id rfl
theorem lB53 (a0 a1 a2 a3 a4 : Int) : ([[D.i .i64 a0], [D.i .i64 a1], [D.i .i64 a2], [D.i .i64 a3], [D.i .i64 a4]] : Rw).getD ((3 : Int).toNat) [] = [D.i .i64 a3] := id rfl
theorem lA54 (a0 a1 a2 a3 a4 : Int) : (decide ((0 : Int) ≤ (4 : Int)) && decide ((4 : Int) < (([[D.i .i64 a0], [D.i .i64 a1], [D.i .i64 a2], [D.i .i64 a3], [D.i .i64 a4]] : Rw).length : Int))) = true := id rfl
theorem lB54 (a0 a1 a2 a3 a4 : Int) : ([[D.i .i64 a0], [D.i .i64 a1], [D.i .i64 a2], [D.i .i64 a3], [D.i .i64 a4]] : Rw).getD ((4 : Int).toNat) [] = [D.i .i64 a4] := id rfl
theorem lA30 (a0 a1 a2 : Int) : (decide ((0 : Int) ≤ (0 : Int)) && decide ((0 : Int) < (([[D.i .i64 a0], [D.i .i64 a1], [D.i .i64 a2]] : Rw).length : Int))) = true := id rfl
theorem lB30 (a0 a1 a2 : Int) : ([[D.i .i64 a0], [D.i .i64 a1], [D.i .i64 a2]] : Rw).getD ((0 : Int).toNat) [] = [D.i .i64 a0] := id rfl
theorem lA31 (a0 a1 a2 : Int) : (decide ((0 : Int) ≤ (1 : Int)) && decide ((1 : Int) < (([[D.i .i64 a0], [D.i .i64 a1], [D.i .i64 a2]] : Rw).length : Int))) = true := id rfl
theorem lB31 (a0 a1 a2 : Int) : ([[D.i .i64 a0], [D.i .i64 a1], [D.i .i64 a2]] : Rw).getD ((1 : Int).toNat) [] = [D.i .i64 a1] := id rfl
theorem lA32 (a0 a1 a2 : Int) : (decide ((0 : Int) ≤ (2 : Int)) && decide ((2 : Int) < (([[D.i .i64 a0], [D.i .i64 a1], [D.i .i64 a2]] : Rw).length : Int))) = true := id rfl
theorem lB32 (a0 a1 a2 : Int) : ([[D.i .i64 a0], [D.i .i64 a1], [D.i .i64 a2]] : Rw).getD ((2 : Int).toNat) [] = [D.i .i64 a2] := id rfl
theorem lA20 (a0 a1 : Int) : (decide ((0 : Int) ≤ (0 : Int)) && decide ((0 : Int) < (([[D.i .i64 a0], [D.i .i64 a1]] : Rw).length : Int))) = true := id rfl
theorem lB20 (a0 a1 : Int) : ([[D.i .i64 a0], [D.i .i64 a1]] : Rw).getD ((0 : Int).toNat) [] = [D.i .i64 a0] := id rfl
theorem lA21 (a0 a1 : Int) : (decide ((0 : Int) ≤ (1 : Int)) && decide ((1 : Int) < (([[D.i .i64 a0], [D.i .i64 a1]] : Rw).length : Int))) = true := id rfl
theorem lB21 (a0 a1 : Int) : ([[D.i .i64 a0], [D.i .i64 a1]] : Rw).getD ((1 : Int).toNat) [] = [D.i .i64 a1] := id rfl
theorem lA10 (a0 : Int) : (decide ((0 : Int) ≤ (0 : Int)) && decide ((0 : Int) < (([[D.i .i64 a0]] : Rw).length : Int))) = true := id rfl
theorem lB10 (a0 : Int) : ([[D.i .i64 a0]] : Rw).getD ((0 : Int).toNat) [] = [D.i .i64 a0] := id rfl
theorem vs_w (x y) : okR zr78 zo78 (some ([.one (.l x), .one (.i .i64 y)], [])) = true := id rfl
theorem vs_l (x y) : asL (resC (some ([.one (.l x), .one (.i .i64 y)], [])) 0 0) = x := id rfl
theorem vs_i (x) (y : Int) : asI (resC (some ([.one (.l x), .one (.i .i64 y)], [])) 1 0) = y := id rfl
theorem kmd {s : BA} (hs : s.size ≤ 1048576) (n : Nat) (hn : n < 1000) {o : Option Nat} (hb : inB s o) :
  (posN s n o = none ∧ ∃ L, t78 s (pos o) (n : Int) = some ([.one (.l L), .one (.i .i64 (-1))], [])) ∨
  ∃ q : Nat, posN s n o = some q ∧ q ≤ s.size ∧ t78 s (pos o) (n : Int) = some ([.one (.l ((List.range n).map fun j => [D.i .i64 (valN s j o)])), .one (.i .i64 (q : Int))], []) := by
 have h := kej s (by omega) n hn o hb
 cases e : posN s n o with
 | none =>
  refine .inl ⟨rfl, (kec s n o []).1, ?_⟩
  rw [h, kcj s n o [] e]; rfl
 | some q =>
  refine .inr ⟨q, rfl, kic hb n q e, ?_⟩
  rw [h, kdj s n o [] (by rw [e]; simp), e]; rfl
theorem ta_w (x y) : okR zr77 zo77 (some ([.one (.s x), .one (.i .i64 y)], [])) = true := id rfl
theorem ta_s (x) (y : Int) : asS (resC (some ([.one (.s x), .one (.i .i64 y)], [])) 0 0) = x := id rfl
theorem ta_i (x) (y : Int) : asI (resC (some ([.one (.s x), .one (.i .i64 y)], [])) 1 0) = y := id rfl
theorem kbf {s : BA} (hs : s.size ≤ 1048576) {o : Option Nat} (hb : inB s o) : t77 s (pos o) = some ([.one (.s (kb s o).1), .one (.i .i64 (pos (kb s o).2))], []) := kko s (by omega) o hb
theorem kxb (q : Nat) : decide ((q : Int) < 0) = false := by simp
theorem kkc : decide ((-1 : Int) < 0) = true := id rfl
theorem krf : pos none = -1 := id rfl
theorem kqg {s : BA} {o : Option Nat} {n : Int} (h : ¬ (numA s o).1 > n) : kh s o n = numA s o := by unfold kh; rw [if_neg h]
theorem kzg {s : BA} {o : Option Nat} {n : Int} (h : (numA s o).1 > n) : (kh s o n).2 = none := by unfold kh; rw [if_pos h]
theorem ksd {f : LO → LO} (h : ∀ x, x.2 = none → (f x).2 = none) {k i : Nat} {x : LO} (hi : i < k) (e : (f (itN f i x)).2 = none) : (itN f k x).2 = none := by
 apply Classical.byContradiction
 intro g
 exact kyo h (i + 1) (k - (i + 1)) x (by rw [show i + 1 + (k - (i + 1)) = k by omega]; exact g) e
def ks (s : BA) (x : LO) : LO := (x.1 ++ [[.s (kb s x.2).1, .i .i64 (numA s (kb s x.2).2).1]], (numA s (kb s x.2).2).2)
theorem kld (s : BA) : ∀ x : LO, x.2 = none → (ks s x).2 = none := by
 intro x e; unfold ks; rw [e]; rfl
theorem koe (s : BA) (x : LO) : (ks s x).1.length = x.1.length + 1 := by simp [ks]
def inoA (s : BA) (o : Option Nat) : List D × Option Nat :=
 let d := kb s (posN s 7 o)
 let m := kh s d.2 12
 let t := itN (ks s) m.1.toNat ([], m.2)
 ([.i .i64 (valN s 0 o), .i .i64 (valN s 1 o), .i .i64 (valN s 2 o), .i .i64 (valN s 3 o), .i .i64 (valN s 4 o), .s d.1, .l t.1, .i .i64 (valN s 5 o), .i .i64 (valN s 6 o)], t.2)
def kl (s : BA) (x : LO) : LO := (x.1 ++ [(inoA s x.2).1], (inoA s x.2).2)
theorem kio (s : BA) : (inoA s none).2 = none := by
 simp only [inoA, klf, kre, kve]
 exact kvb (kld s) _ _ rfl
theorem kff (s : BA) : ∀ x : LO, x.2 = none → (kl s x).2 = none := by
 intro x e; unfold kl; rw [e]; exact kio s
theorem kme (s : BA) (x : LO) : (kl s x).1.length = x.1.length + 1 := by simp [kl]
theorem kyf {s : BA} (hs : s.size ≤ 1048576) : ∀ x : LO, OkR kv s x → OkR kv s (ks s x) := by
 intro x h
 have hz := koc s _ h.b
 have hm : 1048576 ≤ maxLen := by decide
 have hn := kwc s _ (kpc s _ h.b)
 refine h.step (knd s _ (kpc s _ h.b)) ⟨_, _, rfl, ⟨_, rfl, by omega⟩, _, _, rfl, ⟨_, rfl, kob _ hn⟩, rfl⟩ ⟨by show (kb s x.2).1.size ≤ 1048576; omega, trivial, trivial⟩
theorem kjp {s : BA} (hs : s.size ≤ 1048576) {o : Option Nat} (h : inB s o) : inB s (inoA s o).2 ∧ typL ke (inoA s o).1 ∧ szdL ke (inoA s o).1 := by
 have h7 := kic h 7
 have hd := kpc s _ h7
 have hm := khd (n := 12) hd
 have hmr := kbc (n := 12) hd (by omega)
 have ht := klc (P := OkR kv s) (kyf hs) (kh s (kb s (posN s 7 o)).2 12).1.toNat _ (OkR.nil hm)
 have hl := kjb (koe s) (kh s (kb s (posN s 7 o)).2 12).1.toNat ([], (kh s (kb s (posN s 7 o)).2 12).2)
 simp only [List.length_nil] at hl
 have hz := koc s _ h7
 have hx : 1048576 ≤ maxLen := by decide
 refine ⟨ht.b, ?_, ?_⟩
 ·exact ⟨_, _, rfl, ⟨_, rfl, kob _ (krb h 0)⟩, _, _, rfl, ⟨_, rfl, kob _ (krb h 1)⟩, _, _, rfl, ⟨_, rfl, kob _ (krb h 2)⟩, _, _, rfl, ⟨_, rfl, kob _ (krb h 3)⟩, _, _, rfl, ⟨_, rfl, kob _ (krb h 4)⟩, _, _, rfl, ⟨_, rfl, by omega⟩, _, _, rfl, ⟨_, rfl, by omega, fun r hr => (ht.t r hr).1⟩, _, _, rfl, ⟨_, rfl, kob _ (krb h 5)⟩, _, _, rfl, ⟨_, rfl, kob _ (krb h 6)⟩, rfl⟩
 ·exact ⟨trivial, trivial, trivial, trivial, trivial, by show (kb s (posN s 7 o)).1.size ≤ 1048576; omega, ⟨by show (itN (ks s) _ _).1.length ≤ 1048576; omega, fun r hr => (ht.t r hr).2⟩, trivial, trivial, trivial⟩
theorem kxf {s : BA} (hs : s.size ≤ 1048576) : ∀ x : LO, OkR ke s x → OkR ke s (kl s x) := by
 intro x h
 obtain ⟨a, b, c⟩ := kjp hs h.b
 exact h.step a b c
theorem kqo {s : BA} {o : Option Nat} (h : inB s o) (q : Nat) (e : (numA s (kb s o).2).2 = some q) : ∃ p, o = some p ∧ p ≤ q ∧ q ≤ s.size ∧ s.extract p q = dirS [.s (kb s o).1, .i .i64 (numA s (kb s o).2).1] := by
 obtain ⟨p1, e1, a1, b1, c1⟩ := kjd s _ (kpc s _ h) q e
 obtain ⟨p, e0, a0, b0, c0⟩ := kzc s _ h p1 e1
 exact ⟨p, e0, by omega, b1, kbb c0 c1 (by omega) (by omega) b1⟩
theorem kij {s : BA} (hs : s.size ≤ 1048576) {o : Option Nat} (h : inB s o) : ∀ k, kad dirS s o (itN (ks s) k ([], o))
 | 0 => kad.nil h
 | k + 1 => (kij hs h k).step (kqo (klc (P := OkR kv s) (kyf hs) k _ (OkR.nil h)).b)
theorem krn {s : BA} (hs : s.size ≤ 1048576) {o : Option Nat} (h : inB s o) (q : Nat) (e : (inoA s o).2 = some q) : ∃ p, o = some p ∧ p ≤ q ∧ q ≤ s.size ∧ s.extract p q = inoS (inoA s o).1 := by
 have h7 := kic h 7
 have hd := kpc s _ h7
 have hm := khd (n := 12) hd
 have hmr := kbc (n := 12) hd (by omega)
 obtain ⟨p9, e9, a9, b9, c9⟩ := kij hs hm (kh s (kb s (posN s 7 o)).2 12).1.toNat q e
 obtain ⟨p8, e8, a8, b8, c8⟩ := kgf hd e9
 obtain ⟨p7, e7, a7, b7, c7⟩ := kzc s _ h7 p8 e8
 obtain ⟨p6, e6, a6, b6, c6⟩ := kmb h 6 e7
 obtain ⟨p5, e5, a5, b5, c5⟩ := kmb h 5 e6
 obtain ⟨p4, e4, a4, b4, c4⟩ := kmb h 4 e5
 obtain ⟨p3, e3, a3, b3, c3⟩ := kmb h 3 e4
 obtain ⟨p2, e2, a2, b2, c2⟩ := kmb h 2 e3
 obtain ⟨p1, e1, a1, b1, c1⟩ := kmb h 1 e2
 obtain ⟨p0, e0, a0, b0, c0⟩ := kmb h 0 e1
 have hl := kjb (koe s) (kh s (kb s (posN s 7 o)).2 12).1.toNat ([], (kh s (kb s (posN s 7 o)).2 12).2)
 simp only [List.length_nil] at hl
 have hlen : (((itN (ks s) (kh s (kb s (posN s 7 o)).2 12).1.toNat ([], (kh s (kb s (posN s 7 o)).2 12).2)).1.length : Nat) : Int) = (kh s (kb s (posN s 7 o)).2 12).1 := by omega
 refine ⟨p0, e0, by omega, b9, ?_⟩
 have c9' : s.extract p9 q = catL dirS (itN (ks s) (kh s (kb s (posN s 7 o)).2 12).1.toNat ([], (kh s (kb s (posN s 7 o)).2 12).2)).1 := c9
 rw [← hlen] at c8
 rw [kbb c0 (kbb c1 (kbb c2 (kbb c3 (kbb c4 (kbb c5 (kbb c6 (kbb c7 (kbb c8 c9' (by omega) (by omega) b9) (by omega) (by omega) b9) (by omega) (by omega) b9) (by omega) (by omega) b9) (by omega) (by omega) b9) (by omega) (by omega) b9) (by omega) (by omega) b9) (by omega) (by omega) b9) (by omega) (by omega) b9]
 rfl
theorem knj {s : BA} (hs : s.size ≤ 1048576) {o : Option Nat} (h : inB s o) : ∀ k, kad inoS s o (itN (kl s) k ([], o))
 | 0 => kad.nil h
 | k + 1 => (knj hs h k).step (krn hs (klc (P := OkR ke s) (kxf hs) k _ (OkR.nil h)).b)
def volA (s : BA) (o : Option Nat) : (Int × Rw) × Option Nat :=
 let m := kh s (numA s o).2 24
 let t := itN (kl s) m.1.toNat ([], m.2)
 (((numA s o).1, t.1), t.2)
theorem kvg {s : BA} (hs : s.size ≤ 1048576) {o : Option Nat} (h : inB s o) : inB s (volA s o).2 ∧ (volA s o).1.2.length ≤ 24 ∧ (∀ r ∈ (volA s o).1.2, typL ke r) ∧ (∀ r ∈ (volA s o).1.2, szdL ke r) := by
 have h1 := knd s o h
 have hm := khd (n := 24) h1
 have hmr := kbc (n := 24) h1 (by omega)
 have ht := klc (P := OkR ke s) (kxf hs) (kh s (numA s o).2 24).1.toNat _ (OkR.nil hm)
 have hl := kjb (kme s) (kh s (numA s o).2 24).1.toNat ([], (kh s (numA s o).2 24).2)
 simp only [List.length_nil] at hl
 exact ⟨ht.b, by show (itN (kl s) _ _).1.length ≤ 24; omega, fun r hr => (ht.t r hr).1, fun r hr => (ht.t r hr).2⟩
theorem kbl {s : BA} (hs : s.size ≤ 1048576) {o : Option Nat} (h : inB s o) (q : Nat) (e : (volA s o).2 = some q) : ∃ p, o = some p ∧ p ≤ q ∧ q ≤ s.size ∧ s.extract p q = volT (volA s o).1.1 (volA s o).1.2 := by
 have h1 := knd s o h
 have hm := khd (n := 24) h1
 have hmr := kbc (n := 24) h1 (by omega)
 obtain ⟨p2, e2, a2, b2, c2⟩ := knj hs hm (kh s (numA s o).2 24).1.toNat q e
 obtain ⟨p1, e1, a1, b1, c1⟩ := kgf h1 e2
 obtain ⟨p0, e0, a0, b0, c0⟩ := kjd s _ h p1 e1
 have hl := kjb (kme s) (kh s (numA s o).2 24).1.toNat ([], (kh s (numA s o).2 24).2)
 simp only [List.length_nil] at hl
 have hlen : (((itN (kl s) (kh s (numA s o).2 24).1.toNat ([], (kh s (numA s o).2 24).2)).1.length : Nat) : Int) = (kh s (numA s o).2 24).1 := by omega
 refine ⟨p0, e0, by omega, b2, ?_⟩
 rw [← hlen] at c1
 have c2' : s.extract p2 q = catL inoS (itN (kl s) (kh s (numA s o).2 24).1.toNat ([], (kh s (numA s o).2 24).2)).1 := c2
 rw [kbb c0 (kbb c1 c2' (by omega) (by omega) b2) (by omega) (by omega) b2]
 rfl
def kx (s : BA) (x : LO) : LO := (x.1 ++ [[.i .i64 (valN s 0 x.2), .i .i64 (valN s 1 x.2), .i .i64 (valN s 2 x.2), .i .i64 (valN s 3 x.2), .i .i64 (valN s 4 x.2)]], posN s 5 x.2)
def kq (s : BA) (x : LO) : LO :=
 (x.1 ++ [[.i .i64 (valN s 0 x.2), .i .i64 (valN s 1 x.2), .i .i64 (valN s 2 x.2), .i .i64 (rdR (kb s (posN s 3 x.2)).1).2.1, .s (rdR (kb s (posN s 3 x.2)).1).2.2]], if (rdR (kb s (posN s 3 x.2)).1).1 then (kb s (posN s 3 x.2)).2 else none)
theorem kce (s : BA) : ∀ x : LO, x.2 = none → (kx s x).2 = none := by
 intro x e; unfold kx; rw [e]; rfl
theorem khc (s : BA) : ∀ x : LO, x.2 = none → (kq s x).2 = none := by
 intro x e; unfold kq; rw [e]; simp only [klf, kre]; split <;> rfl
theorem kqe (s : BA) (x : LO) : (kx s x).1.length = x.1.length + 1 := by simp [kx]
theorem kpe (s : BA) (x : LO) : (kq s x).1.length = x.1.length + 1 := by simp [kq]
def ntsA (s : BA) (o : Option Nat) : LO := itN (kx s) (kh s (numA s o).2 20).1.toNat ([], (kh s (numA s o).2 20).2)
def sssA (s : BA) (o : Option Nat) : LO := itN (kq s) (kh s (ntsA s o).2 3).1.toNat ([], (kh s (ntsA s o).2 3).2)
theorem gz66 : ∀ a c, flatR 2 [[D.s a, D.i .i64 c]] = true := fun _ _ => id rfl
theorem ksn {s : BA} (k : Nat) (hk : k ≤ 1000) {o : Option Nat} {r : BA} {b : Bool} (h : St s o r b) (n0 n1 : Int) (b0 : Bool) (n2 n3 n4 n5 n6 n7 n8 : Int) (s0 : BA) (n9 n10 : Int) (l0 : Rw) (q1 : Int → Bool → BA → Bool → Rw → Rs) (v : SV) :
  ∃ a c r' b', la115o2 t82 t116 t117 n0 n1 b0 (k : Int) n2 n3 n4 n5 n6 n7 n8 s0 n9 n10 l0 q1 KK 0 v r b [] = q1 a c r' b' (itN (ks s) k ([], o)).1 ∧ St s (itN (ks s) k ([], o)).2 r' b' := by
 refine kgb (α := BA × Bool × Rw) (σ := SV) (fun m i x v => la115o2 t82 t116 t117 n0 n1 b0 (k : Int) n2 n3 n4 n5 n6 n7 n8 s0 n9 n10 l0 q1 m (i : Int) v x.1 x.2.1 x.2.2) k (fun i x => x.2.2 = (itN (ks s) i ([], o)).1 ∧ St s (itN (ks s) i ([], o)).2 x.1 x.2.1) (fun y => ∃ a c r' b', y = q1 a c r' b' (itN (ks s) k ([], o)).1 ∧ St s (itN (ks s) k ([], o)).2 r' b')
  ?_ ?_ k 0 KK (r, b, []) v (by omega) (by rw [kj]; omega) ⟨rfl, h⟩
 ·intro m x v hp
  simp only [la115o2, kp, bft, if_false, hp.1]
  exact ⟨_, _, _, _, rfl, hp.2⟩
 ·intro i m x v hi hp
  left
  obtain ⟨r1, b1, e1, h1⟩ := kid s _ _ _ hp.2
  obtain ⟨r2, b2, e2, h2⟩ := keb s _ _ _ h1
  have hl := kjb (koe s) i ([], o)
  have hl : x.2.2.length = i := by rw [hp.1, hl]; simp
  simp only [la115o2, kk hi, e1, e2, kyg, kuf, fo1, fo2, fi, fs, gz66, kcd, hl, lim1 (show i ≤ 1000 by omega), bat, ka, if_true, kc i (by omega)]
  exact ⟨(r2, b2, _), _, rfl, by rw [hp.1]; rfl, h2⟩
theorem kmn {s : BA} (k : Nat) (hk : k ≤ 1000) {o : Option Nat} {r : BA} {b : Bool} (h : St s o r b) (n0 n1 : Int) (q1 : Int → Bool → SV → SV → SV → BA → Bool → Rw → Rs) (v : SV × SV × SV × SV) :
  ∃ a c d e f r' b', la115o0 t82 t116 t117 (k : Int) n0 n1 q1 KK 0 v.1 v.2.1 v.2.2.1 v.2.2.2 r b [] = q1 a c d e f r' b' (itN (kl s) k ([], o)).1 ∧ St s (itN (kl s) k ([], o)).2 r' b' := by
 refine kgb (α := BA × Bool × Rw) (σ := SV × SV × SV × SV) (fun m i x v => la115o0 t82 t116 t117 (k : Int) n0 n1 q1 m (i : Int) v.1 v.2.1 v.2.2.1 v.2.2.2 x.1 x.2.1 x.2.2) k (fun i x => x.2.2 = (itN (kl s) i ([], o)).1 ∧ St s (itN (kl s) i ([], o)).2 x.1 x.2.1) (fun y => ∃ a c d e f r' b', y = q1 a c d e f r' b' (itN (kl s) k ([], o)).1 ∧ St s (itN (kl s) k ([], o)).2 r' b')
  ?_ ?_ k 0 KK (r, b, []) v (by omega) (by rw [kj]; omega) ⟨rfl, h⟩
 ·intro m x v hp
  simp only [la115o0, kp, bft, if_false, hp.1]
  exact ⟨_, _, _, _, _, _, _, rfl, hp.2⟩
 ·intro i m x v hi hp
  left
  have hB := kcf hp.2
  obtain ⟨r1, b1, e1, h1⟩ := keb s _ _ _ hp.2
  obtain ⟨r2, b2, e2, h2⟩ := keb s _ _ _ h1
  obtain ⟨r3, b3, e3, h3⟩ := keb s _ _ _ h2
  obtain ⟨r4, b4, e4, h4⟩ := keb s _ _ _ h3
  obtain ⟨r5, b5, e5, h5⟩ := keb s _ _ _ h4
  obtain ⟨r6, b6, e6, h6⟩ := keb s _ _ _ h5
  obtain ⟨r7, b7, e7, h7⟩ := keb s _ _ _ h6
  obtain ⟨r8, b8, e8, h8⟩ := kid s _ _ _ h7
  obtain ⟨r9, b9, e9, h9⟩ := kkf s _ _ _ 12 h8
  have hl := kjb (kme s) i ([], o)
  have hl : x.2.2.length = i := by rw [hp.1, hl]; simp
  have hm := kbc (n := 12) (kcf h8) (by omega)
  have hn : ((kh s (kb s (posN s 7 (itN (kl s) i ([], o)).2)).2 12).1.toNat : Int) = (kh s (kb s (posN s 7 (itN (kl s) i ([], o)).2)).2 12).1 := Int.toNat_of_nonneg hm.1
  have hm2 : (kh s (kb s (posN s 7 (itN (kl s) i ([], o)).2)).2 12).1 ≤ 12 := hm.2
  simp only [la115o0, kk hi, e1, e2, e3, e4, e5, e6, e7, e8, e9, kyg, kuf, kyh, fo1, fo2, fi, fs, hl, kcd, lim1 (show i ≤ 1000 by omega), bat, ka, if_true, kc i (by omega)]
  obtain ⟨a, c, r', b', e, hS⟩ := ksn (s := s) (kh s (kb s (posN s 7 (itN (kl s) i ([], o)).2)).2 12).1.toNat (by omega) h9 (k : Int) (i : Int) true n0 n1 _ _ _ _ _ _ _ _ x.2.2 (fun n2 b0 s0 b10 l0 => la115o0 t82 t116 t117 (k : Int) n0 n1 q1 m ((i + 1 : Nat) : Int) (.d (.b true)) (.d (.i .i64 (kh s (kb s (posN s 7 (itN (kl s) i ([], o)).2)).2 12).1)) (.d (.i .i64 n2)) (.d (.b b0)) s0 b10 (x.2.2 ++ [[.i .i64 (valN s 0 (itN (kl s) i ([], o)).2), .i .i64 (valN s 1 (itN (kl s) i ([], o)).2), .i .i64 (valN s 2 (itN (kl s) i ([], o)).2), .i .i64 (valN s 3 (itN (kl s) i ([], o)).2), .i .i64 (valN s 4 (itN (kl s) i ([], o)).2), .s (kb s (posN s 7 (itN (kl s) i ([], o)).2)).1, .l l0, .i .i64 (valN s 5 (itN (kl s) i ([], o)).2), .i .i64 (valN s 6 (itN (kl s) i ([], o)).2)]])) v.2.2.2
  rw [hn] at e
  exact ⟨(r', b', _), (_, _, _, _), e, by rw [hp.1]; rfl, hS⟩
theorem kmo (s : BA) (o : Option Nat) (r : BA) (b : Bool) (h : St s o r b) : ∃ r' b', t115 r b = some ([.agg [.i .i64 (volA s o).1.1, .l (volA s o).1.2]], [[.s r', .b b']]) ∧ St s (volA s o).2 r' b' := by
 obtain ⟨r1, b1, e1, h1⟩ := keb s _ _ _ h
 obtain ⟨r2, b2, e2, h2⟩ := kkf s _ _ _ 24 h1
 have hm := kbc (n := 24) (kcf h1) (by omega)
 have hn : ((kh s (numA s o).2 24).1.toNat : Int) = (kh s (numA s o).2 24).1 := Int.toNat_of_nonneg hm.1
 simp only [t115, ta115, e1, e2, kuf, kyh, fo1, fo2, fi, ka]
 obtain ⟨_, _, _, _, _, r', b', e, hS⟩ := kmn (s := s) (kh s (numA s o).2 24).1.toNat (by omega) h2 0 (numA s o).1 (fun (n0 : Int) (b3 : Bool) (v0 : SV) (v1 : SV) (v2 : SV) (s0 : BA) (b0 : Bool) (l0 : Rw) => some ([.agg [.i .i64 (numA s o).1, .l l0]], [[.s s0, .b b0]])) (SV.undef, SV.undef, SV.undef, SV.undef)
 rw [hn] at e
 exact ⟨r', b', e, hS⟩
theorem gz67 : ∀ a c d e f, flatR 5 [[D.i .i64 a, D.i .i64 c, D.i .i64 d, D.i .i64 e, D.i .i64 f]] = true := fun _ _ _ _ _ => id rfl
theorem klo {s : BA} (k : Nat) (hk : k ≤ 1000) {o : Option Nat} {r : BA} {b : Bool} (h : St s o r b) (n0 n1 n2 n3 : Int) (s0 : BA) (b0 : Bool) (l0 : Rw) (q1 : Int → Bool → BA → Bool → Rw → Rs) (v : SV) :
  ∃ a c r' b', la81o0 t82 t115 t116 t117 t118 (k : Int) n0 n1 n2 n3 s0 b0 l0 q1 KK 0 v r b [] = q1 a c r' b' (itN (kx s) k ([], o)).1 ∧ St s (itN (kx s) k ([], o)).2 r' b' := by
 refine kgb (α := BA × Bool × Rw) (σ := SV) (fun m i x v => la81o0 t82 t115 t116 t117 t118 (k : Int) n0 n1 n2 n3 s0 b0 l0 q1 m (i : Int) v x.1 x.2.1 x.2.2) k (fun i x => x.2.2 = (itN (kx s) i ([], o)).1 ∧ St s (itN (kx s) i ([], o)).2 x.1 x.2.1) (fun y => ∃ a c r' b', y = q1 a c r' b' (itN (kx s) k ([], o)).1 ∧ St s (itN (kx s) k ([], o)).2 r' b')
  ?_ ?_ k 0 KK (r, b, []) v (by omega) (by rw [kj]; omega) ⟨rfl, h⟩
 ·intro m x v hp
  simp only [la81o0, kp, bft, if_false, hp.1]
  exact ⟨_, _, _, _, rfl, hp.2⟩
 ·intro i m x v hi hp
  left
  obtain ⟨r1, b1, e1, h1⟩ := keb s _ _ _ hp.2
  obtain ⟨r2, b2, e2, h2⟩ := keb s _ _ _ h1
  obtain ⟨r3, b3, e3, h3⟩ := keb s _ _ _ h2
  obtain ⟨r4, b4, e4, h4⟩ := keb s _ _ _ h3
  obtain ⟨r5, b5, e5, h5⟩ := keb s _ _ _ h4
  have hl := kjb (kqe s) i ([], o)
  have hl : x.2.2.length = i := by rw [hp.1, hl]; simp
  simp only [la81o0, kk hi, e1, e2, e3, e4, e5, kuf, fo1, fo2, fi, gz67, kcd, hl, lim1 (show i ≤ 1000 by omega), bat, ka, if_true, kc i (by omega)]
  exact ⟨(r5, b5, _), _, rfl, by rw [hp.1]; rfl, h5⟩
theorem gz68 : ∀ a c d e f, flatR 5 [[D.i .i64 a, D.i .i64 c, D.i .i64 d, D.i .i64 e, D.s f]] = true := fun _ _ _ _ _ => id rfl
theorem gz69 : ∀ a c d, okR zr118 zo118 (some ([.agg [.i .i64 a, .s c], .one (.b d)], [])) = true := fun _ _ _ => id rfl
theorem gz70 : ∀ a c d, asI (resC (some ([.agg [.i .i64 a, .s c], .one (.b d)], [])) 0 0) = a := fun _ _ _ => id rfl
theorem gz71 : ∀ a c d, asS (resC (some ([.agg [.i .i64 a, .s c], .one (.b d)], [])) 0 1) = c := fun _ _ _ => id rfl
theorem gz72 : ∀ a c d, asB (resC (some ([.agg [.i .i64 a, .s c], .one (.b d)], [])) 1 0) = d := fun _ _ _ => id rfl
theorem kco {s : BA} (k : Nat) (hk : k ≤ 1000) {o : Option Nat} {r : BA} {b : Bool} (h : St s o r b) (n0 n1 : Int) (b0 : Bool) (n2 n3 n4 n5 : Int) (s0 : BA) (b5 : Bool) (l0 l1 : Rw) (q1 : SV → Int → Bool → BA → Bool → Rw → Rs) (v w : SV) :
  ∃ a c d r' b', la81o2 t82 t115 t116 t117 t118 n0 n1 b0 (k : Int) n2 n3 n4 n5 s0 b5 l0 l1 q1 KK v 0 w r b [] = q1 a c d r' b' (itN (kq s) k ([], o)).1 ∧ St s (itN (kq s) k ([], o)).2 r' b' := by
 refine kgb (α := BA × Bool × Rw) (σ := SV × SV) (fun m i x v => la81o2 t82 t115 t116 t117 t118 n0 n1 b0 (k : Int) n2 n3 n4 n5 s0 b5 l0 l1 q1 m v.1 (i : Int) v.2 x.1 x.2.1 x.2.2) k (fun i x => x.2.2 = (itN (kq s) i ([], o)).1 ∧ St s (itN (kq s) i ([], o)).2 x.1 x.2.1) (fun y => ∃ a c d r' b', y = q1 a c d r' b' (itN (kq s) k ([], o)).1 ∧ St s (itN (kq s) k ([], o)).2 r' b')
  ?_ ?_ k 0 KK (r, b, []) (v, w) (by omega) (by rw [kj]; omega) ⟨rfl, h⟩
 ·intro m x v hp
  simp only [la81o2, kp, bft, if_false, hp.1]
  exact ⟨_, _, _, _, _, rfl, hp.2⟩
 ·intro i m x v hi hp
  left
  obtain ⟨r1, b1, e1, h1⟩ := keb s _ _ _ hp.2
  obtain ⟨r2, b2, e2, h2⟩ := keb s _ _ _ h1
  obtain ⟨r3, b3, e3, h3⟩ := keb s _ _ _ h2
  obtain ⟨r4, b4, e4, h4⟩ := kid s _ _ _ h3
  have hl := kjb (kpe s) i ([], o)
  have hl : x.2.2.length = i := by rw [hp.1, hl]; simp
  simp only [la81o2, kk hi, e1, e2, e3, e4, kgk, gz69, gz70, gz71, gz72, kuf, kyg, fo1, fo2, fi, fs, gz68, kcd, hl, lim1 (show i ≤ 1000 by omega), bat, ka, if_true, kc i (by omega)]
  refine ⟨(r4, b4 || !(rdR (kb s (posN s 3 (itN (kq s) i ([], o)).2)).1).1, _), (_, _), rfl, by rw [hp.1]; rfl, ?_⟩
  show St s (if (rdR (kb s (posN s 3 (itN (kq s) i ([], o)).2)).1).1 = true then (kb s (posN s 3 (itN (kq s) i ([], o)).2)).2 else none) r4 (b4 || !(rdR (kb s (posN s 3 (itN (kq s) i ([], o)).2)).1).1)
  cases (rdR (kb s (posN s 3 (itN (kq s) i ([], o)).2)).1).1
  ·simp only [bft, if_false, bnf, bot]; rfl
  ·simp only [if_true, bnt, Bool.or_false]; exact h4
noncomputable def tP (s : BA) : BA := (kb s oz).1
noncomputable def tV (s : BA) := volA (tP s) oz
noncomputable def tG (s : BA) : Bool := decide ((tV s).2 = some (tP s).size)
noncomputable def tO (s : BA) : Option Nat := if tG s then (kb s oz).2 else none
theorem gz73 : ∀ a c x y, okR zr115 zo115 (some ([.agg [.i .i64 a, .l c]], [[.s x, .b y]])) = true := fun _ _ _ _ => id rfl
theorem gz74 : ∀ a c y, asI (resC (some ([.agg [.i .i64 a, .l c]], y)) 0 0) = a := fun _ _ _ => id rfl
theorem gz75 : ∀ a c y, asL (resC (some ([.agg [.i .i64 a, .l c]], y)) 0 1) = c := fun _ _ _ => id rfl
theorem gz76 : ∀ x y z, asS (outC (some ([.agg x], [[.s y, .b z]])) 0 0) = y := fun _ _ _ => id rfl
theorem gz77 : ∀ x y z, asB (outC (some ([.agg x], [[.s y, .b z]])) 0 1) = z := fun _ _ _ => id rfl
theorem kno (s : BA) : ∃ r' b', t81 s false = some ([.agg [.i .i64 (tV s).1.1, .l (tV s).1.2, .i .i64 (numA s (tO s)).1, .l (ntsA s (tO s)).1, .l (sssA s (tO s)).1]], [[.s r', .b b']]) ∧ St s (sssA s (tO s)).2 r' b' := by
  have h0 := kan s
  obtain ⟨r1, b1, e1, h1⟩ := kid s _ _ _ h0
  have hp := kan (tP s)
  obtain ⟨rv, bv, ev, hv⟩ := kmo (tP s) _ _ _ hp
  have hv' := ksm hv
  have h2 : St s (tO s) r1 ((b1 || bv) || !(rv.toList == (⟨#[]⟩ : BA).toList)) := by
    rw [Bool.or_assoc, hv']
    show St s (if tG s then (kb s oz).2 else none) r1 (b1 || !tG s)
    cases tG s
    · simp only [bft, if_false, bnf, bot]; rfl
    · simp only [if_true, bnt, Bool.or_false]; exact h1
  obtain ⟨r3, b3, e3, h3⟩ := keb s _ _ _ h2
  obtain ⟨r4, b4, e4, h4⟩ := kkf s _ _ _ 20 h3
  have hm := kbc (n := 20) (kcf h3) (by omega)
  have hn : ((kh s (numA s (tO s)).2 20).1.toNat : Int) = (kh s (numA s (tO s)).2 20).1 := Int.toNat_of_nonneg hm.1
  have ev : t115 (kb s oz).1 false = some ([.agg [.i .i64 (tV s).1.1, .l (tV s).1.2]], [[.s rv, .b bv]]) := ev
  simp only [t81, ta81, e1, ev, e3, e4, gz73, gz74, gz75, gz76, gz77, kyg, kuf, kyh, fo1, fo2, fi, fs, ka]
  obtain ⟨a, c, r5, b5, e5, h5⟩ := klo (s := s) (kh s (numA s (tO s)).2 20).1.toNat (by omega) h4 0 0 (tV s).1.1 (numA s (tO s)).1 rv bv (tV s).1.2 (fun (n0 : Int) (b8 : Bool) (s0 : BA) (b0 : Bool) (l1 : Rw) =>
    chk (okR zr117 zo117 (t117 s0 b0 (3 : Int))) <|
    la81o2 t82 t115 t116 t117 t118 (kh s (numA s (tO s)).2 20).1 n0 b8 (asI (resC (t117 s0 b0 (3 : Int)) 0 0)) (0 : Int) (0 : Int) (tV s).1.1 (numA s (tO s)).1 rv bv (tV s).1.2 l1
     (fun (v0 : SV) (n1 : Int) (b9 : Bool) (s1 : BA) (b2 : Bool) (l0 : Rw) =>
      some ([.agg [.i .i64 (tV s).1.1, .l (tV s).1.2, .i .i64 (numA s (tO s)).1, .l l1, .l l0]], [[.s s1, .b b2]])) KK SV.undef (0 : Int) SV.undef (asS (outC (t117 s0 b0 (3 : Int)) 0 0)) (asB (outC (t117 s0 b0 (3 : Int)) 0 1)) ([] : Rw)) SV.undef
  rw [hn] at e5
  obtain ⟨r6, b6, e6, h6⟩ := kkf s _ _ _ 3 h5
  have hm2 := kbc (n := 3) (kcf h5) (by omega)
  have hn2 : ((kh s (ntsA s (tO s)).2 3).1.toNat : Int) = (kh s (ntsA s (tO s)).2 3).1 := Int.toNat_of_nonneg hm2.1
  have hm3 : (kh s (ntsA s (tO s)).2 3).1 ≤ 3 := hm2.2
  obtain ⟨_, _, _, r7, b7, e7, h7⟩ := kco (s := s) (kh s (ntsA s (tO s)).2 3).1.toNat (by omega) h6 (kh s (numA s (tO s)).2 20).1 a c 0 0 (tV s).1.1 (numA s (tO s)).1 rv bv (tV s).1.2 (ntsA s (tO s)).1 (fun (v0 : SV) (n1 : Int) (b9 : Bool) (s1 : BA) (b2 : Bool) (l0 : Rw) =>
      some ([.agg [.i .i64 (tV s).1.1, .l (tV s).1.2, .i .i64 (numA s (tO s)).1, .l (ntsA s (tO s)).1, .l l0]], [[.s s1, .b b2]])) SV.undef SV.undef
  rw [hn2] at e7
  refine ⟨r7, b7, Eq.trans e5 ?_, h7⟩
  simp only [e6, kyh, fi, fo1, fo2, ka]
  exact e7
theorem kao {s : BA} (hs : s.size ≤ 1048576) (k : Nat) (hk : k ≤ 1000) (p0 : Nat) (hp0 : p0 ≤ s.size) (n0 n1 : Int) (s0 : BA) (b0 b1 b2 : Bool) (n2 n3 n4 n5 n6 : Int) (s1 : BA) (n7 n8 n9 n53 n54 n55 n56 : Int) (s2 : BA) (n58 n59 : Int) (l0 : Rw) (q1 : Int → Int → BA → Int → Bool → Bool → Rw → Rw → Rs) (q2 : Int → Int → SV → SV → Bool → SV → Rw → Rs) (E : Rw → Rs) (F : Int → Rw → Rs) (h1 : ∀ a b c d e f g l, q1 a b c d e f g l = E l) (h2 : ∀ a b c d e f l, q2 a b c d e f l = F a l) (v : SV × SV × SV × SV) :
  ((itN (ks s) k ([], some p0)).2 = none ∧ ∃ L, la114o3 t77 t78 s n0 n1 s0 b0 b1 b2 n2 n3 n4 n5 n6 s1 n7 n8 n9 n53 n54 n55 n56 s2 n58 n59 l0 [[.i .i64 (k : Int)]] q1 q2 KK (p0 : Int) 0 v.1 v.2.1 v.2.2.1 v.2.2.2 [] = E L) ∨
  ∃ q : Nat, (itN (ks s) k ([], some p0)).2 = some q ∧ la114o3 t77 t78 s n0 n1 s0 b0 b1 b2 n2 n3 n4 n5 n6 s1 n7 n8 n9 n53 n54 n55 n56 s2 n58 n59 l0 [[.i .i64 (k : Int)]] q1 q2 KK (p0 : Int) 0 v.1 v.2.1 v.2.2.1 v.2.2.2 [] = F (q : Int) (itN (ks s) k ([], some p0)).1 := by
 have hB0 : inB s (some p0) := by intro x hx; cases hx; exact hp0
 refine kgb (α := Nat × Rw) (σ := SV × SV × SV × SV) (fun m i x v => la114o3 t77 t78 s n0 n1 s0 b0 b1 b2 n2 n3 n4 n5 n6 s1 n7 n8 n9 n53 n54 n55 n56 s2 n58 n59 l0 [[.i .i64 (k : Int)]] q1 q2 m (x.1 : Int) (i : Int) v.1 v.2.1 v.2.2.1 v.2.2.2 x.2) k (fun i x => itN (ks s) i ([], some p0) = (x.2, some x.1)) (fun y => ((itN (ks s) k ([], some p0)).2 = none ∧ ∃ L, y = E L) ∨ ∃ q : Nat, (itN (ks s) k ([], some p0)).2 = some q ∧ y = F (q : Int) (itN (ks s) k ([], some p0)).1)
  ?_ ?_ k 0 KK (p0, []) v (by omega) (by rw [kj]; omega) rfl
 ·intro m x v hp
  right
  refine ⟨x.1, by rw [hp], ?_⟩
  simp only [la114o3, lA10, lB10, isI, asI1, kp, ka, bft, if_false, h2, hp]
 ·intro i m x v hi hp
  have hB := (klc (P := OkR kv s) (kyf hs) i _ (OkR.nil hB0)).b
  rw [hp] at hB
  have hl := kjb (koe s) i ([], some p0)
  rw [hp] at hl
  have hl : x.2.length = i := by simpa using hl
  have ht := kbf hs hB
  rw [ked] at ht
  have hst : ks s (itN (ks s) i ([], some p0)) = (x.2 ++ [[.s (kb s (some x.1)).1, .i .i64 (numA s (kb s (some x.1)).2).1]], (numA s (kb s (some x.1)).2).2) := by rw [hp]; rfl
  rcases kmd hs 1 (by omega) (kpc s _ hB) with ⟨e, L, hv⟩ | ⟨q, e, _, hv⟩
  ·right; left
   have hv : t78 s (pos (kb s (some x.1)).2) 1 = _ := hv
   refine ⟨ksd (kld s) hi (by rw [hst]; exact e), x.2, ?_⟩
   simp only [la114o3, lA10, lB10, isI, asI1, kk hi, ht, ta_w, ta_i, hv, vs_w, vs_i, kkc, ka, if_true, h1]
  ·left
   have hv : t78 s (pos (kb s (some x.1)).2) 1 = some ([.one (.l [[D.i .i64 (numA s (kb s (some x.1)).2).1]]), .one (.i .i64 (q : Int))], []) := hv
   simp only [la114o3, lA10, lB10, isI, asI1, kk hi, ht, ta_w, ta_i, ta_s, hv, vs_w, vs_l, vs_i, kxb, gz66, kcd, hl, lim1 (show i ≤ 1000 by omega), bat, ka, if_true, bft, if_false, kc i (by omega)]
   refine ⟨(q, _), (_, _, _, _), rfl, ?_⟩
   show ks s (itN (ks s) i ([], some p0)) = _
   rw [hst]
   exact congrArg (Prod.mk _) e
theorem ktk {s : BA} {o : Option Nat} (h : (kb s (posN s 7 o)).2 = none) : (inoA s o).2 = none := by
 simp only [inoA, h, kve]
 exact kvb (kld s) _ _ rfl
theorem kto {s : BA} (hs : s.size ≤ 1048576) {o : Option Nat} (hB : inB s o) :
  ((inoA s o).2 = none ∧ ∃ (a b c d e : Int) (f : BA) (g : Rw) (h i : Int), t114 s (pos o) = some ([.agg [.i .i64 a, .i .i64 b, .i .i64 c, .i .i64 d, .i .i64 e, .s f, .l g, .i .i64 h, .i .i64 i], .one (.i .i64 (-1))], [])) ∨
  ∃ q : Nat, (inoA s o).2 = some q ∧ t114 s (pos o) = some ([.agg (inoA s o).1, .one (.i .i64 (q : Int))], []) := by
 have hB7 := kic hB 7
 rcases kmd hs 7 (by omega) hB with ⟨e, L, hv⟩ | ⟨q7, e, _, hv⟩
 ·left
  have hv : t78 s (pos o) 7 = _ := hv
  refine ⟨ktk (by rw [e]; rfl), ?_⟩
  simp only [t114, ta114, hv, vs_w, vs_i, kkc, ka, if_true]
  exact ⟨_, _, _, _, _, _, _, _, _, rfl⟩
 have hv : t78 s (pos o) 7 = some ([.one (.l [[D.i .i64 (valN s 0 o)], [D.i .i64 (valN s 1 o)], [D.i .i64 (valN s 2 o)], [D.i .i64 (valN s 3 o)], [D.i .i64 (valN s 4 o)], [D.i .i64 (valN s 5 o)], [D.i .i64 (valN s 6 o)]]), .one (.i .i64 (q7 : Int))], []) := hv
 have ht := kbf hs hB7
 rw [e, ked] at ht
 rw [e] at hB7
 cases e2 : (kb s (some q7)).2 with
 | none =>
  left
  rw [e2, krf] at ht
  refine ⟨ktk (by rw [e]; exact e2), ?_⟩
  simp only [t114, ta114, hv, vs_w, vs_i, vs_l, kxb, lA70, lB70, lA71, lB71, lA72, lB72, lA73, lB73, lA74, lB74, lA75, lB75, lA76, lB76, isI, asI1, ht, ta_w, ta_i, kkc, ka, if_true, bft, if_false]
  exact ⟨_, _, _, _, _, _, _, _, _, rfl⟩
 | some q8 =>
  rw [e2, ked] at ht
  have hB8 : inB s (some q8) := by rw [← e2]; exact kpc s _ hB7
  have hmr := kwc s _ hB8
  have hino : ∀ x, kh s (some q8) 12 = x → (inoA s o).2 = (itN (ks s) x.1.toNat ([], x.2)).2 ∧ (inoA s o).1 = [.i .i64 (valN s 0 o), .i .i64 (valN s 1 o), .i .i64 (valN s 2 o), .i .i64 (valN s 3 o), .i .i64 (valN s 4 o), .s (kb s (some q7)).1, .l (itN (ks s) x.1.toNat ([], x.2)).1, .i .i64 (valN s 5 o), .i .i64 (valN s 6 o)] := by
   intro x hx
   simp only [inoA, e, e2, hx]; exact ⟨trivial, trivial⟩
  rcases kmd hs 1 (by omega) hB8 with ⟨e3, L, hw⟩ | ⟨q9, e3, hq9, hw⟩
  ·left
   have hw : t78 s (q8 : Int) 1 = _ := hw
   have e3 : (numA s (some q8)).2 = none := e3
   refine ⟨?_, ?_⟩
   ·rw [(hino _ rfl).1]
    have : (kh s (some q8) 12).2 = none := by unfold kh; split <;> first | rfl | exact e3
    rw [this]; exact kvb (kld s) _ _ rfl
   ·simp only [t114, ta114, hv, vs_w, vs_i, vs_l, kxb, lA70, lB70, lA71, lB71, lA72, lB72, lA73, lB73, lA74, lB74, lA75, lB75, lA76, lB76, isI, asI1, ht, hw, ta_w, ta_i, ta_s, kkc, bnt, bnf, bot, bto, ka, if_true, bft, if_false]
    exact ⟨_, _, _, _, _, _, _, _, _, rfl⟩
  ·have hw : t78 s (q8 : Int) 1 = some ([.one (.l [[D.i .i64 (numA s (some q8)).1]]), .one (.i .i64 (q9 : Int))], []) := hw
   have e3 : (numA s (some q8)).2 = some q9 := e3
   by_cases g : (numA s (some q8)).1 > 12
   ·left
    refine ⟨?_, ?_⟩
    ·rw [(hino _ rfl).1, kzg g]; exact kvb (kld s) _ _ rfl
    ·simp only [t114, ta114, hv, vs_w, vs_i, vs_l, kxb, lA70, lB70, lA71, lB71, lA72, lB72, lA73, lB73, lA74, lB74, lA75, lB75, lA76, lB76, lA10, lB10, isI, asI1, ht, hw, ta_w, ta_i, ta_s, g, decide_true, bnt, bnf, bot, bto, ka, if_true, bft, if_false]
     exact ⟨_, _, _, _, _, _, _, _, _, rfl⟩
   ·have hm := kqg g
    obtain ⟨g1, g2⟩ := hino _ hm
    rw [e3] at g1 g2
    have hn : ((numA s (some q8)).1.toNat : Int) = (numA s (some q8)).1 := Int.toNat_of_nonneg hmr.1
    simp only [t114, ta114, hv, vs_w, vs_i, vs_l, kxb, lA70, lB70, lA71, lB71, lA72, lB72, lA73, lB73, lA74, lB74, lA75, lB75, lA76, lB76, lA10, lB10, isI, asI1, ht, hw, ta_w, ta_i, ta_s, g, decide_false, bnt, bnf, bot, bto, Bool.or_self, ka, if_true, bft, if_false]
    rcases kao hs (numA s (some q8)).1.toNat (by omega) q9 hq9 (pos o) 0 (kb s (some q7)).1 false false false 0 0 0 0 0 ⟨#[]⟩ 0 0 (valN s 0 o) (valN s 1 o) (valN s 2 o) (valN s 3 o) (valN s 4 o) (kb s (some q7)).1 (valN s 5 o) (valN s 6 o) [[D.i .i64 (valN s 0 o)], [D.i .i64 (valN s 1 o)], [D.i .i64 (valN s 2 o)], [D.i .i64 (valN s 3 o)], [D.i .i64 (valN s 4 o)], [D.i .i64 (valN s 5 o)], [D.i .i64 (valN s 6 o)]] (fun (n1 : Int) (n2 : Int) (s0 : BA) (n3 : Int) (b0 : Bool) (b1 : Bool) (l2 : Rw) (l0 : Rw) => some ([.agg [.i .i64 (valN s 0 o), .i .i64 (valN s 1 o), .i .i64 (valN s 2 o), .i .i64 (valN s 3 o), .i .i64 (valN s 4 o), .s (kb s (some q7)).1, .l l0, .i .i64 (valN s 5 o), .i .i64 (valN s 6 o)], .one (.i .i64 (-1 : Int))], [])) (fun (n0 : Int) (n4 : Int) (v0 : SV) (v1 : SV) (b2 : Bool) (v2 : SV) (l1 : Rw) => some ([.agg [.i .i64 (valN s 0 o), .i .i64 (valN s 1 o), .i .i64 (valN s 2 o), .i .i64 (valN s 3 o), .i .i64 (valN s 4 o), .s (kb s (some q7)).1, .l l1, .i .i64 (valN s 5 o), .i .i64 (valN s 6 o)], .one (.i .i64 n0)], [])) _ _ (fun _ _ _ _ _ _ _ _ => rfl) (fun _ _ _ _ _ _ _ => rfl) (SV.undef, SV.undef, SV.undef, SV.undef) with ⟨f1, L, f2⟩ | ⟨q, f1, f2⟩
    ·rw [hn] at f2
     exact .inl ⟨by rw [g1, f1], _, _, _, _, _, _, _, _, _, f2⟩
    ·rw [hn] at f2
     exact .inr ⟨q, by rw [g1, f1], by rw [g2]; exact f2⟩
theorem in_0 (a b c d e f g h i x) : asI (resC (some ([.agg [.i .i64 a, .i .i64 b, .i .i64 c, .i .i64 d, .i .i64 e, .s f, .l g, .i .i64 h, .i .i64 i], .one (.i .i64 x)], [])) 0 0) = a := id rfl
theorem in_1 (a b c d e f g h i x) : asI (resC (some ([.agg [.i .i64 a, .i .i64 b, .i .i64 c, .i .i64 d, .i .i64 e, .s f, .l g, .i .i64 h, .i .i64 i], .one (.i .i64 x)], [])) 0 1) = b := id rfl
theorem in_2 (a b c d e f g h i x) : asI (resC (some ([.agg [.i .i64 a, .i .i64 b, .i .i64 c, .i .i64 d, .i .i64 e, .s f, .l g, .i .i64 h, .i .i64 i], .one (.i .i64 x)], [])) 0 2) = c := id rfl
theorem in_3 (a b c d e f g h i x) : asI (resC (some ([.agg [.i .i64 a, .i .i64 b, .i .i64 c, .i .i64 d, .i .i64 e, .s f, .l g, .i .i64 h, .i .i64 i], .one (.i .i64 x)], [])) 0 3) = d := id rfl
theorem in_4 (a b c d e f g h i x) : asI (resC (some ([.agg [.i .i64 a, .i .i64 b, .i .i64 c, .i .i64 d, .i .i64 e, .s f, .l g, .i .i64 h, .i .i64 i], .one (.i .i64 x)], [])) 0 4) = e := id rfl
theorem in_5 (a b c d e f g h i x) : asS (resC (some ([.agg [.i .i64 a, .i .i64 b, .i .i64 c, .i .i64 d, .i .i64 e, .s f, .l g, .i .i64 h, .i .i64 i], .one (.i .i64 x)], [])) 0 5) = f := id rfl
theorem in_6 (a b c d e f g h i x) : asL (resC (some ([.agg [.i .i64 a, .i .i64 b, .i .i64 c, .i .i64 d, .i .i64 e, .s f, .l g, .i .i64 h, .i .i64 i], .one (.i .i64 x)], [])) 0 6) = g := id rfl
theorem in_7 (a b c d e f g h i x) : asI (resC (some ([.agg [.i .i64 a, .i .i64 b, .i .i64 c, .i .i64 d, .i .i64 e, .s f, .l g, .i .i64 h, .i .i64 i], .one (.i .i64 x)], [])) 0 7) = h := id rfl
theorem in_8 (a b c d e f g h i x) : asI (resC (some ([.agg [.i .i64 a, .i .i64 b, .i .i64 c, .i .i64 d, .i .i64 e, .s f, .l g, .i .i64 h, .i .i64 i], .one (.i .i64 x)], [])) 0 8) = i := id rfl
theorem in_p (a b c d e f g h i) (x : Int) : asI (resC (some ([.agg [.i .i64 a, .i .i64 b, .i .i64 c, .i .i64 d, .i .i64 e, .s f, .l g, .i .i64 h, .i .i64 i], .one (.i .i64 x)], [])) 1 0) = x := id rfl
theorem in_w (a b c d e f g h i x) : okR zr114 zo114 (some ([.agg [.i .i64 a, .i .i64 b, .i .i64 c, .i .i64 d, .i .i64 e, .s f, .l g, .i .i64 h, .i .i64 i], .one (.i .i64 x)], [])) = true := id rfl
theorem kdo {s : BA} (hs : s.size ≤ 1048576) (k : Nat) (hk : k ≤ 1000) (p0 : Nat) (hp0 : p0 ≤ s.size) (b0 b1 : Bool) (n0 n1 a0 : Int) (q1 : Int → Int → Int → Bool → Bool → Int → Int → Int → Int → Int → BA → Int → Int → Rw → Rw → Rs) (q2 : Int → Int → SV → Bool → SV → Rw → Rs) (E : Rs) (F : Rw → Rs) (h1 : ∀ a b c d e f g h i j k l m n o, q1 a b c d e f g h i j k l m n o = E) (h2 : ∀ a b c d e l, q2 a b c d e l = F l) (v : SV × SV × SV) :
  ((itN (kl s) k ([], some p0)).2 = none ∧ la79o1 t68 t78 t114 s b0 b1 n0 n1 [[.i .i64 a0], [.i .i64 (k : Int)]] q1 q2 KK (p0 : Int) 0 v.1 v.2.1 v.2.2 [] = E) ∨
  ∃ q : Nat, (itN (kl s) k ([], some p0)).2 = some q ∧ la79o1 t68 t78 t114 s b0 b1 n0 n1 [[.i .i64 a0], [.i .i64 (k : Int)]] q1 q2 KK (p0 : Int) 0 v.1 v.2.1 v.2.2 [] = F (itN (kl s) k ([], some p0)).1 := by
 have hB0 : inB s (some p0) := by intro x hx; cases hx; exact hp0
 refine kgb (α := Nat × Rw) (σ := SV × SV × SV) (fun m i x v => la79o1 t68 t78 t114 s b0 b1 n0 n1 [[.i .i64 a0], [.i .i64 (k : Int)]] q1 q2 m (x.1 : Int) (i : Int) v.1 v.2.1 v.2.2 x.2) k (fun i x => itN (kl s) i ([], some p0) = (x.2, some x.1)) (fun y => ((itN (kl s) k ([], some p0)).2 = none ∧ y = E) ∨ ∃ q : Nat, (itN (kl s) k ([], some p0)).2 = some q ∧ y = F (itN (kl s) k ([], some p0)).1)
  ?_ ?_ k 0 KK (p0, []) v (by omega) (by rw [kj]; omega) rfl
 ·intro m x v hp
  right
  refine ⟨x.1, by rw [hp], ?_⟩
  simp only [la79o1, lA21, lB21, isI, asI1, kp, ka, bft, if_false, h2, hp]
 ·intro i m x v hi hp
  have hB := (klc (P := OkR ke s) (kxf hs) i _ (OkR.nil hB0)).b
  rw [hp] at hB
  have hl := kjb (kme s) i ([], some p0)
  rw [hp] at hl
  have hl : x.2.length = i := by simpa using hl
  have hst : kl s (itN (kl s) i ([], some p0)) = (x.2 ++ [(inoA s (some x.1)).1], (inoA s (some x.1)).2) := by rw [hp]; rfl
  rcases kto hs hB with ⟨e, a, b, c, d, f, g, h, j, l, hv⟩ | ⟨q, e, hv⟩
  ·right; left
   have hv : t114 s (x.1 : Int) = _ := hv
   refine ⟨ksd (kff s) hi (by rw [hst]; exact e), ?_⟩
   simp only [la79o1, lA21, lB21, isI, asI1, kk hi, hv, in_p, in_w, kkc, ka, if_true, h1]
  ·left
   have hv : t114 s (x.1 : Int) = some ([.agg [.i .i64 (valN s 0 (some x.1)), .i .i64 (valN s 1 (some x.1)), .i .i64 (valN s 2 (some x.1)), .i .i64 (valN s 3 (some x.1)), .i .i64 (valN s 4 (some x.1)), .s (kb s (posN s 7 (some x.1))).1, .l (itN (ks s) (kh s (kb s (posN s 7 (some x.1))).2 12).1.toNat ([], (kh s (kb s (posN s 7 (some x.1))).2 12).2)).1, .i .i64 (valN s 5 (some x.1)), .i .i64 (valN s 6 (some x.1))], .one (.i .i64 (q : Int))], []) := hv
   simp only [la79o1, lA21, lB21, isI, asI1, kk hi, hv, in_0, in_1, in_2, in_3, in_4, in_5, in_6, in_7, in_8, in_p, in_w, kxb, kcd, hl, lim1 (show i ≤ 1000 by omega), bat, ka, if_true, bft, if_false, kc i (by omega)]
   refine ⟨(q, _), (_, _, _), rfl, ?_⟩
   show kl s (itN (kl s) i ([], some p0)) = _
   rw [hst]
   exact congrArg (Prod.mk _) e
theorem kdc (s : BA) : inB s oz := by rw [kif]; exact inB0 s
theorem kil : pos oz = 0 := by rw [kif]; rfl
noncomputable def vB (s : BA) : Bool := decide ((volA s oz).2 = some s.size) && volB (volA s oz).1.1 (volA s oz).1.2
noncomputable def vD (s : BA) : Int × Rw := if vB s then (volA s oz).1 else (0, [])
theorem kvh (a s : BA) (h : (a.toList == s.toList) = true) : a = s := (kfe a s).1 h
theorem kvk (s : BA) (hs : s.size ≤ 1048576) : t79 s = some ([.agg [.i .i64 (vD s).1, .l (vD s).2], .one (.b (vB s))], []) := by
 have hB := kdc s
 have hB1 := knd s oz hB
 have no : vB s = false → some ([.agg [.i .i64 0, .l []], .one (.b false)], []) = (some ([.agg [.i .i64 (vD s).1, .l (vD s).2], .one (.b (vB s))], []) : Rs) := by
  intro h; unfold vD; rw [h]; rfl
 have bad : (volA s oz).2 = none → vB s = false := by intro h; unfold vB; rw [h]; simp
 rcases kmd hs 2 (by omega) hB with ⟨e, L, hv⟩ | ⟨q2, e, hq2, hv⟩
 ·have hv : t78 s (pos oz) 2 = _ := hv
  rw [kil] at hv
  refine Eq.trans ?_ (no (bad ?_))
  ·simp only [t79, ta79, hv, vs_w, vs_i, kkc, bnt, bnf, bot, bto, ka, if_true]
  ·have e : (numA s (numA s oz).2).2 = none := e
   show (itN (kl s) _ ([], (kh s (numA s oz).2 24).2)).2 = none
   have : (kh s (numA s oz).2 24).2 = none := by unfold kh; split <;> first | rfl | exact e
   rw [this]; exact kvb (kff s) _ _ rfl
 ·have hv : t78 s (pos oz) 2 = some ([.one (.l [[D.i .i64 (numA s oz).1], [D.i .i64 (numA s (numA s oz).2).1]]), .one (.i .i64 (q2 : Int))], []) := hv
  rw [kil] at hv
  have e : (numA s (numA s oz).2).2 = some q2 := e
  have hmr := kwc s _ hB1
  obtain ⟨px, -, hpx, hqx, -⟩ := kjd s _ hB1 q2 e
  have hs0 : ((⟨#[]⟩ : BA).toList == s.toList) = false := by
   rw [Bool.eq_false_iff]; intro h
   have := congrArg ByteArray.size (kvh _ _ h)
   have h0 : (⟨#[]⟩ : BA).size = 0 := rfl
   omega
  by_cases g : (numA s (numA s oz).2).1 > 24
  ·refine Eq.trans ?_ (no (bad ?_))
   ·simp only [t79, ta79, hv, vs_w, vs_i, vs_l, lA21, lB21, isI, asI1, kxb, g, decide_true, bnt, bnf, bot, bto, ka, if_true]
   ·show (itN (kl s) _ ([], (kh s (numA s oz).2 24).2)).2 = none
    rw [kzg g]; exact kvb (kff s) _ _ rfl
  ·have hm := kqg g
   have hn : ((numA s (numA s oz).2).1.toNat : Int) = (numA s (numA s oz).2).1 := Int.toNat_of_nonneg hmr.1
   have hvol : volA s oz = (((numA s oz).1, (itN (kl s) (numA s (numA s oz).2).1.toNat ([], some q2)).1), (itN (kl s) (numA s (numA s oz).2).1.toNat ([], some q2)).2) := by
    simp only [volA, hm, e]
   obtain ⟨o1, o2, o3, o4⟩ := kvg hs hB
   have hback := kbl hs hB
   simp only [t79, ta79, hv, vs_w, vs_i, vs_l, lA21, lB21, lA20, lB20, isI, asI1, kxb, g, decide_false, bnt, bnf, bot, bto, Bool.or_self, ka, if_true, bft, if_false]
   rcases kdo hs (numA s (numA s oz).2).1.toNat (by omega) q2 hq2 false false 0 (numA s oz).1 (numA s oz).1 (fun (n0 : Int) (n1 : Int) (n2 : Int) (b0 : Bool) (b1 : Bool) (n3 : Int) (n4 : Int) (n5 : Int) (n6 : Int) (n7 : Int) (s0 : BA) (n8 : Int) (n9 : Int) (l1 : Rw) (l2 : Rw) => some ([.agg [.i .i64 (0 : Int), .l ([] : Rw)], .one (.b false)], []))
    (fun (n71 : Int) (n72 : Int) (v0 : SV) (b2 : Bool) (v1 : SV) (l0 : Rw) =>
     chk (okR zr68 zo68 (t68 (numA s oz).1 l0)) <|
     if (!((asS (resC (t68 (numA s oz).1 l0) 0 0)).toList == s.toList)) = true then some ([.agg [.i .i64 (0 : Int), .l ([] : Rw)], .one (.b false)], []) else some ([.agg [.i .i64 (numA s oz).1, .l l0], .one (.b true)], [])) _ _ (fun _ _ _ _ _ _ _ _ _ _ _ _ _ _ _ => rfl) (fun _ _ _ _ _ _ => rfl) (SV.undef, SV.undef, SV.undef) with ⟨f1, f2⟩ | ⟨q, f1, f2⟩
   ·rw [hn] at f2
    refine Eq.trans f2 (no (bad ?_))
    rw [hvol]; exact f1
   ·rw [hn] at f2
    refine Eq.trans f2 ?_
    have hV2 : (volA s oz).2 = some q := by rw [hvol]; exact f1
    have hV1 : (volA s oz).1 = ((numA s oz).1, (itN (kl s) (numA s (numA s oz).2).1.toNat ([], some q2)).1) := by rw [hvol]
    rw [hV1] at o2 o3 o4
    obtain ⟨p, ep, a1, a2, a3⟩ := hback q hV2
    rw [kif] at ep; cases ep
    rw [hV1] at a3
    have hsv := kmg (numA s oz).1 _ (by omega) o3 o4
    simp only [hsv, gz52, fs, ka]
    cases hb : volB (numA s oz).1 (itN (kl s) (numA s (numA s oz).2).1.toNat ([], some q2)).1
    ·have : vB s = false := by unfold vB; rw [hV1, hb, Bool.and_false]
     rw [← no this]
     simp only [hs0, bft, if_false, bnf, if_true]
    ·simp only [if_true]
     have a3 : s.extract 0 q = volT (numA s oz).1 (itN (kl s) (numA s (numA s oz).2).1.toNat ([], some q2)).1 := a3
     rw [← a3]
     by_cases hq : q = s.size
     ·have hx : ((s.extract 0 q).toList == s.toList) = true := (kfe _ _).2 ((kwe s q a2).2 hq)
      have : vB s = true := by unfold vB; rw [hV1, hb, hV2, hq]; simp
      unfold vD
      simp only [hx, this, hV1, bnt, bft, if_false, if_true]
     ·have hx : ((s.extract 0 q).toList == s.toList) = false := by
       rw [Bool.eq_false_iff]; intro h; exact hq ((kwe s q a2).1 (kvh _ _ h))
      have : vB s = false := by unfold vB; rw [hV2]; simp [hq]
      rw [← no this]
      simp only [hx, bnf, if_true]
theorem knp (n : Int) (s : BA) : krd n s = resB n s := by
 unfold krd resB rngB; rw [Bool.eq_iff_iff]; simp [and_assoc]
theorem kkm (x : BA) : (0 ≤ (rdR x).2.1 ∧ (rdR x).2.1 ≤ 562949953421311) ∧ (rdR x).2.2.size ≤ x.size ∧ ((rdR x).1 = true → rsS (rdR x).2.1 (rdR x).2.2 = x) := by
 have hr := kke x
 unfold rdR
 by_cases h : (rdV x).2 ≠ 0 ∧ krd (rdV x).1 (x.extract (rdV x).2.toNat x.size) = true
 ·rw [if_pos h]
  refine ⟨⟨hr.1, hr.2.1⟩, by rw [kxc]; omega, fun _ => ?_⟩
  have h2 := h.2
  rw [knp] at h2
  simp only [rsS, h2, if_true]
  rw [kfh x h.1]
  exact kgg x _ (by omega)
 ·rw [if_neg h]
  exact ⟨by simp, Nat.zero_le _, fun q => by cases q⟩
theorem ktf {s : BA} : ∀ x : LO, OkR kpb s x → OkR kpb s (kx s x) := by
 intro x h
 exact h.step (kic h.b 5) ⟨_, _, rfl, ⟨_, rfl, kob _ (krb h.b 0)⟩, _, _, rfl, ⟨_, rfl, kob _ (krb h.b 1)⟩, _, _, rfl, ⟨_, rfl, kob _ (krb h.b 2)⟩, _, _, rfl, ⟨_, rfl, kob _ (krb h.b 3)⟩, _, _, rfl, ⟨_, rfl, kob _ (krb h.b 4)⟩, rfl⟩ ⟨trivial, trivial, trivial, trivial, trivial, trivial⟩
theorem ksf {s : BA} (hs : s.size ≤ 1048576) : ∀ x : LO, OkR kab s x → OkR kab s (kq s x) := by
 intro x h
 have h3 := kic h.b 3
 have hz := koc s _ h3
 obtain ⟨hr, hr2, -⟩ := kkm (kb s (posN s 3 x.2)).1
 have hx : 1048576 ≤ maxLen := by decide
 refine h.step ?_ ⟨_, _, rfl, ⟨_, rfl, kob _ (krb h.b 0)⟩, _, _, rfl, ⟨_, rfl, kob _ (krb h.b 1)⟩, _, _, rfl, ⟨_, rfl, kob _ (krb h.b 2)⟩, _, _, rfl, ⟨_, rfl, kob _ hr⟩, _, _, rfl, ⟨_, rfl, by omega⟩, rfl⟩ ⟨trivial, trivial, trivial, trivial, by show (rdR (kb s (posN s 3 x.2)).1).2.2.size ≤ 1048576; omega, trivial⟩
 split
 ·exact kpc s _ h3
 ·intro p hp; cases hp
theorem kuk {s : BA} {o : Option Nat} (h : inB s o) : ∀ k, kad nteS s o (itN (kx s) k ([], o))
 | 0 => kad.nil h
 | k + 1 => (kuk h k).step (by
   have hB := (klc (P := OkR kpb s) ktf k _ (OkR.nil h)).b
   intro q e
   obtain ⟨p4, e4, a4, b4, c4⟩ := kmb hB 4 e
   obtain ⟨p3, e3, a3, b3, c3⟩ := kmb hB 3 e4
   obtain ⟨p2, e2, a2, b2, c2⟩ := kmb hB 2 e3
   obtain ⟨p1, e1, a1, b1, c1⟩ := kmb hB 1 e2
   obtain ⟨p0, e0, a0, b0, c0⟩ := kmb hB 0 e1
   exact ⟨p0, e0, by omega, b4, kbb c0 (kbb c1 (kbb c2 (kbb c3 c4 (by omega) (by omega) b4) (by omega) (by omega) b4) (by omega) (by omega) b4) (by omega) (by omega) b4⟩)
theorem kak {s : BA} (hs : s.size ≤ 1048576) {o : Option Nat} (h : inB s o) : ∀ k, kad sesS s o (itN (kq s) k ([], o))
 | 0 => kad.nil h
 | k + 1 => (kak hs h k).step (by
   have hB := (klc (P := OkR kab s) (ksf hs) k _ (OkR.nil h)).b
   intro q e
   obtain ⟨-, -, hr⟩ := kkm (kb s (posN s 3 (itN (kq s) k ([], o)).2)).1
   cases g : (rdR (kb s (posN s 3 (itN (kq s) k ([], o)).2)).1).1 with
   | false => rw [g] at e; simp at e
   | true =>
    rw [g] at e
    simp only [if_true] at e
    obtain ⟨p3, e3, a3, b3, c3⟩ := kzc s _ (kic hB 3) q e
    obtain ⟨p2, e2, a2, b2, c2⟩ := kmb hB 2 e3
    obtain ⟨p1, e1, a1, b1, c1⟩ := kmb hB 1 e2
    obtain ⟨p0, e0, a0, b0, c0⟩ := kmb hB 0 e1
    refine ⟨p0, e0, by omega, b3, ?_⟩
    rw [← hr g] at c3
    exact kbb c0 (kbb c1 (kbb c2 c3 (by omega) (by omega) b3) (by omega) (by omega) b3) (by omega) (by omega) b3)
theorem kig {s : BA} {o : Option Nat} (h : inB s o) : OkR kpb s (ntsA s o) ∧ (ntsA s o).1.length ≤ 20 := by
 have h1 := knd s o h
 have hmr := kbc (n := 20) h1 (by omega)
 have hl := kjb (kqe s) (kh s (numA s o).2 20).1.toNat ([], (kh s (numA s o).2 20).2)
 simp only [List.length_nil] at hl
 exact ⟨klc (P := OkR kpb s) ktf _ _ (OkR.nil (khd h1)), by show (itN (kx s) _ _).1.length ≤ 20; omega⟩
theorem kjl {s : BA} (hs : s.size ≤ 1048576) {o : Option Nat} (h : inB s o) : OkR kab s (sssA s o) ∧ (sssA s o).1.length ≤ 3 := by
 have h1 := (kig h).1.b
 have hmr := kbc (n := 3) h1 (by omega)
 have hl := kjb (kpe s) (kh s (ntsA s o).2 3).1.toNat ([], (kh s (ntsA s o).2 3).2)
 simp only [List.length_nil] at hl
 exact ⟨klc (P := OkR kab s) (ksf hs) _ _ (OkR.nil (khd h1)), by show (itN (kq s) _ _).1.length ≤ 3; omega⟩
noncomputable def tQ (s : BA) : Option Nat := (kb s oz).2
theorem kpf (s : BA) : inB s (tQ s) := kpc s oz (kdc s)
theorem kah (s : BA) : (tP s).size ≤ s.size := koc s oz (kdc s)
theorem kdk {s : BA} (hs : s.size ≤ 1048576) (hg : tG s = true) {q : Nat} (e : (sssA s (tQ s)).2 = some q) :
  0 < q ∧ q ≤ s.size ∧ s.extract 0 q = tenT (tV s).1.1 (tV s).1.2 (numA s (tQ s)).1 (ntsA s (tQ s)).1 (sssA s (tQ s)).1 := by
 have hB := kpf s
 have h1 := knd s _ hB
 have hN := (kig hB).1.b
 have hmr := kbc (n := 20) h1 (by omega)
 have hmr2 := kbc (n := 3) hN (by omega)
 have hl := kjb (kqe s) (kh s (numA s (tQ s)).2 20).1.toNat ([], (kh s (numA s (tQ s)).2 20).2)
 have hl2 := kjb (kpe s) (kh s (ntsA s (tQ s)).2 3).1.toNat ([], (kh s (ntsA s (tQ s)).2 3).2)
 simp only [List.length_nil] at hl hl2
 have hlen : ((ntsA s (tQ s)).1.length : Int) = (kh s (numA s (tQ s)).2 20).1 := by show (((itN (kx s) _ _).1.length : Nat) : Int) = _; omega
 have hlen2 : ((sssA s (tQ s)).1.length : Int) = (kh s (ntsA s (tQ s)).2 3).1 := by show (((itN (kq s) _ _).1.length : Nat) : Int) = _; omega
 obtain ⟨p5, e5, a5, b5, c5⟩ := kak hs (khd hN) (kh s (ntsA s (tQ s)).2 3).1.toNat q e
 obtain ⟨p4, e4, a4, b4, c4⟩ := kgf hN e5
 obtain ⟨p3, e3, a3, b3, c3⟩ := kuk (khd h1) (kh s (numA s (tQ s)).2 20).1.toNat p4 e4
 obtain ⟨p2, e2, a2, b2, c2⟩ := kgf h1 e3
 obtain ⟨p1, e1, a1, b1, c1⟩ := kjd s _ hB p2 e2
 obtain ⟨p0, e0, a0, b0, c0⟩ := kzc s oz (kdc s) p1 e1
 rw [kif] at e0; cases e0
 have hv : (tV s).2 = some (tP s).size := by simpa [tG] using hg
 obtain ⟨pv, ev, -, -, cv⟩ := kbl (s := tP s) (by have := kah s; omega) (kdc (tP s)) _ hv
 rw [kif] at ev; cases ev
 rw [ktd] at cv
 have cv : tP s = volT (tV s).1.1 (tV s).1.2 := cv
 have c0 : s.extract 0 p1 = ksb (tP s) := c0
 rw [cv] at c0
 rw [← hlen] at c2
 rw [← hlen2] at c4
 exact ⟨by omega, b5, kbb c0 (kbb c1 (kbb c2 (kbb c3 (kbb c4 c5 (by omega) (by omega) b5) (by omega) (by omega) b5) (by omega) (by omega) b5) (by omega) (by omega) b5) (by omega) (by omega) b5⟩
noncomputable def tB (s : BA) : Bool := (tG s && decide ((sssA s (tQ s)).2 = some s.size)) && tenB (tV s).1.1 (tV s).1.2 (numA s (tQ s)).1 (ntsA s (tQ s)).1 (sssA s (tQ s)).1
def zD : List DV := [.agg [.i .i64 0, .l [], .i .i64 0, .l [], .l []], .one (.b false)]
noncomputable def tD (s : BA) : List DV := if tB s then [.agg [.i .i64 (tV s).1.1, .l (tV s).1.2, .i .i64 (numA s (tQ s)).1, .l (ntsA s (tQ s)).1, .l (sssA s (tQ s)).1], .one (.b true)] else zD
theorem kbk (s : BA) : (sssA s none).2 = none := by
 have h1 : (ntsA s none).2 = none := by
  unfold ntsA; rw [kso, kve]; exact kvb (kce s) _ _ rfl
 unfold sssA; rw [h1, kve]; exact kvb (khc s) _ _ rfl
theorem gz78 : ∀ a b c d e x y, okR zr81 zo81 (some ([.agg [.i .i64 a, .l b, .i .i64 c, .l d, .l e]], [[.s x, .b y]])) = true := fun _ _ _ _ _ _ _ => id rfl
theorem gz79 : ∀ a b c d e y, asI (resC (some ([.agg [.i .i64 a, .l b, .i .i64 c, .l d, .l e]], y)) 0 0) = a := fun _ _ _ _ _ _ => id rfl
theorem gz80 : ∀ a b c d e y, asL (resC (some ([.agg [.i .i64 a, .l b, .i .i64 c, .l d, .l e]], y)) 0 1) = b := fun _ _ _ _ _ _ => id rfl
theorem gz81 : ∀ a b c d e y, asI (resC (some ([.agg [.i .i64 a, .l b, .i .i64 c, .l d, .l e]], y)) 0 2) = c := fun _ _ _ _ _ _ => id rfl
theorem gz82 : ∀ a b c d e y, asL (resC (some ([.agg [.i .i64 a, .l b, .i .i64 c, .l d, .l e]], y)) 0 3) = d := fun _ _ _ _ _ _ => id rfl
theorem gz83 : ∀ a b c d e y, asL (resC (some ([.agg [.i .i64 a, .l b, .i .i64 c, .l d, .l e]], y)) 0 4) = e := fun _ _ _ _ _ _ => id rfl
theorem gz84 : ∀ x, okR zr25 zo25 (some ([.one (.b x)], [])) = true := fun _ => id rfl
theorem kfl (s : BA) (hs : s.size ≤ 1048576) : t37 s = some (tD s, []) := by
 obtain ⟨r, b, e, h⟩ := kno s
 have hE := ksm h
 have hO : inB s (tO s) := by unfold tO; split; exact kpf s; intro p hp; cases hp
 obtain ⟨v1, v2, v3, v4⟩ := kvg (s := tP s) (by have := kah s; omega) (kdc (tP s))
 have hn := kig hO
 have hss := kjl hs hO
 have ht := krj (tV s).1.1 (tV s).1.2 (numA s (tO s)).1 (ntsA s (tO s)).1 (sssA s (tO s)).1 (by show (volA (tP s) oz).1.2.length ≤ 1048576; omega) v3 v4 (by omega) (fun r hr => (hn.1.t r hr).1) (by omega) (fun r hr => (hss.1.t r hr).1)
 simp only [t37, ta37, e, gz78, gz79, gz80, gz81, gz82, gz83, gz76, gz77, hE, ht, gz84, gz8, bto, ka]
 unfold tD tB
 cases hg : tG s with
 | false =>
  have ho : tO s = none := by unfold tO; rw [hg]; rfl
  rw [ho, kbk]
  simp [zD]
 | true =>
  have ho : tO s = tQ s := by unfold tO; rw [hg]; rfl
  rw [ho, ← Bool.not_and, bta]
  cases (decide ((sssA s (tQ s)).2 = some s.size) && tenB (tV s).1.1 (tV s).1.2 (numA s (tQ s)).1 (ntsA s (tQ s)).1 (sssA s (tQ s)).1) <;> rfl
theorem gz85 : ∀ a b c d e, flatR 5 [[D.i .i64 a, D.i .i64 b, D.i .i64 c, D.i .i64 d, D.i .i64 e]] = true := fun _ _ _ _ _ => id rfl
theorem kvn {s : BA} (hs : s.size ≤ 1048576) (k : Nat) (hk : k ≤ 1000) (p0 : Nat) (hp0 : p0 ≤ s.size) (b0 : Bool) (s0 : BA) (b1 : Bool) (n0 n1 n2 n3 n4 n5 n6 a0 : Int) (l0 : Rw) (q1 : Int → Int → Int → Bool → Bool → Rw → Rw → Rs) (q2 : Int → Int → SV → Bool → SV → Rw → Rs) (E : Rs) (h1 : ∀ a b c d e f g, q1 a b c d e f g = E) (v : SV × SV × SV) :
  ((itN (kx s) k ([], some p0)).2 = none ∧ la36o1 t30 t77 t78 t79 t80 s b0 s0 b1 n0 n1 n2 n3 n4 n5 n6 [[.i .i64 a0], [.i .i64 (k : Int)]] l0 q1 q2 KK (p0 : Int) 0 v.1 v.2.1 v.2.2 [] = E) ∨
  ∃ q : Nat, (itN (kx s) k ([], some p0)).2 = some q ∧ ∃ a b c d, la36o1 t30 t77 t78 t79 t80 s b0 s0 b1 n0 n1 n2 n3 n4 n5 n6 [[.i .i64 a0], [.i .i64 (k : Int)]] l0 q1 q2 KK (p0 : Int) 0 v.1 v.2.1 v.2.2 [] = q2 (q : Int) a b c d (itN (kx s) k ([], some p0)).1 := by
 have hB0 : inB s (some p0) := by intro x hx; cases hx; exact hp0
 refine kgb (α := Nat × Rw) (σ := SV × SV × SV) (fun m i x v => la36o1 t30 t77 t78 t79 t80 s b0 s0 b1 n0 n1 n2 n3 n4 n5 n6 [[.i .i64 a0], [.i .i64 (k : Int)]] l0 q1 q2 m (x.1 : Int) (i : Int) v.1 v.2.1 v.2.2 x.2) k (fun i x => itN (kx s) i ([], some p0) = (x.2, some x.1)) (fun y => ((itN (kx s) k ([], some p0)).2 = none ∧ y = E) ∨ ∃ q : Nat, (itN (kx s) k ([], some p0)).2 = some q ∧ ∃ a b c d, y = q2 (q : Int) a b c d (itN (kx s) k ([], some p0)).1)
  ?_ ?_ k 0 KK (p0, []) v (by omega) (by rw [kj]; omega) rfl
 ·intro m x v hp
  right
  refine ⟨x.1, by rw [hp], ?_⟩
  simp only [la36o1, lA21, lB21, isI, asI1, kp, ka, bft, if_false, hp]
  exact ⟨_, _, _, _, rfl⟩
 ·intro i m x v hi hp
  have hB := (klc (P := OkR kpb s) ktf i _ (OkR.nil hB0)).b
  rw [hp] at hB
  have hl := kjb (kqe s) i ([], some p0)
  rw [hp] at hl
  have hl : x.2.length = i := by simpa using hl
  have hst : kx s (itN (kx s) i ([], some p0)) = (x.2 ++ [[.i .i64 (valN s 0 (some x.1)), .i .i64 (valN s 1 (some x.1)), .i .i64 (valN s 2 (some x.1)), .i .i64 (valN s 3 (some x.1)), .i .i64 (valN s 4 (some x.1))]], posN s 5 (some x.1)) := by rw [hp]; rfl
  rcases kmd hs 5 (by omega) hB with ⟨e, L, hv⟩ | ⟨q, e, _, hv⟩
  ·right; left
   have hv : t78 s (x.1 : Int) 5 = _ := hv
   refine ⟨ksd (kce s) hi (by rw [hst]; exact e), ?_⟩
   simp only [la36o1, lA21, lB21, isI, asI1, kk hi, hv, vs_w, vs_i, kkc, ka, if_true, h1]
  ·left
   have hv : t78 s (x.1 : Int) 5 = some ([.one (.l [[D.i .i64 (valN s 0 (some x.1))], [D.i .i64 (valN s 1 (some x.1))], [D.i .i64 (valN s 2 (some x.1))], [D.i .i64 (valN s 3 (some x.1))], [D.i .i64 (valN s 4 (some x.1))]]), .one (.i .i64 (q : Int))], []) := hv
   simp only [la36o1, lA21, lB21, lA50, lB50, lA51, lB51, lA52, lB52, lA53, lB53, lA54, lB54, isI, asI1, kk hi, hv, vs_w, vs_l, vs_i, kxb, gz85, kcd, hl, lim1 (show i ≤ 1000 by omega), bat, ka, if_true, bft, if_false, kc i (by omega)]
   refine ⟨(q, _), (_, _, _), rfl, ?_⟩
   show kx s (itN (kx s) i ([], some p0)) = _
   rw [hst]
   exact congrArg (Prod.mk _) e
theorem rr_w (a b c) : okR zr80 zo80 (some ([.agg [.i .i64 a, .s b], .one (.b c)], [])) = true := id rfl
theorem rr_0 (a b c) : asI (resC (some ([.agg [.i .i64 a, .s b], .one (.b c)], [])) 0 0) = a := id rfl
theorem rr_1 (a b c) : asS (resC (some ([.agg [.i .i64 a, .s b], .one (.b c)], [])) 0 1) = b := id rfl
theorem rr_2 (a b c) : asB (resC (some ([.agg [.i .i64 a, .s b], .one (.b c)], [])) 1 0) = c := id rfl
theorem gz86 : ∀ a b c d e, flatR 5 [[D.i .i64 a, D.i .i64 b, D.i .i64 c, D.i .i64 d, D.s e]] = true := fun _ _ _ _ _ => id rfl
theorem kln {s : BA} (hs : s.size ≤ 1048576) (k : Nat) (hk : k ≤ 1000) (p0 : Nat) (hp0 : p0 ≤ s.size) (b0 : Bool) (s0 : BA) (n0 : Int) (b1 b2 b3 : Bool) (n1 n2 n3 n4 n5 n6 n7 : Int) (l0 l1 l2 : Rw) (q1 : Int → SV → Int → Int → BA → Bool → SV → Bool → Bool → Int → BA → Rw → Rw → Rs) (q2 : Int → SV → Int → SV → SV → SV → SV → Bool → SV → Rw → Rs) (E : Rs) (F : Rw → Rs) (h1 : ∀ a b c d e f g h i j k l m, q1 a b c d e f g h i j k l m = E) (h2 : ∀ a b c d e f g h i l, q2 a b c d e f g h i l = F l) (v : SV × SV × SV × SV × SV × SV × SV) :
  ((itN (kq s) k ([], some p0)).2 = none ∧ la36o5 t30 t77 t78 t79 t80 s b0 s0 n0 b1 b2 b3 n1 n2 n3 n4 n5 n6 n7 l0 [[.i .i64 (k : Int)]] l1 l2 q1 q2 KK (p0 : Int) v.1 0 v.2.1 v.2.2.1 v.2.2.2.1 v.2.2.2.2.1 v.2.2.2.2.2.1 v.2.2.2.2.2.2 [] = E) ∨
  ∃ q : Nat, (itN (kq s) k ([], some p0)).2 = some q ∧ la36o5 t30 t77 t78 t79 t80 s b0 s0 n0 b1 b2 b3 n1 n2 n3 n4 n5 n6 n7 l0 [[.i .i64 (k : Int)]] l1 l2 q1 q2 KK (p0 : Int) v.1 0 v.2.1 v.2.2.1 v.2.2.2.1 v.2.2.2.2.1 v.2.2.2.2.2.1 v.2.2.2.2.2.2 [] = F (itN (kq s) k ([], some p0)).1 := by
 have hB0 : inB s (some p0) := by intro x hx; cases hx; exact hp0
 refine kgb (α := Nat × Rw) (σ := SV × SV × SV × SV × SV × SV × SV) (fun m i x v => la36o5 t30 t77 t78 t79 t80 s b0 s0 n0 b1 b2 b3 n1 n2 n3 n4 n5 n6 n7 l0 [[.i .i64 (k : Int)]] l1 l2 q1 q2 m (x.1 : Int) v.1 (i : Int) v.2.1 v.2.2.1 v.2.2.2.1 v.2.2.2.2.1 v.2.2.2.2.2.1 v.2.2.2.2.2.2 x.2) k (fun i x => itN (kq s) i ([], some p0) = (x.2, some x.1)) (fun y => ((itN (kq s) k ([], some p0)).2 = none ∧ y = E) ∨ ∃ q : Nat, (itN (kq s) k ([], some p0)).2 = some q ∧ y = F (itN (kq s) k ([], some p0)).1)
  ?_ ?_ k 0 KK (p0, []) v (by omega) (by rw [kj]; omega) rfl
 ·intro m x v hp
  right
  refine ⟨x.1, by rw [hp], ?_⟩
  simp only [la36o5, lA10, lB10, isI, asI1, kp, ka, bft, if_false, h2, hp]
 ·intro i m x v hi hp
  have hB := (klc (P := OkR kab s) (ksf hs) i _ (OkR.nil hB0)).b
  rw [hp] at hB
  have hl := kjb (kpe s) i ([], some p0)
  rw [hp] at hl
  have hl : x.2.length = i := by simpa using hl
  have hst : kq s (itN (kq s) i ([], some p0)) = (x.2 ++ [[.i .i64 (valN s 0 (some x.1)), .i .i64 (valN s 1 (some x.1)), .i .i64 (valN s 2 (some x.1)), .i .i64 (rdR (kb s (posN s 3 (some x.1))).1).2.1, .s (rdR (kb s (posN s 3 (some x.1))).1).2.2]], if (rdR (kb s (posN s 3 (some x.1))).1).1 then (kb s (posN s 3 (some x.1))).2 else none) := by rw [hp]; rfl
  have ht := kbf hs (kic hB 3)
  rcases kmd hs 3 (by omega) hB with ⟨e, L, hv⟩ | ⟨q3, e, _, hv⟩
  ·right; left
   have hv : t78 s (x.1 : Int) 3 = _ := hv
   rw [e, kre, krf] at ht
   refine ⟨ksd (khc s) hi (by rw [hst, e, kre]; split <;> rfl), ?_⟩
   simp only [la36o5, lA10, lB10, isI, asI1, kk hi, hv, vs_w, vs_i, ht, ta_w, ta_s, ta_i, kee, rr_w, rr_2, kkc, bto, ka, if_true, h1]
  ·have hv : t78 s (x.1 : Int) 3 = some ([.one (.l [[D.i .i64 (valN s 0 (some x.1))], [D.i .i64 (valN s 1 (some x.1))], [D.i .i64 (valN s 2 (some x.1))]]), .one (.i .i64 (q3 : Int))], []) := hv
   have hq : pos (posN s 3 (some x.1)) = (q3 : Int) := by rw [e]; rfl
   rw [hq] at ht
   cases e2 : (kb s (posN s 3 (some x.1))).2 with
   | none =>
    right; left
    rw [e2, krf] at ht
    refine ⟨ksd (khc s) hi (by rw [hst, e2]; split <;> rfl), ?_⟩
    simp only [la36o5, lA10, lB10, isI, asI1, kk hi, hv, vs_w, vs_i, ht, ta_w, ta_s, ta_i, kee, rr_w, rr_2, kkc, bto, ka, if_true, h1]
   | some q =>
    rw [e2, ked] at ht
    cases g : (rdR (kb s (posN s 3 (some x.1))).1).1 with
    | false =>
     right; left
     refine ⟨ksd (khc s) hi (by rw [hst, g]; rfl), ?_⟩
     simp only [la36o5, lA10, lB10, isI, asI1, kk hi, hv, vs_w, vs_i, ht, ta_w, ta_s, ta_i, kee, rr_w, rr_2, g, kxb, bnf, bot, ka, if_true, h1]
    | true =>
     left
     simp only [la36o5, lA10, lB10, lA30, lB30, lA31, lB31, lA32, lB32, isI, asI1, kk hi, hv, vs_w, vs_l, vs_i, ht, ta_w, ta_s, ta_i, kee, rr_w, rr_0, rr_1, rr_2, g, kxb, bnt, Bool.or_self, gz86, kcd, hl, lim1 (show i ≤ 1000 by omega), bat, ka, if_true, bft, if_false, kc i (by omega)]
     refine ⟨(q, _), (_, _, _, _, _, _, _), rfl, ?_⟩
     show kq s (itN (kq s) i ([], some p0)) = _
     rw [hst, g, e2]; rfl
theorem kep (n3 : Int) (l4 l5 : Rw) : tenB 0 [] n3 l4 l5 = false := by
 unfold tenB volB
 have : rngB 0 2 100000 = false := rfl
 rw [this]; simp
theorem gz87 : ∀ a b c, okR zr79 zo79 (some ([.agg [.i .i64 a, .l b], .one (.b c)], [])) = true := fun _ _ _ => id rfl
theorem gz88 : ∀ a b c, asI (resC (some ([.agg [.i .i64 a, .l b], .one (.b c)], [])) 0 0) = a := fun _ _ _ => id rfl
theorem gz89 : ∀ a b c, asL (resC (some ([.agg [.i .i64 a, .l b], .one (.b c)], [])) 0 1) = b := fun _ _ _ => id rfl
theorem kpl (s : BA) (hs : s.size ≤ 1048576) : t36 s = some (tD s, []) := by
 have hB := kpf s
 have h1 := knd s _ hB
 have hsP : (tP s).size ≤ 1048576 := by have := kah s; omega
 have no : tB s = false → some (zD, []) = (some (tD s, []) : Rs) := by intro h; unfold tD; rw [h]; rfl
 have bad : (sssA s (tQ s)).2 = none → tB s = false := by intro h; unfold tB; rw [h]; simp
 have badN : (ntsA s (tQ s)).2 = none → tB s = false := by
  intro h; apply bad; unfold sssA; rw [h, kve]; exact kvb (khc s) _ _ rfl
 have ht := kbf hs (kdc s)
 rw [kil] at ht
 have ht : t77 s 0 = some ([.one (.s (tP s)), .one (.i .i64 (pos (tQ s)))], []) := ht
 have hrv := kvk (tP s) hsP
 rcases kmd hs 2 (by omega) hB with ⟨e, L, hv⟩ | ⟨q2, e, hq2, hv⟩
 ·have hv : t78 s (pos (tQ s)) 2 = _ := hv
  refine Eq.trans ?_ (no (badN ?_))
  ·simp only [t36, ta36, ht, ta_w, ta_i, hv, vs_w, vs_i, kkc, bnt, bnf, bot, bto, ka, if_true]; rfl
  ·have e : (numA s (numA s (tQ s)).2).2 = none := e
   have : (kh s (numA s (tQ s)).2 20).2 = none := by unfold kh; split <;> first | rfl | exact e
   unfold ntsA; rw [this]; exact kvb (kce s) _ _ rfl
 have hv : t78 s (pos (tQ s)) 2 = some ([.one (.l [[D.i .i64 (numA s (tQ s)).1], [D.i .i64 (numA s (numA s (tQ s)).2).1]]), .one (.i .i64 (q2 : Int))], []) := hv
 have e : (numA s (numA s (tQ s)).2).2 = some q2 := e
 have hmr := kwc s _ h1
 obtain ⟨px, -, hpx, hqx, -⟩ := kjd s _ h1 q2 e
 have hs0 : ((⟨#[]⟩ : BA).toList == s.toList) = false := by
  rw [Bool.eq_false_iff]; intro h
  have := congrArg ByteArray.size (kvh _ _ h)
  have h0 : (⟨#[]⟩ : BA).size = 0 := rfl
  omega
 by_cases g : (numA s (numA s (tQ s)).2).1 > 20
 ·refine Eq.trans ?_ (no (badN ?_))
  ·simp only [t36, ta36, ht, ta_w, ta_i, hv, vs_w, vs_i, vs_l, lA21, lB21, isI, asI1, kxb, g, decide_true, bnt, bnf, bot, bto, ka, if_true]; rfl
  ·unfold ntsA; rw [kzg g]; exact kvb (kce s) _ _ rfl
 have hm := kqg g
 have hn : ((numA s (numA s (tQ s)).2).1.toNat : Int) = (numA s (numA s (tQ s)).2).1 := Int.toNat_of_nonneg hmr.1
 have hnts : ntsA s (tQ s) = itN (kx s) (numA s (numA s (tQ s)).2).1.toNat ([], some q2) := by unfold ntsA; rw [hm, e]
 simp only [t36, ta36, ht, ta_w, ta_s, ta_i, hrv, gz87, gz88, gz89, hv, vs_w, vs_i, vs_l, lA21, lB21, lA20, lB20, isI, asI1, kxb, g, decide_false, bnt, bnf, bot, bto, Bool.or_self, ka, if_true, bft, if_false]
 rcases kvn hs (numA s (numA s (tQ s)).2).1.toNat (by omega) q2 hq2 false (tP s) false 0 0 0 0 (vD (tP s)).1 (vD (tP s)).1 (numA s (tQ s)).1 (numA s (tQ s)).1 (vD (tP s)).2 _ _ (some (zD, [])) (fun _ _ _ _ _ _ _ => rfl) (SV.undef, SV.undef, SV.undef) with ⟨f1, f2⟩ | ⟨q4, f1, a, b, c, d, f2⟩
 ·rw [hn] at f2
  exact Eq.trans f2 (no (badN (by rw [hnts]; exact f1)))
 rw [hn] at f2
 refine Eq.trans f2 ?_
 rw [← hnts] at f1 ⊢
 have hN := kig hB
 have hB4 : inB s (some q4) := by rw [← f1]; exact hN.1.b
 have hq4 : q4 ≤ s.size := hB4 q4 rfl
 have hmr4 := kwc s _ hB4
 rcases kmd hs 1 (by omega) hB4 with ⟨e5, L, hv5⟩ | ⟨q5, e5, hq5, hv5⟩
 ·have hv5 : t78 s (q4 : Int) 1 = _ := hv5
  refine Eq.trans ?_ (no (bad ?_))
  ·simp only [hv5, vs_w, vs_i, kkc, bnt, bnf, bot, bto, ka, if_true]; rfl
  ·have e5 : (numA s (some q4)).2 = none := e5
   have : (kh s (some q4) 3).2 = none := by unfold kh; split <;> first | rfl | exact e5
   unfold sssA; rw [f1, this]; exact kvb (khc s) _ _ rfl
 have hv5 : t78 s (q4 : Int) 1 = some ([.one (.l [[D.i .i64 (numA s (some q4)).1]]), .one (.i .i64 (q5 : Int))], []) := hv5
 have e5 : (numA s (some q4)).2 = some q5 := e5
 by_cases g5 : (numA s (some q4)).1 > 3
 ·refine Eq.trans ?_ (no (bad ?_))
  ·simp only [hv5, vs_w, vs_i, vs_l, lA10, lB10, isI, asI1, kxb, g5, decide_true, bnt, bnf, bot, bto, ka, if_true]; rfl
  ·unfold sssA; rw [f1, kzg g5]; exact kvb (khc s) _ _ rfl
 have hm5 := kqg g5
 have hn5 : ((numA s (some q4)).1.toNat : Int) = (numA s (some q4)).1 := Int.toNat_of_nonneg hmr4.1
 have hsss : sssA s (tQ s) = itN (kq s) (numA s (some q4)).1.toNat ([], some q5) := by unfold sssA; rw [f1, hm5, e5]
 simp only [hv5, vs_w, vs_i, vs_l, lA10, lB10, isI, asI1, kxb, g5, decide_false, bnt, bnf, bot, bto, Bool.or_self, ka, if_true, bft, if_false]
 have hS := kjl hs hB
 obtain ⟨o1, o2, o3, o4⟩ := kvg hsP (kdc (tP s))
 have hvt : (vD (tP s)).2.length ≤ 1048576 ∧ (∀ r ∈ (vD (tP s)).2, typL ke r) ∧ (∀ r ∈ (vD (tP s)).2, szdL ke r) := by
  unfold vD; split
  ·exact ⟨by omega, o3, o4⟩
  ·exact ⟨by simp, by simp, by simp⟩
 rcases kln hs (numA s (some q4)).1.toNat (by omega) q5 hq5 false (tP s) a false c false 0 0 0 0 (vD (tP s)).1 (vD (tP s)).1 (numA s (tQ s)).1 [[D.i .i64 (numA s (tQ s)).1], [D.i .i64 (numA s (numA s (tQ s)).2).1]] (vD (tP s)).2 (ntsA s (tQ s)).1 _ _ (some (zD, [])) (fun l0 => chk (okR zr30 zo30 (t30 (vD (tP s)).1 (vD (tP s)).2 (numA s (tQ s)).1 (ntsA s (tQ s)).1 l0)) <|
    if (!((asS (resC (t30 (vD (tP s)).1 (vD (tP s)).2 (numA s (tQ s)).1 (ntsA s (tQ s)).1 l0) 0 0)).toList == s.toList)) = true then some (zD, []) else some ([.agg [.i .i64 (vD (tP s)).1, .l (vD (tP s)).2, .i .i64 (numA s (tQ s)).1, .l (ntsA s (tQ s)).1, .l l0], .one (.b true)], [])) (fun _ _ _ _ _ _ _ _ _ _ _ _ _ => rfl) (fun _ _ _ _ _ _ _ _ _ _ => rfl) (b, SV.undef, SV.undef, SV.undef, d, SV.undef, SV.undef) with ⟨f6, f7⟩ | ⟨q, f6, f7⟩
 ·rw [hn5] at f7
  exact Eq.trans f7 (no (bad (by rw [hsss]; exact f6)))
 rw [hn5] at f7
 refine Eq.trans f7 ?_
 rw [← hsss] at f6 ⊢
 have hst := kkg (vD (tP s)).1 (vD (tP s)).2 (numA s (tQ s)).1 (ntsA s (tQ s)).1 (sssA s (tQ s)).1 hvt.1 hvt.2.1 hvt.2.2 (by omega) (fun r hr => (hN.1.t r hr).1) (by omega) (fun r hr => (hS.1.t r hr).1)
 simp only [hst, gz54, fs, ka]
 cases hvB : vB (tP s) with
 | false =>
  have hd : vD (tP s) = (0, []) := by unfold vD; rw [hvB]; rfl
  have : tB s = false := by
   unfold tB tenB
   have hx : (tG s && volB (tV s).1.1 (tV s).1.2) = false := hvB
   cases hg : tG s with
   | false => simp
   | true => rw [hg, bta] at hx; rw [hx]; simp
  rw [hd, kep, ← no this]
  simp only [hs0, bft, if_false, bnf, if_true]
 | true =>
  have hd : vD (tP s) = (tV s).1 := by unfold vD; rw [hvB]; rfl
  have hx : (tG s && volB (tV s).1.1 (tV s).1.2) = true := hvB
  rw [Bool.and_eq_true] at hx
  obtain ⟨hq0, hq1, hback⟩ := kdk hs hx.1 f6
  rw [hd]
  cases ht9 : tenB (tV s).1.1 (tV s).1.2 (numA s (tQ s)).1 (ntsA s (tQ s)).1 (sssA s (tQ s)).1 with
  | false =>
   have : tB s = false := by unfold tB; rw [ht9, Bool.and_false]
   rw [← no this]
   simp only [hs0, bft, if_false, bnf, if_true]
  | true =>
   simp only [if_true]
   rw [← hback]
   by_cases hq : q = s.size
   ·have hy : ((s.extract 0 q).toList == s.toList) = true := (kfe _ _).2 ((kwe s q hq1).2 hq)
    have : tB s = true := by unfold tB; rw [hx.1, ht9, f6, hq]; simp
    unfold tD
    simp only [hy, this, bnt, bft, if_false, if_true]
   ·have hy : ((s.extract 0 q).toList == s.toList) = false := by
     rw [Bool.eq_false_iff]; intro h; exact hq ((kwe s q hq1).1 (kvh _ _ h))
    have : tB s = false := by unfold tB; rw [f6]; simp [hq]
    rw [← no this]
    simp only [hy, bnf, if_true]
noncomputable def tRow (d : BA) : List D := [.i .i64 (tV d).1.1, .l (tV d).1.2, .i .i64 (numA d (tQ d)).1, .l (ntsA d (tQ d)).1, .l (sssA d (tQ d)).1]
noncomputable def kr (s : BA) (x : LO) : LO := (x.1 ++ [tRow (kb s x.2).1], if tB (kb s x.2).1 then (kb s x.2).2 else none)
theorem kuo : tB ⟨#[]⟩ = false := by
 have h0 : (⟨#[]⟩ : BA).size = 0 := rfl
 have : tQ ⟨#[]⟩ = none := by
  unfold tQ
  cases h : (kb ⟨#[]⟩ oz).2 with
  | none => rfl
  | some q =>
   obtain ⟨p, -, a, b, -⟩ := kzc _ _ (kdc _) q h
   omega
 unfold tB
 rw [this, kbk]
 simp
theorem kmf (s : BA) : ∀ x : LO, x.2 = none → (kr s x).2 = none := by
 intro x e; unfold kr; rw [e, kre, kuo]; rfl
theorem kye (s : BA) (x : LO) : (kr s x).1.length = x.1.length + 1 := by simp [kr]
theorem klp {d : BA} (hs : d.size ≤ 1048576) : typL km (tRow d) ∧ szdL km (tRow d) := by
 have hsP : (tP d).size ≤ 1048576 := by have := kah d; omega
 obtain ⟨o1, o2, o3, o4⟩ := kvg hsP (kdc (tP d))
 have hN := kig (kpf d)
 have hS := kjl hs (kpf d)
 have hx : 1048576 ≤ maxLen := by decide
 have hB := kdc (tP d)
 have o2' : (tV d).1.2.length ≤ 24 := o2
 exact ⟨⟨_, _, rfl, ⟨_, rfl, kob _ (kwc (tP d) oz hB)⟩, _, _, rfl, ⟨_, rfl, by omega, o3⟩, _, _, rfl, ⟨_, rfl, kob _ (kwc d _ (kpf d))⟩, _, _, rfl, ⟨_, rfl, by omega, fun r hr => (hN.1.t r hr).1⟩, _, _, rfl, ⟨_, rfl, by omega, fun r hr => (hS.1.t r hr).1⟩, rfl⟩,
  trivial, ⟨by show (tV d).1.2.length ≤ 1048576; omega, o4⟩, trivial, ⟨by show (ntsA d (tQ d)).1.length ≤ 1048576; omega, fun r hr => (hN.1.t r hr).2⟩, ⟨by show (sssA d (tQ d)).1.length ≤ 1048576; omega, fun r hr => (hS.1.t r hr).2⟩, trivial⟩
theorem kjf {s : BA} (hs : s.size ≤ 1048576) : ∀ x : LO, OkR km s x → OkR km s (kr s x) := by
 intro x h
 have hz := koc s _ h.b
 obtain ⟨h1, h2⟩ := klp (d := (kb s x.2).1) (by omega)
 refine h.step ?_ h1 h2
 split
 ·exact kpc s _ h.b
 ·intro p hp; cases hp
theorem khm {d : BA} (hs : d.size ≤ 1048576) (h : tB d = true) : rowT (tRow d) = true ∧ rowS (tRow d) = ksb d := by
 simp only [tB, Bool.and_eq_true, decide_eq_true_eq] at h
 obtain ⟨-, -, hb⟩ := kdk hs h.1.1 h.1.2
 rw [ktd] at hb
 refine ⟨h.2, ?_⟩
 show ksb (tenT _ _ _ _ _) = ksb d
 exact congrArg ksb hb.symm
theorem kjm {s : BA} (hs : s.size ≤ 1048576) : ∀ k, kad rowS s oz (itN (kr s) k ([], oz)) ∧ ∀ q, (itN (kr s) k ([], oz)).2 = some q → ∀ r ∈ (itN (kr s) k ([], oz)).1, rowT r = true
 | 0 => ⟨kad.nil (kdc s), by intro q _ r hr; cases hr⟩
 | k + 1 => by
  obtain ⟨h1, h2⟩ := kjm hs k
  have hB := (klc (P := OkR km s) (kjf hs) k _ (OkR.nil (kdc s))).b
  have hz := koc s _ hB
  have key : ∀ q, (kr s (itN (kr s) k ([], oz))).2 = some q → tB (kb s (itN (kr s) k ([], oz)).2).1 = true ∧ (kb s (itN (kr s) k ([], oz)).2).2 = some q := by
   intro q e
   have e : (if tB (kb s (itN (kr s) k ([], oz)).2).1 = true then (kb s (itN (kr s) k ([], oz)).2).2 else none) = some q := e
   cases g : tB (kb s (itN (kr s) k ([], oz)).2).1 with
   | false => rw [g] at e; simp at e
   | true => rw [g] at e; simp only [if_true] at e; exact ⟨rfl, e⟩
  refine ⟨h1.step ?_, ?_⟩
  ·intro q e
   obtain ⟨g, e⟩ := key q e
   obtain ⟨p, e0, a, b, c⟩ := kzc s _ hB q e
   exact ⟨p, e0, by omega, b, by rw [(khm (by omega) g).2]; exact c⟩
  ·intro q e r hr
   obtain ⟨g, e'⟩ := key q e
   obtain ⟨p, e0, -⟩ := kzc s _ hB q e'
   rcases List.mem_append.1 hr with hr | hr
   ·exact h2 p e0 r hr
   ·simp only [List.mem_singleton] at hr; subst hr; exact (khm (by omega) g).1
noncomputable def sX (s : BA) : LO := itN (kr s) 3 ([], oz)
noncomputable def sD (s : BA) : List DV := if (sX s).2 = some s.size then [.one (.l (sX s).1), .one (.b true)] else [.one (.l []), .one (.b false)]
theorem knl {s : BA} (h : (sX s).2 = none) : (some ([.one (.l []), .one (.b false)], []) : Rs) = some (sD s, []) := by unfold sD; rw [h, if_neg (by simp)]
theorem sr_w (a b c d e t) : okR zr36 zo36 (some ([.agg [.i .i64 a, .l b, .i .i64 c, .l d, .l e], .one (.b t)], [])) = true := id rfl
theorem ir_w (a b c d e t) : okR zr37 zo37 (some ([.agg [.i .i64 a, .l b, .i .i64 c, .l d, .l e], .one (.b t)], [])) = true := id rfl
theorem sr_0 (a b c d e t) : asI (resC (some ([.agg [.i .i64 a, .l b, .i .i64 c, .l d, .l e], .one (.b t)], [])) 0 0) = a := id rfl
theorem sr_1 (a b c d e t) : asL (resC (some ([.agg [.i .i64 a, .l b, .i .i64 c, .l d, .l e], .one (.b t)], [])) 0 1) = b := id rfl
theorem sr_2 (a b c d e t) : asI (resC (some ([.agg [.i .i64 a, .l b, .i .i64 c, .l d, .l e], .one (.b t)], [])) 0 2) = c := id rfl
theorem sr_3 (a b c d e t) : asL (resC (some ([.agg [.i .i64 a, .l b, .i .i64 c, .l d, .l e], .one (.b t)], [])) 0 3) = d := id rfl
theorem sr_4 (a b c d e t) : asL (resC (some ([.agg [.i .i64 a, .l b, .i .i64 c, .l d, .l e], .one (.b t)], [])) 0 4) = e := id rfl
theorem sr_b (a b c d e t) : asB (resC (some ([.agg [.i .i64 a, .l b, .i .i64 c, .l d, .l e], .one (.b t)], [])) 1 0) = t := id rfl
theorem kdp {d : BA} (h : tB d = false) : tD d = [.agg [.i .i64 0, .l [], .i .i64 0, .l [], .l []], .one (.b false)] := by unfold tD; rw [h]; rfl
theorem kwn {d : BA} (h : tB d = true) : tD d = [.agg [.i .i64 (tV d).1.1, .l (tV d).1.2, .i .i64 (numA d (tQ d)).1, .l (ntsA d (tQ d)).1, .l (sssA d (tQ d)).1], .one (.b true)] := by unfold tD; rw [h]; rfl
theorem kbp {i : Nat} : decide ((i : Int) < 3) = decide (i < 3) := by rw [Bool.eq_iff_iff]; simp; omega
theorem kll (s : BA) (hs : s.size ≤ 1048576) : t39 s = some (sD s, []) := by
  refine kgb (α := BA × Bool × Rw) (σ := SV × SV × SV) (fun m i x v => la39o0 t37 t82 s false (fun (b2 : Bool) (n0 : Int) (b3 : Bool) (b4 : Bool) (n1 : Int) (n2 : Int) (s1 : BA) (b5 : Bool) (l1 : Rw) (l2 : Rw) (l3 : Rw) (l4 : Rw) =>
    some ([.one (.l ([] : Rw)), .one (.b false)], []))
   (fun (v0 : SV) (n3 : Int) (b6 : Bool) (v1 : SV) (s0 : BA) (b0 : Bool) (l0 : Rw) =>
    if (b0 || (!(s0.toList == (⟨#[]⟩ : BA).toList))) = true then
     some ([.one (.l ([] : Rw)), .one (.b false)], [])
    else
     some ([.one (.l l0), .one (.b true)], [])) m v.1 (i : Int) v.2.1 v.2.2 x.1 x.2.1 x.2.2) 3 (fun i x => x.2.2 = (itN (kr s) i ([], oz)).1 ∧ St s (itN (kr s) i ([], oz)).2 x.1 x.2.1) (fun y => y = some (sD s, []))
    ?_ ?_ 3 0 KK (s, false, []) (SV.undef, SV.undef, SV.undef) (by omega) (by rw [kj]; omega) ⟨rfl, kan s⟩
  · intro m x v hp
    have e3 : decide (((3 : Nat) : Int) < 3) = false := rfl
    simp only [la39o0, e3, bft, if_false, ksm hp.2, hp.1]
    unfold sD sX
    by_cases h : (itN (kr s) 3 ([], oz)).2 = some s.size
    · rw [decide_eq_true h, if_pos h]; rfl
    · rw [decide_eq_false h, if_neg h]; rfl
  · intro i m x v hi hp
    have e3 : decide ((i : Int) < 3) = true := by rw [kbp]; exact decide_eq_true hi
    have hB := kcf hp.2
    have hz := koc s _ hB
    obtain ⟨r1, b1, e1, h1⟩ := kid s _ _ _ hp.2
    have ht := kfl (kb s (itN (kr s) i ([], oz)).2).1 (by omega)
    have hl := kjb (kye s) i ([], oz)
    have hl : x.2.2.length = i := by rw [hp.1, hl]; simp
    cases g : tB (kb s (itN (kr s) i ([], oz)).2).1 with
    | false =>
      right
      rw [kdp g] at ht
      simp only [la39o0, e3, e1, kyg, fs, ht, ir_w, sr_b, bnf, ka, if_true]
      exact knl (ksd (kmf s) hi (by show (if tB (kb s (itN (kr s) i ([], oz)).2).1 = true then (kb s (itN (kr s) i ([], oz)).2).2 else none) = none; rw [g]; rfl))
    | true =>
      left
      rw [kwn g] at ht
      simp only [la39o0, e3, e1, kyg, fs, fo1, fo2, ht, ir_w, sr_b, sr_0, sr_1, sr_2, sr_3, sr_4, bnt, kcd, hl, lim1 (show i ≤ 1000 by omega), bat, ka, if_true, bft, if_false, kc i (by omega)]
      refine ⟨(r1, b1, _), (_, _, _), rfl, by rw [hp.1]; rfl, ?_⟩
      show St s (if tB (kb s (itN (kr s) i ([], oz)).2).1 then (kb s (itN (kr s) i ([], oz)).2).2 else none) r1 b1
      rw [g]; exact h1
theorem gz90 : ∀ x, okR zr32 zo32 (some ([.one (.s x)], [])) = true := fun _ => id rfl
theorem klk (s : BA) (hs : s.size ≤ 1048576) : t38 s = some (sD s, []) := by
  have hX := klc (P := OkR km s) (kjf hs) 3 _ (OkR.nil (kdc s))
  have hbk := kjm hs 3
  have hl3 := kjb (kye s) 3 ([], oz)
  have hl3 : (itN (kr s) 3 ([], oz)).1.length = 3 := by simpa using hl3
  have hsh := khl (itN (kr s) 3 ([], oz)).1 (by omega) (fun r hr => (hX.t r hr).1) (fun r hr => (hX.t r hr).2)
  refine kgb (α := Nat × Rw) (σ := SV × SV × SV × SV × SV) (fun m i x v => la38o0 t32 t36 t77 s false (fun (n1 : Int) (n2 : Int) (s0 : BA) (n3 : Int) (b0 : Bool) (b1 : Bool) (b2 : Bool) (n4 : Int) (n5 : Int) (l2 : Rw) (l1 : Rw) (l3 : Rw) (l4 : Rw) (l5 : Rw) =>
    some ([.one (.l l1), .one (.b false)], []))
   (fun (n0 : Int) (n6 : Int) (v0 : SV) (v1 : SV) (v2 : SV) (b3 : Bool) (v3 : SV) (l0 : Rw) =>
    chk ((okR zr32 zo32 (t32 l0)) || !(!(n0 != (s.size : Int)))) <|
    if ((n0 != (s.size : Int)) || (!((asS (resC (t32 l0) 0 0)).toList == s.toList))) = true then
     some ([.one (.l ([] : Rw)), .one (.b false)], [])
    else
     some ([.one (.l l0), .one (.b true)], [])) m (x.1 : Int) (i : Int) v.1 v.2.1 v.2.2.1 v.2.2.2.1 v.2.2.2.2 x.2) 3 (fun i x => itN (kr s) i ([], oz) = (x.2, some x.1)) (fun y => y = some (sD s, []))
    ?_ ?_ 3 0 KK (0, []) (SV.undef, SV.undef, SV.undef, SV.undef, SV.undef) (by omega) (by rw [kj]; omega) (by rw [kif]; rfl)
  · intro m x v hp
    have e3 : decide (((3 : Nat) : Int) < 3) = false := rfl
    have hx1 : x.2 = (itN (kr s) 3 ([], oz)).1 := by rw [hp]
    have hx2 : (itN (kr s) 3 ([], oz)).2 = some x.1 := by rw [hp]
    have hrow : ∀ r ∈ (itN (kr s) 3 ([], oz)).1, rowT r = true := hbk.2 _ hx2
    have hst : staB (itN (kr s) 3 ([], oz)).1 = true := by
      unfold staB
      rw [Bool.and_eq_true, decide_eq_true_eq]
      exact ⟨by omega, (kwb _ _).2 fun j _ hj => hrow _ (knb (by omega))⟩
    rw [hst] at hsh
    simp only [if_true] at hsh
    obtain ⟨p, ep, a1, a2, a3⟩ := hbk.1 _ hx2
    rw [kif] at ep; cases ep
    rw [← a3] at hsh
    simp only [la38o0, e3, bft, if_false, hx1, hsh, gz90, fs, bto, ka]
    unfold sD sX
    rw [hx2]
    by_cases h : x.1 = s.size
    · have e1 : ((x.1 : Int) != (s.size : Int)) = false := by rw [h]; simp
      have e2 : ((s.extract 0 x.1).toList == s.toList) = true := (kfe _ _).2 ((kwe s _ a2).2 h)
      rw [e1, e2, if_pos (show some x.1 = some s.size by rw [h])]; rfl
    · have e1 : ((x.1 : Int) != (s.size : Int)) = true := by simp; omega
      rw [e1, if_neg (show ¬ some x.1 = some s.size by simpa using h)]; rfl
  · intro i m x v hi hp
    have e3 : decide ((i : Int) < 3) = true := by rw [kbp]; exact decide_eq_true hi
    have hB := (klc (P := OkR km s) (kjf hs) i _ (OkR.nil (kdc s))).b
    rw [hp] at hB
    have hz : (kb s (some x.1)).1.size ≤ s.size := koc s _ hB
    have hta := kbf hs hB
    rw [ked] at hta
    have ht := kpl (kb s (some x.1)).1 (by omega)
    have hl := kjb (kye s) i ([], oz)
    rw [hp] at hl
    have hl : x.2.length = i := by simpa using hl
    have hst : kr s (itN (kr s) i ([], oz)) = (x.2 ++ [tRow (kb s (some x.1)).1], if tB (kb s (some x.1)).1 then (kb s (some x.1)).2 else none) := by rw [hp]; rfl
    cases g : tB (kb s (some x.1)).1 with
    | false =>
      right
      rw [kdp g] at ht
      simp only [la38o0, e3, hta, ta_w, ta_s, ta_i, ht, sr_w, sr_b, bnf, bot, ka, if_true]
      exact knl (ksd (kmf s) hi (by rw [hst, g]; rfl))
    | true =>
      rw [kwn g] at ht
      cases e2 : (kb s (some x.1)).2 with
      | none =>
        right
        rw [e2, krf] at hta
        simp only [la38o0, e3, hta, ta_w, ta_s, ta_i, ht, sr_w, sr_b, kkc, bto, ka, if_true]
        exact knl (ksd (kmf s) hi (by rw [hst, e2]; split <;> rfl))
      | some q =>
        left
        rw [e2, ked] at hta
        simp only [la38o0, e3, hta, ta_w, ta_s, ta_i, ht, sr_w, sr_b, sr_0, sr_1, sr_2, sr_3, sr_4, kxb, bnt, Bool.or_self, kcd, hl, lim1 (show i ≤ 1000 by omega), bat, ka, if_true, bft, if_false, kc i (by omega)]
        refine ⟨(q, _), (_, _, _, _, _), rfl, ?_⟩
        show kr s (itN (kr s) i ([], oz)) = _
        rw [hst, g, e2]; rfl
theorem kxi (x1 : BA) (w1 : x1.size ≤ 1048576) :
  ∃ (r1 : Rw) (r2 : Bool), t38 x1 = some ([.one (.l r1), .one (.b r2)], []) ∧ t39 x1 = some ([.one (.l r1), .one (.b r2)], []) ∧ r1.length ≤ 1048576 ∧ (∀ r ∈ r1, typL km r) ∧ (∀ r ∈ r1, szdL km r) ∧ True := by
 rw [klk x1 w1, kll x1 w1]
 have hX := klc (P := OkR km x1) (kjf w1) 3 _ (OkR.nil (kdc x1))
 have hl3 := kjb (kye x1) 3 ([], oz)
 unfold sD sX
 split
 ·exact ⟨_, true, rfl, rfl, by rw [hl3]; simp, fun r hr => (hX.t r hr).1, fun r hr => (hX.t r hr).2, trivial⟩
 ·exact ⟨[], false, rfl, rfl, by simp, by simp, by simp, trivial⟩
theorem law11 (x1 : BA) (wx1 : x1.size ≤ maxLen) : t11 x1 = some ([.one (.b true)], []) := by
 by_cases n1 : (x1.size : Int) > 1048576
 ·simp only [t11, ta11, n1, zr19, zo19, zr20, zo20, zr21, zo21, zr38, zo38, zr39, zo39, okR, isVs, isV, isD, isDs, isOs, resC, outC, nthR, nthO, cellsDV, nthD, asB, asI, asS, asL, bat, bta, bto, BEq.rfl, ka, bne_self_eq_false, bnt, bnf, Bool.or_self, Bool.or_false, Bool.false_or, decide_true, decide_false, bft, if_false, if_true]
 have sx1 : x1.size ≤ 1048576 := by omega
 obtain ⟨r1, r2, k1, k2, qr1, tr1, szr1, _⟩ := kxi x1 sx1
 have br1 := kag r1 tr1 szr1
 have nr1 := kyd r1
 have f1 := kqi r1 tr1 szr1 (by omega) (1) (by omega) (by omega)
 have f2 : decide (1 + kn r1 < 0) = false := decide_eq_false (by omega)
 have f3 := kti r1 tr1 szr1 (by omega) (1) (by omega) (by omega)
 have f4 : decide (1 + kn r1 < 0) = false := decide_eq_false (by omega)
 simp only [t11, ta11, n1, k1, k2, kki r1 qr1 tr1 szr1, f1, f2, f3, f4, zr19, zo19, zr20, zo20, zr21, zo21, zr38, zo38, zr39, zo39, okR, isVs, isV, isD, isDs, isOs, resC, outC, nthR, nthO, cellsDV, nthD, asB, asI, asS, asL, bat, bta, bto, BEq.rfl, ka, bne_self_eq_false, bnt, bnf, Bool.or_self, Bool.or_false, Bool.false_or, decide_true, decide_false, bft, if_false, if_true]
end Go.Den.L11
