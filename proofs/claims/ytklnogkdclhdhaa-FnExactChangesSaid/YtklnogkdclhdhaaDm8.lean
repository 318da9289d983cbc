/- The evaluator of Go code over plain data, and its soundness: part 8 of 8. -/
import Derived.Test.YtklnogkdclhdhaaDm7
set_option linter.unusedVariables false
set_option linter.unusedSimpArgs false
/- The evaluator once more, with what follows behind it: loops and pieces are told by what they come to. -/
namespace Go.Den
open Go
section
variable {β : Type} (C : Ctx)
def runOpsK (ops : Array Oper) : List Oper → St → (St → Option β) → Option β
  | [], st, K => K { st with l := [] }
  | o :: os, st, K => match guardOf ops st o.guard with
    | some (p, c) => (match light C st p o.op with
      | some (ok, v) => if okP p c ok then runOpsK ops os (pt C st p c o.dst v) K else none
      | none => (match p with
        | [] => (match heavy C st (o.dst.getD 0) o.op with
          | some (ok, v, st1) => if ok then runOpsK ops os (pt C st1 [] true o.dst v) K else none
          | none => none)
        | q :: p => if c then (match heavy C (atP (q :: p) st) (o.dst.getD 0) o.op with
          | some (ok, v, st1) => if ok then runOpsK ops os (pt C st1 [] true o.dst v) K else none
          | none => none) else runOpsK ops os (pt C st (q :: p) false o.dst .undef) K))
    | none => none
def runPreK (ops : Array Oper) : List Oper → St → (St → Option β) → Option β
  | [], st, K => K st
  | o :: os, st, K => match guardOf ops st o.guard with
    | some (p, c) => (match light C st p o.op with
      | some (ok, v) => if okP p c ok then runPreK ops os (pt C st p c o.dst v) K else none
      | none => (match p with
        | [] => (match heavy C st (o.dst.getD 0) o.op with
          | some (ok, v, st1) => if ok then runPreK ops os (pt C st1 [] true o.dst v) K else none
          | none => none)
        | q :: p => if c then (match heavy C (atP (q :: p) st) (o.dst.getD 0) o.op with
          | some (ok, v, st1) => if ok then runPreK ops os (pt C st1 [] true o.dst v) K else none
          | none => none) else runPreK ops os (pt C st (q :: p) false o.dst .undef) K))
    | none => none
def runRegK (ops : Array Oper) (st : St) (K : St → Option β) : Option β :=
  match nestOf C.sig ops.toList with
  | none => runOpsK C ops ops.toList st K
  | some (pre, o1, o2, o3, post) => runPreK C ops pre st fun st1 => if nestRp C st1 o1 then (match nest3 C st1 o1 o2 o3 with
    | some (ok, st2) => if ok then runOpsK C ops post st2 K else none
    | none => none) else runOpsK C ops (o1 :: o2 :: o3 :: post) st1 K
def stepK (ops : Array Oper) (o : Oper) (k : Nat) (st : St) (K : St → Option β) : Option β :=
  match guardOf ops st o.guard with
  | some (p, c) => (match k with
    | 0 => (match light C st p o.op with
      | some (ok, v) => if okP p c ok then K (pt C st p c o.dst v) else none
      | none => (match p with | [] => none | q :: p => if c then none else K (pt C st (q :: p) false o.dst .undef)))
    | _ => (match p with
      | [] => (match light C st [] o.op with
        | some (ok, v) => if ok then K (pt C st [] true o.dst v) else none
        | none => (match heavy C st (o.dst.getD 0) o.op with
          | some (ok, v, st1) => if ok then K (pt C st1 [] true o.dst v) else none
          | none => none))
      | q :: p => if c then (match heavy C (atP (q :: p) st) (o.dst.getD 0) o.op with
        | some (ok, v, st1) => if ok then K (pt C ⟨st1.m, zipL st.l st1.l, st1.h⟩ (q :: p) true o.dst v) else none
        | none => none) else K (pt C st (q :: p) false o.dst .undef)))
  | none => none
def runDrawK (ops : Array Oper) : List (Nat × Nat × List Nat) → St → (St → Option β) → Option β
  | [], st, K => K { st with l := [] }
  | (i, k, js) :: r, st, K => match ops[i]? with
    | some o => if frames C ops st (hitsOf hits C ops st o) (hitsOf hitsB C ops st o) js then stepK C ops o k st (fun st1 => runDrawK ops r st1 K) else none
    | none => none
/-- Conditions and loops, counted. -/
def nn : Code → Nat
  | .seq a b => nn a + nn b
  | .cond _ a b => nn a + nn b + 1
  | .block _ a => nn a
  | .loop a => nn a + 1
  | _ => 0
def nodeAt : Code → Nat → Option Code
  | .seq a b, j => if j < nn a then nodeAt a j else nodeAt b (j - nn a)
  | .cond c a b, j => if j = 0 then some (.cond c a b) else if j - 1 < nn a then nodeAt a (j - 1) else nodeAt b (j - 1 - nn a)
  | .block _ a, j => nodeAt a j
  | .loop a, j => if j = 0 then some (.loop a) else nodeAt a (j - 1)
  | _, _ => none
abbrev Cont (β : Type) := Ex → St → Option β
def seqK (K : Cont β) (b : St → Option β) : Cont β := fun e st => match e with | .normal => b st | .exit j => K (.exit j) st | .ret => K .ret st
def blockK (id : Nat) (K : Cont β) : Cont β := fun e st => match e with | .normal => K .normal st | .exit j => if j = id then K .normal st else K (.exit j) st | .ret => K .ret st
def denK (S : Nat → Option (St → Cont β → Option β)) : Code → Nat → St → Cont β → Option β
  | .skip, _, st, K => K .normal st
  | .region i ops d, _, st, K => if d then runDrawK C ops (lkO C.ord i) st (fun x => K .normal (endS C i x)) else runRegK C ops st (fun x => K .normal (endS C i x))
  | .seq a b, o, st, K => denK S a o st (seqK K fun st1 => denK S b (o + nn a) st1 K)
  | .cond c a b, o, st, K => (match S o with
    | some s => s st K
    | none => (match ev C st [] c with | .d (.b x) => if x then denK S a (o + 1) st K else denK S b (o + 1 + nn a) st K | _ => none))
  | .block id a, o, st, K => denK S a o st (blockK id K)
  | .loop _, o, st, K => (match S o with | some s => s st K | none => none)
  | .exit id, _, st, K => K (.exit id) st
  | .ret, _, st, K => K .ret st
  | _, _, _, _ => none

def Le (x y : Option β) : Prop := ∀ r, x = some r → y = some r
theorem Le.refl (x : Option β) : Le x x := fun _ h => h
theorem Le.trans {x y z : Option β} (A : Le x y) (B : Le y z) : Le x z := fun r h => B r (A r h)
theorem Le.none (y : Option β) : Le none y := fun r h => by cases h
theorem Le.bind {α : Type} {o : Option α} {f g : α → Option β} (h : ∀ a, Le (f a) (g a)) : Le (o.bind f) (o.bind g) := fun r hr => by
  cases o with
  | none => cases hr
  | some a => exact h a r hr
variable {C}
theorem runOpsK_eq {ops : Array Oper} {K : St → Option β} : ∀ {os : List Oper} {st : St}, runOpsK C ops os st K = (runOps C ops os st).bind K
  | [], st => rfl
  | o :: os, st => by
    have ih : ∀ {ok : Bool} {x : St}, (if ok = true then runOpsK C ops os x K else none) = (if ok = true then runOps C ops os x else none).bind K := fun {ok x} => by
      cases ok with
      | true => exact runOpsK_eq
      | false => rfl
    have hv : ∀ {y : Option (Bool × SV × St)}, (match y with | some (ok, v, st1) => if ok = true then runOpsK C ops os (pt C st1 [] true o.dst v) K else none | none => none) =
        (match y with | some (ok, v, st1) => if ok = true then runOps C ops os (pt C st1 [] true o.dst v) else none | none => none).bind K := fun {y} => by
      cases y with
      | none => rfl
      | some q => obtain ⟨ok, v, st1⟩ := q; exact ih
    simp only [runOpsK, runOps]
    cases guardOf ops st o.guard with
    | none => rfl
    | some pc =>
      obtain ⟨p, c⟩ := pc
      dsimp only
      cases light C st p o.op with
      | some q => obtain ⟨ok, v⟩ := q; exact ih
      | none =>
        dsimp only
        cases p with
        | nil => exact hv
        | cons q p =>
          dsimp only
          cases c with
          | true => exact hv
          | false => exact runOpsK_eq
theorem runPreK_eq {ops : Array Oper} {K : St → Option β} : ∀ {os : List Oper} {st : St}, runPreK C ops os st K = (runPre C ops os st).bind K
  | [], st => rfl
  | o :: os, st => by
    have ih : ∀ {ok : Bool} {x : St}, (if ok = true then runPreK C ops os x K else none) = (if ok = true then runPre C ops os x else none).bind K := fun {ok x} => by
      cases ok with
      | true => exact runPreK_eq
      | false => rfl
    have hv : ∀ {y : Option (Bool × SV × St)}, (match y with | some (ok, v, st1) => if ok = true then runPreK C ops os (pt C st1 [] true o.dst v) K else none | none => none) =
        (match y with | some (ok, v, st1) => if ok = true then runPre C ops os (pt C st1 [] true o.dst v) else none | none => none).bind K := fun {y} => by
      cases y with
      | none => rfl
      | some q => obtain ⟨ok, v, st1⟩ := q; exact ih
    simp only [runPreK, runPre]
    cases guardOf ops st o.guard with
    | none => rfl
    | some pc =>
      obtain ⟨p, c⟩ := pc
      dsimp only
      cases light C st p o.op with
      | some q => obtain ⟨ok, v⟩ := q; exact ih
      | none =>
        dsimp only
        cases p with
        | nil => exact hv
        | cons q p =>
          dsimp only
          cases c with
          | true => exact hv
          | false => exact runPreK_eq
theorem runRegK_eq {ops : Array Oper} {st : St} {K : St → Option β} : runRegK C ops st K = (runReg C ops st).bind K := by
  unfold runRegK runReg
  cases nestOf C.sig ops.toList with
  | none => exact runOpsK_eq
  | some q =>
    obtain ⟨pre, o1, o2, o3, post⟩ := q
    dsimp only
    rw [runPreK_eq]
    cases runPre C ops pre st with
    | none => rfl
    | some st1 =>
      simp only [Option.bind_some]
      cases nestRp C st1 o1 with
      | false => simp only [Bool.false_eq_true, if_false]; exact runOpsK_eq
      | true =>
        simp only [if_true]
        cases nest3 C st1 o1 o2 o3 with
        | none => rfl
        | some q =>
          obtain ⟨ok, st2⟩ := q
          cases ok with
          | true => exact runOpsK_eq
          | false => rfl
theorem stepK_eq {ops : Array Oper} {o : Oper} {k : Nat} {st : St} {K : St → Option β} : stepK C ops o k st K = (stepD C ops o k st).bind K := by
  have ih : ∀ {ok : Bool} {x : St}, (if ok = true then K x else none) = (if ok = true then some x else none).bind K := fun {ok x} => by
    cases ok <;> rfl
  unfold stepK stepD
  cases guardOf ops st o.guard with
  | none => rfl
  | some pc =>
    obtain ⟨p, c⟩ := pc
    dsimp only
    cases k with
    | zero =>
      cases light C st p o.op with
      | none => cases p with
        | nil => rfl
        | cons q p => cases c <;> rfl
      | some q => obtain ⟨ok, v⟩ := q; exact ih
    | succ k =>
      cases p with
      | cons q p =>
        dsimp only
        cases c with
        | false => rfl
        | true =>
          simp only [if_true]
          cases heavy C (atP (q :: p) st) (o.dst.getD 0) o.op with
          | none => rfl
          | some z => obtain ⟨ok, v, st1⟩ := z; exact ih
      | nil =>
        dsimp only
        cases light C st [] o.op with
        | some q => obtain ⟨ok, v⟩ := q; exact ih
        | none =>
          dsimp only
          cases heavy C st (o.dst.getD 0) o.op with
          | none => rfl
          | some q => obtain ⟨ok, v, st1⟩ := q; exact ih
theorem runDrawK_eq {ops : Array Oper} {K : St → Option β} : ∀ {r : List (Nat × Nat × List Nat)} {st : St}, runDrawK C ops r st K = (runDraw C ops r st).bind K
  | [], st => rfl
  | (i, k, js) :: r, st => by
    simp only [runDrawK, runDraw]
    cases ops[i]? with
    | none => rfl
    | some o =>
      dsimp only
      by_cases hf : frames C ops st (hitsOf hits C ops st o) (hitsOf hitsB C ops st o) js = true
      · rw [if_pos hf, if_pos hf, stepK_eq]
        cases stepD C ops o k st with
        | none => rfl
        | some st1 => exact runDrawK_eq
      · rw [if_neg hf, if_neg hf]; rfl
/-- s tells what c comes to. -/
def SumOk (C : Ctx) (k : Nat) (s : St → Cont β → Option β) (c : Code) : Prop := ∀ st K, Le (s st K) ((den C k c st).bind fun r => K r.1 r.2)
def SumsOk (C : Ctx) (k : Nat) (S : Nat → Option (St → Cont β → Option β)) (c : Code) (o : Nat) : Prop := ∀ j n s, nodeAt c j = some n → S (o + j) = some s → SumOk C k s n
theorem nodeAt_lt : ∀ {c : Code} {j : Nat} {n : Code}, nodeAt c j = some n → j < nn c := by
  intro c
  induction c with
  | seq a b iha ihb =>
    intro j n h
    simp only [nodeAt] at h
    simp only [nn]
    split at h
    · omega
    · have := ihb h; omega
  | cond x a b iha ihb =>
    intro j n h
    simp only [nodeAt] at h
    simp only [nn]
    split at h
    · omega
    · split at h
      · omega
      · have := ihb h; omega
  | block i a ih => intro j n h; exact ih h
  | loop a ih =>
    intro j n h
    simp only [nodeAt] at h
    simp only [nn]
    split at h
    · omega
    · have := ih h; omega
  | _ => intro j n h; simp [nodeAt] at h
theorem condLe {v : SV} {a b : Option β} {x y : Option (Ex × St)} {K : Ex × St → Option β} (h1 : Le a (x.bind K)) (h2 : Le b (y.bind K)) : Le (match v with | .d (.b z) => if z then a else b | _ => none) ((match v with | .d (.b z) => if z then x else y | _ => none).bind K) := by
  cases v with
  | d d =>
    cases d with
    | b z => cases z <;> assumption
    | _ => exact .none _
  | _ => exact .none _
theorem denK_le {k : Nat} {S : Nat → Option (St → Cont β → Option β)} : ∀ (c : Code) (o : Nat) (st : St) (K : Cont β), SumsOk C k S c o → Le (denK C S c o st K) ((den C k c st).bind fun r => K r.1 r.2) := by
  intro c
  induction c with
  | skip => intro o st K _; exact .refl _
  | exit i => intro o st K _; exact .refl _
  | ret => intro o st K _; exact .refl _
  | region i ops d =>
    intro o st K _
    simp only [denK, den]
    split
    · rw [runDrawK_eq]
      cases runDraw C ops (lkO C.ord i) st <;> exact .refl _
    · rw [runRegK_eq]
      cases runReg C ops st <;> exact .refl _
  | seq a b iha ihb =>
    intro o st K H
    have H1 : SumsOk C k S a o := fun j n s hn hs => H j n s (by simp only [nodeAt, if_pos (nodeAt_lt hn)]; exact hn) hs
    have H2 : SumsOk C k S b (o + nn a) := fun j n s hn hs => H (nn a + j) n s (by simp only [nodeAt]; rw [if_neg (by omega), Nat.add_sub_cancel_left]; exact hn) (by rw [← Nat.add_assoc]; exact hs)
    simp only [denK, den]
    refine (iha o st _ H1).trans ?_
    cases den C k a st with
    | none => exact .none _
    | some r =>
      obtain ⟨e, st1⟩ := r
      cases e with
      | normal => exact ihb _ st1 K H2
      | exit j => exact .refl _
      | ret => exact .refl _
  | cond x a b iha ihb =>
    intro o st K H
    have H1 : SumsOk C k S a (o + 1) := fun j n s hn hs => H (1 + j) n s (by
      simp only [nodeAt]
      have := nodeAt_lt hn
      rw [if_neg (by omega), Nat.add_sub_cancel_left, if_pos this]; exact hn) (by rw [← Nat.add_assoc]; exact hs)
    have H2 : SumsOk C k S b (o + 1 + nn a) := fun j n s hn hs => H (1 + nn a + j) n s (by
      simp only [nodeAt]
      rw [if_neg (by omega), show 1 + nn a + j - 1 = nn a + j by omega, if_neg (by omega), Nat.add_sub_cancel_left]; exact hn) (by rw [← Nat.add_assoc, ← Nat.add_assoc]; exact hs)
    simp only [denK]
    split
    · rename_i s hs
      exact H 0 _ s (by simp [nodeAt]) hs st K
    · simp only [den]
      exact condLe (iha _ st K H1) (ihb _ st K H2)
  | block i a ih =>
    intro o st K H
    simp only [denK, den]
    refine (ih o st _ H).trans ?_
    cases den C k a st with
    | none => exact .none _
    | some r =>
      obtain ⟨e, st1⟩ := r
      cases e with
      | normal => exact .refl _
      | exit j =>
        simp only [inBlock, Option.bind_some, blockK]
        split <;> exact .refl _
      | ret => exact .refl _
  | loop a ih =>
    intro o st K H
    simp only [denK]
    split
    · rename_i s hs
      exact H 0 _ s (by simp [nodeAt]) hs st K
    · exact .none _
  | _ => intro o st K _; exact .none _
/-- A condition, told by what it comes to (S has no word on it itself). -/
theorem piece_ok {k o : Nat} {S : Nat → Option (St → Cont β → Option β)} {x : Operand} {a b : Code} {s : St → Cont β → Option β} (H1 : SumsOk C k S a (o + 1)) (H2 : SumsOk C k S b (o + 1 + nn a))
    (h : ∀ st K, Le (s st K) (match ev C st [] x with | .d (.b y) => if y then denK C S a (o + 1) st K else denK C S b (o + 1 + nn a) st K | _ => none)) : SumOk C k s (.cond x a b) := fun st K => by
  refine (h st K).trans ?_
  simp only [den]
  exact condLe (denK_le _ _ _ _ H1) (denK_le _ _ _ _ H2)
end

/-! ### states by their shape -/
/-- What a state's place may hold, as a loop goes round. -/
inductive Vr where | b (x : Bool) | i (x : Int) | s (x : ByteArray) | l (x : List (List D)) | n (x : Nat) | v (x : SV)
def nthV : List Vr → Nat → Vr | [], _ => .b false | x :: _, 0 => x | _ :: xs, n + 1 => nthV xs n
def vB (vs : List Vr) (n : Nat) : Bool := match nthV vs n with | .b x => x | _ => false
def vI (vs : List Vr) (n : Nat) : Int := match nthV vs n with | .i x => x | _ => 0
def vS (vs : List Vr) (n : Nat) : ByteArray := match nthV vs n with | .s x => x | _ => ⟨#[]⟩
def vL (vs : List Vr) (n : Nat) : List (List D) := match nthV vs n with | .l x => x | _ => []
def vN (vs : List Vr) (n : Nat) : Nat := match nthV vs n with | .n x => x | _ => 0
def vV (vs : List Vr) (n : Nat) : SV := match nthV vs n with | .v x => x | _ => .undef
inductive TD where | b | i (k : IntKind) | s | l
def chkT : TD → D → Bool | .b, .b _ => true | .i k, .i k' _ => decide (k = k') | .s, .s _ => true | .l, .l _ => true | _, _ => false
def extT : D → Vr | .b x => .b x | .i _ x => .i x | .s x => .s x | .l x => .l x
def fillT : TD → Nat → List Vr → D | .b, n, vs => .b (vB vs n) | .i k, n, vs => .i k (vI vs n) | .s, n, vs => .s (vS vs n) | .l, n, vs => .l (vL vs n)
theorem nthV_mid (pre : List Vr) (x : Vr) (post : List Vr) : nthV (pre ++ x :: post) pre.length = x := by
  induction pre with
  | nil => rfl
  | cons y pre ih => exact ih
theorem fillT_ext {t : TD} {d : D} (h : chkT t d = true) (pre post : List Vr) : fillT t pre.length (pre ++ extT d :: post) = d := by
  cases t <;> cases d <;> simp_all [chkT, fillT, vB, vI, vS, vL, nthV_mid, extT]
inductive TV where | d (t : TD) | nils | own (n : Nat) | ptr (n off : Nat) | nilp | rp (n off : Nat) | fn (f : Nat) | undef | any | pv (ts : List TD) (off : Nat) | fb (f : Nat) (ts : List TD) | agg (ts : List TV)
def nTs : List TD → Nat | [] => 0 | _ :: ts => nTs ts + 1
def chkTs : List TD → List D → Bool | [], [] => true | t :: ts, d :: ds => chkT t d && chkTs ts ds | _, _ => false
def extTs : List D → List Vr | [] => [] | d :: ds => extT d :: extTs ds
def fillTs : List TD → Nat → List Vr → List D | [], _, _ => [] | t :: ts, n, vs => fillT t n vs :: fillTs ts (n + 1) vs
theorem fillTs_ext : ∀ {ts : List TD} {ds : List D}, chkTs ts ds = true → (extTs ds).length = nTs ts ∧ ∀ pre post, fillTs ts pre.length (pre ++ (extTs ds ++ post)) = ds
  | [], [], _ => ⟨rfl, fun _ _ => rfl⟩
  | [], _ :: _, h => by simp [chkTs] at h
  | _ :: _, [], h => by simp [chkTs] at h
  | t :: ts, d :: ds, h => by
    simp only [chkTs, Bool.and_eq_true] at h
    obtain ⟨h1, h2⟩ := fillTs_ext h.2
    refine ⟨by simp [extTs, nTs, h1], fun pre post => ?_⟩
    have := h2 (pre ++ [extT d]) post
    simp only [List.length_append, List.length_cons, List.length_nil, List.append_assoc, List.cons_append, List.nil_append] at this
    simp only [fillTs, extTs, List.cons_append]
    rw [fillT_ext h.1, this]
mutual
def nV : TV → Nat
  | .d _ => 1 | .rp _ _ => 1 | .any => 1 | .pv ts _ => nTs ts | .fb _ ts => nTs ts | .agg ts => nVs ts | _ => 0
def nVs : List TV → Nat | [] => 0 | t :: ts => nV t + nVs ts
end
mutual
def chkV : TV → SV → Bool
  | .d t, .d x => chkT t x
  | .nils, .nils => true
  | .own n, .own k => decide (n = k)
  | .ptr n o, .ptr k q => decide (n = k) && decide (o = q)
  | .nilp, .nilp => true
  | .rp n o, .rp k _ q => decide (n = k) && decide (o = q)
  | .fn f, .fn g => decide (f = g)
  | .undef, .undef => true
  | .any, _ => true
  | .pv ts o, .pv ds q => chkTs ts ds && decide (o = q)
  | .fb f ts, .fb g ds => chkTs ts ds && decide (f = g)
  | .agg ts, .agg cs => chkVs ts cs
  | _, _ => false
def chkVs : List TV → List SV → Bool
  | [], [] => true
  | t :: ts, v :: vs => chkV t v && chkVs ts vs
  | _, _ => false
end
mutual
def extV : TV → SV → List Vr
  | .d _, .d x => [extT x]
  | .rp _ _, .rp _ i _ => [.n i]
  | .any, v => [.v v]
  | .pv _ _, .pv ds _ => extTs ds
  | .fb _ _, .fb _ ds => extTs ds
  | .agg ts, .agg cs => extVs ts cs
  | _, _ => []
def extVs : List TV → List SV → List Vr
  | t :: ts, v :: vs => extV t v ++ extVs ts vs
  | _, _ => []
end
mutual
def fillV : TV → Nat → List Vr → SV
  | .d t, n, vs => .d (fillT t n vs)
  | .nils, _, _ => .nils
  | .own k, _, _ => .own k
  | .ptr k o, _, _ => .ptr k o
  | .nilp, _, _ => .nilp
  | .rp k o, n, vs => .rp k (vN vs n) o
  | .fn f, _, _ => .fn f
  | .undef, _, _ => .undef
  | .any, n, vs => vV vs n
  | .pv ts o, n, vs => .pv (fillTs ts n vs) o
  | .fb f ts, n, vs => .fb f (fillTs ts n vs)
  | .agg ts, n, vs => .agg (fillVs ts n vs)
def fillVs : List TV → Nat → List Vr → List SV
  | [], _, _ => []
  | t :: ts, n, vs => fillV t n vs :: fillVs ts (n + nV t) vs
end
mutual
theorem fillV_ext : ∀ {t : TV} {v : SV}, chkV t v = true → (extV t v).length = nV t ∧ ∀ pre post, fillV t pre.length (pre ++ (extV t v ++ post)) = v
  | .d t, v, h => by
    cases v <;> first | (simp [chkV] at h; done) | skip
    refine ⟨by simp [extV, nV], fun pre post => ?_⟩
    simp only [chkV] at h
    simp only [fillV, extV, List.cons_append, List.nil_append, fillT_ext h]
  | .nils, v, h => by cases v <;> first | (simp [chkV] at h; done) | exact ⟨rfl, fun _ _ => rfl⟩
  | .own n, v, h => by
    cases v <;> first | (simp [chkV] at h; done) | (simp [chkV] at h; subst h; exact ⟨rfl, fun _ _ => rfl⟩)
  | .ptr n o, v, h => by
    cases v <;> first | (simp [chkV] at h; done) | (simp [chkV] at h; obtain ⟨rfl, rfl⟩ := h; exact ⟨rfl, fun _ _ => rfl⟩)
  | .nilp, v, h => by cases v <;> first | (simp [chkV] at h; done) | exact ⟨rfl, fun _ _ => rfl⟩
  | .rp n o, v, h => by
    cases v <;> first | (simp [chkV] at h; done) | skip
    simp [chkV] at h
    obtain ⟨rfl, rfl⟩ := h
    exact ⟨by simp [extV, nV], fun pre post => by simp [fillV, extV, vN, nthV_mid]⟩
  | .fn f, v, h => by
    cases v <;> first | (simp [chkV] at h; done) | (simp [chkV] at h; subst h; exact ⟨rfl, fun _ _ => rfl⟩)
  | .undef, v, h => by cases v <;> first | (simp [chkV] at h; done) | exact ⟨rfl, fun _ _ => rfl⟩
  | .any, v, h => ⟨by simp [extV, nV], fun pre post => by simp [fillV, extV, vV, nthV_mid]⟩
  | .pv ts o, v, h => by
    cases v <;> first | (simp [chkV] at h; done) | skip
    simp [chkV] at h
    obtain ⟨h1, rfl⟩ := h
    obtain ⟨h2, h3⟩ := fillTs_ext h1
    exact ⟨by simp [extV, nV, h2], fun pre post => by simp only [fillV, extV, h3]⟩
  | .fb f ts, v, h => by
    cases v <;> first | (simp [chkV] at h; done) | skip
    simp [chkV] at h
    obtain ⟨h1, rfl⟩ := h
    obtain ⟨h2, h3⟩ := fillTs_ext h1
    exact ⟨by simp [extV, nV, h2], fun pre post => by simp only [fillV, extV, h3]⟩
  | .agg ts, v, h => by
    cases v <;> first | (simp [chkV] at h; done) | skip
    simp only [chkV] at h
    obtain ⟨h2, h3⟩ := fillVs_ext h
    exact ⟨by simp [extV, nV, h2], fun pre post => by simp only [fillV, extV, h3]⟩
theorem fillVs_ext : ∀ {ts : List TV} {vs : List SV}, chkVs ts vs = true → (extVs ts vs).length = nVs ts ∧ ∀ pre post, fillVs ts pre.length (pre ++ (extVs ts vs ++ post)) = vs
  | [], [], _ => ⟨rfl, fun _ _ => rfl⟩
  | [], _ :: _, h => by simp [chkVs] at h
  | _ :: _, [], h => by simp [chkVs] at h
  | t :: ts, v :: vs, h => by
    simp only [chkVs, Bool.and_eq_true] at h
    obtain ⟨h1, h2⟩ := fillV_ext h.1
    obtain ⟨h3, h4⟩ := fillVs_ext h.2
    refine ⟨by simp [extVs, nVs, h1, h3], fun pre post => ?_⟩
    simp only [fillVs, extVs, List.append_assoc]
    rw [h2]
    have := h4 (pre ++ extV t v) post
    rw [List.length_append, h1, List.append_assoc] at this
    rw [this]
end
inductive TB where | box (ts : List TV) | row (e sz : Nat)
def nB : TB → Nat | .box ts => nVs ts | .row _ _ => 1
def chkB : TB → Blk → Bool | .box ts, .box cs => chkVs ts cs | .row e sz, .row e' sz' _ => decide (e = e') && decide (sz = sz') | _, _ => false
def extB : TB → Blk → List Vr | .box ts, .box cs => extVs ts cs | .row _ _, .row _ _ xs => [.l xs] | _, _ => []
def fillB' : TB → Nat → List Vr → Blk | .box ts, n, vs => .box (fillVs ts n vs) | .row e sz, n, vs => .row e sz (vL vs n)
theorem fillB_ext {t : TB} {b : Blk} (h : chkB t b = true) : (extB t b).length = nB t ∧ ∀ pre post, fillB' t pre.length (pre ++ (extB t b ++ post)) = b := by
  cases t <;> cases b <;> first | (simp [chkB] at h; done) | skip
  · simp only [chkB] at h
    obtain ⟨h1, h2⟩ := fillVs_ext h
    exact ⟨h1, fun pre post => by simp only [fillB', extB, h2]⟩
  · simp only [chkB, Bool.and_eq_true, decide_eq_true_eq] at h
    obtain ⟨rfl, rfl⟩ := h
    exact ⟨rfl, fun pre post => by simp [fillB', extB, vL, nthV_mid]⟩
def nH : List (Nat × TB) → Nat | [] => 0 | (_, t) :: r => nB t + nH r
def chkH : List (Nat × TB) → List (Nat × Blk) → Bool | [], [] => true | (n, t) :: r, (k, b) :: s => decide (n = k) && chkB t b && chkH r s | _, _ => false
def extH : List (Nat × TB) → List (Nat × Blk) → List Vr | (_, t) :: r, (_, b) :: s => extB t b ++ extH r s | _, _ => []
def fillH : List (Nat × TB) → Nat → List Vr → List (Nat × Blk) | [], _, _ => [] | (k, t) :: r, n, vs => (k, fillB' t n vs) :: fillH r (n + nB t) vs
theorem fillH_ext : ∀ {ts : List (Nat × TB)} {h : List (Nat × Blk)}, chkH ts h = true → ∀ pre post, fillH ts pre.length (pre ++ (extH ts h ++ post)) = h
  | [], [], _, _, _ => rfl
  | [], _ :: _, h, _, _ => by simp [chkH] at h
  | _ :: _, [], h, _, _ => by simp [chkH] at h
  | (n, t) :: ts, (k, b) :: h, hc, pre, post => by
    simp only [chkH, Bool.and_eq_true, decide_eq_true_eq] at hc
    obtain ⟨⟨rfl, h1⟩, h2⟩ := hc
    obtain ⟨h3, h4⟩ := fillB_ext h1
    simp only [fillH, extH, List.append_assoc]
    rw [h4]
    have := fillH_ext h2 (pre ++ extB t b) post
    rw [List.length_append, h3, List.append_assoc] at this
    rw [this]
structure TSt where
  m : List TV
  h : List (Nat × TB)
def chkS (T : TSt) (st : St) : Bool := chkVs T.m st.m && st.l.isEmpty && chkH T.h st.h
def extS (T : TSt) (st : St) : List Vr := extVs T.m st.m ++ extH T.h st.h
def fillS (T : TSt) (vs : List Vr) : St := ⟨fillVs T.m 0 vs, [], fillH T.h (nVs T.m) vs⟩
theorem fillS_ext {T : TSt} {st : St} (h : chkS T st = true) : fillS T (extS T st) = st := by
  simp only [chkS, Bool.and_eq_true] at h
  obtain ⟨⟨h1, h2⟩, h3⟩ := h
  obtain ⟨h4, h5⟩ := fillVs_ext h1
  have e1 := h5 [] (extH T.h st.h)
  have e2 := fillH_ext h3 (extVs T.m st.m) []
  rw [h4, List.append_nil] at e2
  have e3 : st.l = [] := by simpa using h2
  obtain ⟨m, l, h⟩ := st
  simp only [fillS, extS] at e1 e2 e3 ⊢
  subst e3
  simp only [List.nil_append, List.length_nil] at e1
  rw [e1, e2]
def tnames : List (Nat × TB) → List Nat | [] => [] | (n, _) :: r => n :: tnames r
theorem names_fill : ∀ (ts : List (Nat × TB)) (n : Nat) (vs : List Vr), names (fillH ts n vs) = tnames ts
  | [], _, _ => rfl
  | (k, t) :: r, n, vs => by simp only [fillH, names, tnames, names_fill r]
/-- Of a state of shape T. -/
def sumT {β : Type} (T : TSt) (L : List Vr → Cont β → Option β) : St → Cont β → Option β := fun st K => if chkS T st then L (extS T st) K else none
def loopK {β : Type} (T : TSt) (L : List Vr → Cont β → Option β) (K : Cont β) : Cont β := fun e st => match e with
  | .normal => sumT T L (trim (tnames T.h) st) K
  | .exit j => K (.exit j) (trim (tnames T.h) st)
  | .ret => K .ret st
theorem loop_ok {β : Type} {C : Ctx} {k o : Nat} {S : Nat → Option (St → Cont β → Option β)} {a : Code} (T : TSt) (L : Nat → List Vr → Cont β → Option β) (H : SumsOk C k S a (o + 1)) (h0 : ∀ vs K, L 0 vs K = none)
    (h1 : ∀ m vs K, L (m + 1) vs K = denK C S a (o + 1) (fillS T vs) (loopK T (L m) K)) : SumOk C k (sumT T (L k)) (.loop a) := by
  have key : ∀ m st K, tnames T.h = names st.h ∨ True → Le (sumT T (L m) st K) ((iter (tnames T.h) (den C k a) m st).bind fun r => K r.1 r.2) := by
    intro m
    induction m with
    | zero =>
      intro st K _ r h
      unfold sumT at h
      split at h
      · rw [h0] at h; cases h
      · cases h
    | succ m ih =>
      intro st K _
      unfold sumT
      split
      · rename_i hc
        rw [h1, fillS_ext hc]
        refine (denK_le a (o + 1) st _ H).trans ?_
        simp only [iter]
        cases den C k a st with
        | none => exact .none _
        | some q =>
          obtain ⟨e, st1⟩ := q
          cases e with
          | normal => exact ih _ K (.inr trivial)
          | exit j => exact .refl _
          | ret => exact .refl _
      · exact .none _
  intro st K
  simp only [den]
  by_cases hc : chkS T st = true
  · have hn : names st.h = tnames T.h := by rw [← fillS_ext hc]; exact names_fill _ _ _
    rw [hn]
    exact key k st K (.inr trivial)
  · unfold sumT
    rw [if_neg hc]
    exact .none _

/-! ### functions -/
/-- What an argument looks like. -/
inductive TA where | one (t : TD) | agg (ts : List TD) | ptr (ts : List TD)
def nA : TA → Nat | .one _ => 1 | .agg ts => nTs ts | .ptr ts => nTs ts
def chkA : TA → DV → Bool | .one t, .one d => chkT t d | .agg ts, .agg ds => chkTs ts ds | .ptr ts, .ptr ds => chkTs ts ds | _, _ => false
def extA : DV → List Vr | .one d => [extT d] | .agg ds => extTs ds | .ptr ds => extTs ds
def fillA : TA → Nat → List Vr → DV | .one t, n, vs => .one (fillT t n vs) | .agg ts, n, vs => .agg (fillTs ts n vs) | .ptr ts, n, vs => .ptr (fillTs ts n vs)
theorem fillA_ext {t : TA} {x : DV} (h : chkA t x = true) : (extA x).length = nA t ∧ ∀ pre post, fillA t pre.length (pre ++ (extA x ++ post)) = x := by
  cases t <;> cases x <;> first | (simp [chkA] at h; done) | skip
  · simp only [chkA] at h
    exact ⟨rfl, fun pre post => by simp only [fillA, extA, List.cons_append, List.nil_append, fillT_ext h]⟩
  · simp only [chkA] at h
    obtain ⟨h1, h2⟩ := fillTs_ext h
    exact ⟨h1, fun pre post => by simp only [fillA, extA, h2]⟩
  · simp only [chkA] at h
    obtain ⟨h1, h2⟩ := fillTs_ext h
    exact ⟨h1, fun pre post => by simp only [fillA, extA, h2]⟩
def chkAs : List TA → List DV → Bool | [], [] => true | t :: ts, x :: xs => chkA t x && chkAs ts xs | _, _ => false
def extAs : List DV → List Vr | [] => [] | x :: xs => extA x ++ extAs xs
def fillAs : List TA → Nat → List Vr → List DV | [], _, _ => [] | t :: ts, n, vs => fillA t n vs :: fillAs ts (n + nA t) vs
theorem fillAs_ext : ∀ {ts : List TA} {xs : List DV}, chkAs ts xs = true → ∀ pre post, fillAs ts pre.length (pre ++ (extAs xs ++ post)) = xs
  | [], [], _, _, _ => rfl
  | [], _ :: _, h, _, _ => by simp [chkAs] at h
  | _ :: _, [], h, _, _ => by simp [chkAs] at h
  | t :: ts, x :: xs, h, pre, post => by
    simp only [chkAs, Bool.and_eq_true] at h
    obtain ⟨h1, h2⟩ := fillA_ext h.1
    simp only [fillAs, extAs, List.append_assoc]
    rw [h2]
    have := fillAs_ext h.2 (pre ++ extA x) post
    rw [List.length_append, h1, List.append_assoc] at this
    rw [this]
/-- Results of the form that is told. -/
def cellsDV : DV → List D | .one d => [d] | .agg ds => ds | .ptr ds => ds
def nthR : List DV → Nat → DV | [], _ => .agg [] | x :: _, 0 => x | _ :: xs, n + 1 => nthR xs n
def nthO : List (List D) → Nat → List D | [], _ => [] | x :: _, 0 => x | _ :: xs, n + 1 => nthO xs n
def isDs : List D → List D → Bool | [], [] => true | z :: zs, x :: xs => isD z x && isDs zs xs | _, _ => false
def isV : DV → DV → Bool | .one z, .one x => isD z x | .agg zs, .agg xs => isDs zs xs | .ptr zs, .ptr xs => isDs zs xs | _, _ => false
def isVs : List DV → List DV → Bool | [], [] => true | z :: zs, x :: xs => isV z x && isVs zs xs | _, _ => false
def isOs : List (List D) → List (List D) → Bool | [], [] => true | z :: zs, x :: xs => isDs z x && isOs zs xs | _, _ => false
/-- Cell j of result i; of what was handed over. -/
def resC (o : Rs) (i j : Nat) : D := match o with | some (rs, _) => nthD (cellsDV (nthR rs i)) j | none => .b false
def outC (o : Rs) (i j : Nat) : D := match o with | some (_, os) => nthD (nthO os i) j | none => .b false
def okR (zr : List DV) (zo : List (List D)) (o : Rs) : Bool := match o with | some (rs, os) => isVs zr rs && isOs zo os | none => false
def etaR (o : Rs) (i : Nat) : List D → Nat → List D | [], _ => [] | z :: zs, j => etaD z (resC o i j) :: etaR o i zs (j + 1)
def etaO (o : Rs) (i : Nat) : List D → Nat → List D | [], _ => [] | z :: zs, j => etaD z (outC o i j) :: etaO o i zs (j + 1)
def etaVs (o : Rs) : List DV → Nat → List DV
  | [], _ => []
  | .one z :: zs, i => .one (etaD z (resC o i 0)) :: etaVs o zs (i + 1)
  | .agg z :: zs, i => .agg (etaR o i z 0) :: etaVs o zs (i + 1)
  | .ptr z :: zs, i => .ptr (etaR o i z 0) :: etaVs o zs (i + 1)
def etaOs (o : Rs) : List (List D) → Nat → List (List D)
  | [], _ => []
  | z :: zs, i => etaO o i z 0 :: etaOs o zs (i + 1)
def gOf (zr : List DV) (zo : List (List D)) (o : Rs) : Bool × List DV × List (List D) := (okR zr zo o, etaVs o zr 0, etaOs o zo 0)
theorem etaR_is {rs : List DV} {os : List (List D)} {i : Nat} : ∀ {zs ds : List D} {j : Nat}, isDs zs ds = true → (∀ m d, ds[m]? = some d → nthD (cellsDV (nthR rs i)) (j + m) = d) → etaR (some (rs, os)) i zs j = ds
  | [], [], j, _, _ => rfl
  | [], _ :: _, _, h, _ => by simp [isDs] at h
  | _ :: _, [], _, h, _ => by simp [isDs] at h
  | z :: zs, d :: ds, j, h, hg => by
    simp only [isDs, Bool.and_eq_true] at h
    have h0 := hg 0 d rfl
    simp only [etaR, resC]
    rw [Nat.add_zero] at h0
    rw [h0, etaD_is h.1, etaR_is h.2 (fun m x hm => by rw [show j + 1 + m = j + (m + 1) by omega]; exact hg (m + 1) x (by simpa using hm))]
theorem etaO_is {rs : List DV} {os : List (List D)} {i : Nat} : ∀ {zs ds : List D} {j : Nat}, isDs zs ds = true → (∀ m d, ds[m]? = some d → nthD (nthO os i) (j + m) = d) → etaO (some (rs, os)) i zs j = ds
  | [], [], j, _, _ => rfl
  | [], _ :: _, _, h, _ => by simp [isDs] at h
  | _ :: _, [], _, h, _ => by simp [isDs] at h
  | z :: zs, d :: ds, j, h, hg => by
    simp only [isDs, Bool.and_eq_true] at h
    have h0 := hg 0 d rfl
    simp only [etaO, outC]
    rw [Nat.add_zero] at h0
    rw [h0, etaD_is h.1, etaO_is h.2 (fun m x hm => by rw [show j + 1 + m = j + (m + 1) by omega]; exact hg (m + 1) x (by simpa using hm))]
theorem nthD_of : ∀ {ds : List D} {m : Nat} {d : D}, ds[m]? = some d → nthD ds m = d
  | [], m, d, h => by simp at h
  | x :: ds, 0, d, h => by simpa [nthD] using h
  | x :: ds, m + 1, d, h => by simp only [nthD]; exact nthD_of (by simpa using h)
theorem etaVs_is {rs : List DV} {os : List (List D)} : ∀ {zs xs : List DV} {i : Nat}, isVs zs xs = true → (∀ m x, xs[m]? = some x → nthR rs (i + m) = x) → etaVs (some (rs, os)) zs i = xs
  | [], [], i, _, _ => rfl
  | [], _ :: _, _, h, _ => by simp [isVs] at h
  | _ :: _, [], _, h, _ => by simp [isVs] at h
  | z :: zs, x :: xs, i, h, hg => by
    simp only [isVs, Bool.and_eq_true] at h
    have h0 := hg 0 x rfl
    rw [Nat.add_zero] at h0
    have ht := etaVs_is (rs := rs) (os := os) (i := i + 1) h.2 (fun m y hm => by rw [show i + 1 + m = i + (m + 1) by omega]; exact hg (m + 1) y (by simpa using hm))
    cases z <;> cases x <;> first | (simp [isV] at h; done) | skip
    · simp only [etaVs, resC, h0, cellsDV, nthD, ht]
      simp only [isV] at h
      rw [etaD_is h.1]
    · simp only [isV] at h
      simp only [etaVs, ht]
      rw [etaR_is h.1 (fun m d hm => by rw [h0, Nat.zero_add]; exact nthD_of hm)]
    · simp only [isV] at h
      simp only [etaVs, ht]
      rw [etaR_is h.1 (fun m d hm => by rw [h0, Nat.zero_add]; exact nthD_of hm)]
theorem etaOs_is {rs : List DV} {os : List (List D)} : ∀ {zs xs : List (List D)} {i : Nat}, isOs zs xs = true → (∀ m x, xs[m]? = some x → nthO os (i + m) = x) → etaOs (some (rs, os)) zs i = xs
  | [], [], i, _, _ => rfl
  | [], _ :: _, _, h, _ => by simp [isOs] at h
  | _ :: _, [], _, h, _ => by simp [isOs] at h
  | z :: zs, x :: xs, i, h, hg => by
    simp only [isOs, Bool.and_eq_true] at h
    have h0 := hg 0 x rfl
    rw [Nat.add_zero] at h0
    simp only [etaOs]
    rw [etaO_is h.1 (fun m d hm => by rw [h0, Nat.zero_add]; exact nthD_of hm), etaOs_is h.2 (fun m y hm => by rw [show i + 1 + m = i + (m + 1) by omega]; exact hg (m + 1) y (by simpa using hm))]
theorem nthR_of : ∀ {xs : List DV} {m : Nat} {x : DV}, xs[m]? = some x → nthR xs m = x
  | [], m, d, h => by simp at h
  | y :: ds, 0, d, h => by simpa [nthR] using h
  | y :: ds, m + 1, d, h => by simp only [nthR]; exact nthR_of (by simpa using h)
theorem nthO_of : ∀ {xs : List (List D)} {m : Nat} {x : List D}, xs[m]? = some x → nthO xs m = x
  | [], m, d, h => by simp at h
  | y :: ds, 0, d, h => by simpa [nthO] using h
  | y :: ds, m + 1, d, h => by simp only [nthO]; exact nthO_of (by simpa using h)
theorem opt_gOf {zr : List DV} {zo : List (List D)} {o : Rs} {r : List DV × List (List D)} (h : opt (gOf zr zo o) = some r) : o = some r := by
  unfold opt gOf at h
  split at h
  · rename_i hok
    cases o with
    | none => cases hok
    | some q =>
      obtain ⟨rs, os⟩ := q
      simp only [okR, Bool.and_eq_true] at hok
      rw [etaVs_is hok.1 (fun m x hm => by rw [Nat.zero_add]; exact nthR_of hm), etaOs_is hok.2 (fun m x hm => by rw [Nat.zero_add]; exact nthO_of hm)] at h
      exact h
  · cases h
/-- A function, its arguments of shape TS. -/
def argsT (TS : List TA) (t : List Vr → Rs) (xs : List DV) : Rs := if chkAs TS xs then t (extAs xs) else none
def bodyK (C : Ctx) (S : Nat → Option (St → Cont (List DV × List (List D)) → Rs)) (fn : Func) (sg : Sig) (c : Code) (xs : List DV) : Rs :=
  match initP 0 sg.ms xs with
  | some (vs, h) => (match adds ⟨initM sg.keep vs, [], []⟩ h with
    | some st => denK C S c 0 st fun e st => fin C fn sg (some (e, st))
    | none => none)
  | none => none
theorem body_ok {P : Program} {sig : Nat → Sig} {F : Nat → List DV → Bool × List DV × List (List D)} {k f : Nat} {fn : Func} {c : Code} {S : Nat → Option (St → Cont (List DV × List (List D)) → Rs)} (hfn : P.funcs[f]? = some fn) (hb : fn.body = some c) (TS : List TA) (t : List Vr → Rs)
    (H : SumsOk ⟨P, sig, F, (sig f).keep, (sig f).ord⟩ k S c 0) (ht : ∀ vs, t vs = bodyK ⟨P, sig, F, (sig f).keep, (sig f).ord⟩ S fn (sig f) c (fillAs TS 0 vs)) {xs : List DV} {r : List DV × List (List D)} (h : argsT TS t xs = some r) :
    evalBody P sig F k f xs = some r := by
  unfold argsT at h
  split at h
  · rename_i hc
    have e := fillAs_ext hc [] []
    simp only [List.length_nil, List.append_nil, List.nil_append] at e
    rw [ht, e] at h
    unfold evalBody
    rw [hfn]
    dsimp only
    rw [hb]
    dsimp only
    unfold bodyK at h
    split at h
    · rename_i vs hh hi
      rw [hi]
      dsimp only
      split at h
      · rename_i st ha
        rw [ha]
        dsimp only
        have := denK_le c 0 st _ H r h
        cases hd : den ⟨P, sig, F, (sig f).keep, (sig f).ord⟩ k c st with
        | none => rw [hd] at this; cases this
        | some q => rw [hd] at this; exact this
      · cases h
    · cases h
  · cases h
/-! ### tables -/
def lkF {α : Type} (d : α) : List (Nat × α) → Nat → α | [], _ => d | (a, v) :: r, n => if a = n then v else lkF d r n
def lkS {β : Type} : List (Nat × (St → Cont β → Option β)) → Nat → Option (St → Cont β → Option β) | [], _ => none | (a, v) :: r, n => if a = n then some v else lkS r n
def AllS {β : Type} (C : Ctx) (k : Nat) (c : Code) (o : Nat) : List (Nat × (St → Cont β → Option β)) → Prop
  | [] => True
  | (a, s) :: r => (∀ n, nodeAt c (a - o) = some n → o ≤ a → SumOk C k s n) ∧ AllS C k c o r
theorem sums_of {β : Type} {C : Ctx} {k o : Nat} {c : Code} {t : List (Nat × (St → Cont β → Option β))} (h : AllS C k c o t) : SumsOk C k (lkS t) c o := fun j n s hn hs => by
  induction t with
  | nil => cases hs
  | cons e r ih =>
    obtain ⟨a, x⟩ := e
    simp only [lkS] at hs
    split at hs
    · rename_i e; subst e; cases hs
      exact h.1 n (by rw [Nat.add_sub_cancel_left]; exact hn) (Nat.le_add_right _ _)
    · exact ih h.2 hs
/-- A loop that is met in several shapes. -/
def altS {β : Type} (T : TSt) (a b : St → Cont β → Option β) : St → Cont β → Option β := fun st K => if chkS T st then a st K else b st K
theorem alt_ok {β : Type} {C : Ctx} {k : Nat} {T : TSt} {a b : St → Cont β → Option β} {c : Code} (h1 : SumOk C k a c) (h2 : SumOk C k b c) : SumOk C k (altS T a b) c := fun st K => by
  unfold altS
  split
  · exact h1 st K
  · exact h2 st K
theorem sum_in {β : Type} {C : Ctx} {k j : Nat} {c c' : Code} {s : St → Cont β → Option β} {o a : Nat} (e : nodeAt c j = some c') (h : SumOk C k s c') : ∀ n, nodeAt c j = some n → o ≤ a → SumOk C k s n := fun n hn _ => by
  rw [e] at hn; cases hn; exact h
theorem sum_out {β : Type} {C : Ctx} {k j : Nat} {c : Code} {s : St → Cont β → Option β} {o a : Nat} (e : nodeAt c j = none) : ∀ n, nodeAt c j = some n → o ≤ a → SumOk C k s n := fun n hn _ => by
  rw [e] at hn; cases hn
def AllG (Q : Nat → List DV → List DV × List (List D) → Prop) : List (Nat × (List DV → Bool × List DV × List (List D))) → Prop
  | [] => True
  | (f, g) :: r => (∀ xs q, opt (g xs) = some q → Q f xs q) ∧ AllG Q r
theorem allG_of {Q : Nat → List DV → List DV × List (List D) → Prop} {t : List (Nat × (List DV → Bool × List DV × List (List D)))} (h : AllG Q t) : ∀ f xs q, opt (lkF (fun _ => (false, [], [])) t f xs) = some q → Q f xs q := fun f xs q hq => by
  induction t with
  | nil => simp [lkF, opt] at hq
  | cons e r ih =>
    obtain ⟨a, g⟩ := e
    simp only [lkF] at hq
    split at hq
    · rename_i e; subst e; exact h.1 xs q hq
    · exact ih h.2 hq
end Go.Den
