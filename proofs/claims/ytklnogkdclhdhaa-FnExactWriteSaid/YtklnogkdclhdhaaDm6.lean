/- The evaluator of Go code over plain data, and its soundness: part 6 of 7. -/
import Derived.Test.YtklnogkdclhdhaaDm5
import Derived.LoopN
set_option linter.unusedVariables false
set_option linter.unusedSimpArgs false
/- Draw regions, fourth part: what holds between den and the machine; den goes ahead. -/
namespace Go.Den
open Go
variable {C : Ctx} {R : Rt} {G G0 G1 : Gh} {st st1 st2 σ σ1 s s1 : St} {a : Act} {w w' : World} {o : Oper} {v : SV} {ops : Array Oper} {ms : List Nat}

theorem anyD_cons (i k : Nat) (r : List (Nat × Nat)) (j : Nat) : anyD ((i, k) :: r) j = true ↔ i = j ∨ anyD r j = true := by
  simp only [anyD]; split <;> simp [*]
theorem hasD_cons (i k : Nat) (r : List (Nat × Nat)) (j c : Nat) : hasD ((i, k) :: r) j c = true ↔ (i = j ∧ k = c) ∨ hasD r j c = true := by
  simp only [hasD]
  by_cases h : i = j
  · by_cases h' : k = c <;> simp [h, h']
  · simp [h]
theorem hasD_any : ∀ {r : List (Nat × Nat)} {j c : Nat}, hasD r j c = true → anyD r j = true
  | [], _, _, h => by simp [hasD] at h
  | (i, k) :: r, j, c, h => by
    rw [hasD_cons] at h
    rw [anyD_cons]
    rcases h with h | h
    · exact .inl h.1
    · exact .inr (hasD_any h)
theorem allD_has {p : Nat → Nat → Bool} : ∀ {r : List (Nat × Nat)} {j c : Nat}, allD p r = true → hasD r j c = true → p j c = true
  | [], _, _, _, h => by simp [hasD] at h
  | (i, k) :: r, j, c, ha, h => by
    simp only [allD, Bool.and_eq_true] at ha
    rw [hasD_cons] at h
    rcases h with ⟨rfl, rfl⟩ | h
    · exact ha.1
    · exact allD_has ha.2 h
theorem subD_bit {m : Nat} {done : List (Nat × Nat)} : ∀ {n j : Nat}, subD m done n = true → m.testBit j = true → j < n → anyD done j = true
  | 0, j, _, _, h => by omega
  | n + 1, j, hs, hb, h => by
    simp only [subD, Bool.and_eq_true] at hs
    by_cases e : j = n
    · subst e; rw [if_pos hb] at hs; exact hs.1
    · exact subD_bit hs.2 hb (by omega)
/-- Of an operation of the order: what was looked at. -/
structure Chk (ops : Array Oper) (ms : List Nat) (done : List (Nat × Nat)) (i k : Nat) (js : List Nat) (r : List (Nat × Nat × List Nat)) (o : Oper) : Prop where
  ho : ops[i]? = some o
  new : anyD done i = false
  sub : ∀ j, j < ops.size → bef ms i j = true → anyD done j = true
  rd : ∀ t ∈ o.looksAt ops, ∀ j oj, ops[j]? = some oj → oj.dst = some t → bef ms i j = true ∨ (bef ms j i = true ∧ turnIn r j = true) ∨ (i = j ∧ k = 1)
  cls : k = 0 ∨ k = 1 ∨ k = 2
  turns : k ≠ 2 → ∀ j, hasD done j 1 = true → bef ms i j = true
  again : k = 1 → ∀ j, hasD done j 0 = true → bef ms i j = true ∨ j ∈ js
  alloc : k = 2 → isAlloc o = true ∧ ∀ j c, hasD done j c = true → c = 2
  next : chkD ops ms ((i, k) :: done) r = true
theorem readOk_spec {i k : Nat} {rest : List (Nat × Nat × List Nat)} {t : Nat} : ∀ {os : List Oper} {j : Nat}, readOk ms i k rest t j os = true → ∀ (m : Nat) oj, os[m]? = some oj → oj.dst = some t → bef ms i (j + m) = true ∨ (bef ms (j + m) i = true ∧ turnIn rest (j + m) = true) ∨ (i = j + m ∧ k = 1)
  | [], j, _, m, oj, h, _ => by simp at h
  | o :: os, j, hr, m, oj, h, hd => by
    simp only [readOk, Bool.and_eq_true] at hr
    cases m with
    | zero =>
      simp at h
      subst h
      have h1 := hr.1
      rw [hd] at h1
      simp only [if_true, Bool.or_eq_true, Bool.and_eq_true, decide_eq_true_eq] at h1
      rcases h1 with (h1 | h1) | h1
      · exact .inl h1
      · exact .inr (.inl h1)
      · exact .inr (.inr h1)
    | succ m =>
      have := readOk_spec hr.2 m oj (by simpa using h) hd
      rw [show j + 1 + m = j + (m + 1) by omega] at this
      exact this
theorem readsOk_spec {i k : Nat} {rest : List (Nat × Nat × List Nat)} {os : List Oper} : ∀ {ts : List Nat}, readsOk ms i k rest os ts = true → ∀ t ∈ ts, readOk ms i k rest t 0 os = true
  | [], _, t, ht => by simp at ht
  | x :: ts, h, t, ht => by
    simp only [readsOk, Bool.and_eq_true] at h
    rcases List.mem_cons.1 ht with rfl | ht
    · exact h.1
    · exact readsOk_spec h.2 t ht
theorem chkD_cons {done : List (Nat × Nat)} {i k : Nat} {js : List Nat} {r : List (Nat × Nat × List Nat)} (h : chkD ops ms done ((i, k, js) :: r) = true) : ∃ o, Chk ops ms done i k js r o := by
  simp only [chkD] at h
  cases ho : ops[i]? with
  | none => rw [ho] at h; cases h
  | some o =>
    rw [ho] at h
    simp only [Bool.and_eq_true, Bool.not_eq_true'] at h
    obtain ⟨⟨⟨⟨h1, h2⟩, h3⟩, h4⟩, h5⟩ := h
    refine ⟨o, ho, h1, fun j hj hb => subD_bit h2 hb hj, fun t ht j oj hj hd => ?_, ?_, ?_, ?_, ?_, h5⟩
    · have := readOk_spec (readsOk_spec h3 t ht) j oj (by simpa using hj) hd
      simpa using this
    · rcases k with _ | _ | _ | k
      · exact .inl rfl
      · exact .inr (.inl rfl)
      · exact .inr (.inr rfl)
      · cases h4
    · intro hk j hj
      rcases k with _ | _ | _ | k
      · have := allD_has h4 hj; simpa using this
      · simp only [Bool.and_eq_true] at h4
        have := allD_has h4.1.1 hj; simpa using this
      · exact absurd rfl hk
      · cases h4
    · rintro rfl j hj
      simp only [Bool.and_eq_true] at h4
      have := allD_has h4.1.2 hj
      simp at this
      rcases this with h | h
      · exact .inl h
      · exact .inr (isIn_mem.1 h)
    · rintro rfl
      simp only [Bool.and_eq_true, decide_eq_true_eq] at h4
      exact ⟨h4.1.1, fun j c hj => by have := allD_has h4.2 hj; simpa using this⟩
theorem turnIn_new : ∀ {r : List (Nat × Nat × List Nat)} {done : List (Nat × Nat)} {j : Nat}, turnIn r j = true → chkD ops ms done r = true → anyD done j = false
  | [], _, _, h, _ => by simp [turnIn] at h
  | (i, k, js) :: r, done, j, h, hc => by
    obtain ⟨o, hc⟩ := chkD_cons hc
    simp only [turnIn] at h
    have tl : turnIn r j = true → anyD done j = false := fun h => by
      have := turnIn_new h hc.next
      by_cases e : anyD done j = true
      · rw [(anyD_cons i k done j).2 (.inr e)] at this; cases this
      · simpa using e
    split at h
    · rename_i e
      subst e
      split at h
      · exact hc.new
      · exact tl h
    · exact tl h
/-- Each operation done has those before it done earlier. -/
def DoneWf (n : Nat) (ms : List Nat) : List (Nat × Nat) → Prop
  | [] => True
  | (i, _) :: r => (∀ j, j < n → bef ms i j = true → anyD r j = true) ∧ DoneWf n ms r
theorem DoneWf.closed {n : Nat} : ∀ {done : List (Nat × Nat)}, DoneWf n ms done → ∀ i j, anyD done i = true → j < n → bef ms i j = true → anyD done j = true
  | [], _, i, j, h, _, _ => by simp [anyD] at h
  | (i0, k) :: r, hw, i, j, h, hj, hb => by
    rw [anyD_cons] at h ⊢
    rcases h with rfl | h
    · exact .inr (hw.1 j hj hb)
    · exact .inr (hw.2.closed i j h hj hb)
/-- If one is not listed, one can be. -/
theorem DoneWf.first {n : Nat} {X : Nat → Prop} : ∀ {done : List (Nat × Nat)}, DoneWf n ms done → (∃ i, anyD done i = true ∧ ¬ X i) → ∃ i, anyD done i = true ∧ ¬ X i ∧ ∀ j, j < n → bef ms i j = true → X j
  | [], _, ⟨i, h, _⟩ => by simp [anyD] at h
  | (i0, k) :: r, hw, ⟨i, h, hx⟩ => by
    by_cases hr : ∃ i, anyD r i = true ∧ ¬ X i
    · obtain ⟨i', h1, h2, h3⟩ := hw.2.first hr
      exact ⟨i', (anyD_cons _ _ _ _).2 (.inr h1), h2, h3⟩
    · have all : ∀ i, anyD r i = true → X i := fun i hi => Classical.byContradiction fun h => hr ⟨i, hi, h⟩
      rw [anyD_cons] at h
      rcases h with rfl | h
      · exact ⟨i0, (anyD_cons _ _ _ _).2 (.inl rfl), hx, fun j hj hb => all j (hw.1 j hj hb)⟩
      · exact absurd (all i h) hx

theorem chkOps_dst {n : Nat} : ∀ {os : List Oper} {seen : List Nat}, chkOps n seen os = true → (∀ (i : Nat) o t, os[i]? = some o → o.dst = some t → t < n ∧ t ∉ seen) ∧ ∀ (i j : Nat) o o' t, os[i]? = some o → os[j]? = some o' → o.dst = some t → o'.dst = some t → i = j
  | [], seen, _ => ⟨fun i o t h => by simp at h, fun i j o o' t h => by simp at h⟩
  | x :: os, seen, h => by
    obtain ⟨h1, h2⟩ := chk_dst h
    obtain ⟨h3, h4⟩ := chkOps_dst h2
    have tail : ∀ (i : Nat) o t, os[i]? = some o → o.dst = some t → t < n ∧ t ∉ seen ∧ x.dst ≠ some t := fun i o t hi ht => by
      obtain ⟨h5, h6⟩ := h3 i o t hi ht
      cases hx : x.dst with
      | none => rw [hx] at h6; exact ⟨h5, h6, by simp⟩
      | some d => rw [hx] at h6; exact ⟨h5, fun h => h6 (by simp [h]), fun e => h6 (by cases e; simp)⟩
    refine ⟨fun i o t hi ht => ?_, fun i j o o' t hi hj ht ht' => ?_⟩
    · cases i with
      | zero => simp at hi; subst hi; exact h1 t ht
      | succ i => have := tail i o t (by simpa using hi) ht; exact ⟨this.1, this.2.1⟩
    · cases i with
      | zero =>
        cases j with
        | zero => rfl
        | succ j => simp at hi; subst hi; exact absurd ht (tail j o' t (by simpa using hj) ht').2.2
      | succ i =>
        cases j with
        | zero => simp at hj; subst hj; exact absurd ht' (tail i o t (by simpa using hi) ht).2.2
        | succ j => rw [h4 i j o o' t (by simpa using hi) (by simpa using hj) ht ht']

theorem Rel.congr {hid hid' : Nat → Prop} (H : Rel C hid σ s) (h : ∀ t, hid' t ↔ hid t) : Rel C hid' σ s := ⟨H.h, fun t ht => H.eq t (fun h' => ht ((h t).2 h')), fun t ht => H.no t ((h t).1 ht)⟩
/-- The slots that den has filled and the machine has not. -/
def Hid (ops : Array Oper) (X : Nat → Prop) (done : List (Nat × Nat)) (t : Nat) : Prop := ∃ i o, anyD done i = true ∧ ¬ X i ∧ ops[i]? = some o ∧ o.dst = some t
theorem pt_h (st : St) (p : Path) (c : Bool) (d : Option Nat) (v : SV) : (pt C st p c d v).h = st.h := by
  unfold pt
  split
  · rfl
  · split
    · split <;> rfl
    · rfl
theorem pt_m (st : St) (p : Path) (c : Bool) (d : Option Nat) (v : SV) : (pt C st p c d v).m.length = st.m.length := by
  unfold pt
  split
  · rfl
  · split
    · split <;> simp [stm_len]
    · rfl
theorem pt_other {p : Path} {c : Bool} {d : Option Nat} {t : Nat} (ht : d ≠ some t) (hs : st.m.length = C.keep.length) : lk (pt C st p c d v).l t = lk st.l t ∧ lkm C.keep (pt C st p c d v).m t = lkm C.keep st.m t := by
  unfold pt
  split
  · exact ⟨rfl, rfl⟩
  · rename_i d
    have hd : t ≠ d := fun e => ht (by rw [e])
    split
    · rename_i hk
      split <;> exact ⟨rfl, by dsimp only; rw [lkm_stm hk hs, if_neg hd]⟩
    · refine ⟨?_, rfl⟩
      simp only [lk]
      rw [if_neg (Ne.symm hd)]
theorem gt_of_eq {t : Nat} (h1 : lk st1.l t = lk st.l t) (h2 : lkm C.keep st1.m t = lkm C.keep st.m t) (p : Path) : gt C st1 p t = gt C st p t := by
  unfold gt; rw [h1, h2]
theorem holdsV_of_eq {t : Nat} (h1 : lk st1.l t = lk st.l t) (h2 : lkm C.keep st1.m t = lkm C.keep st.m t) (p : Path) (c : Bool) : holdsV C st1 t p c = holdsV C st t p c := by
  unfold holdsV; rw [h1, h2]
theorem guard_of_eq {g : Option (Nat × Bool)} (h : ∀ j b oj t, g = some (j, b) → ops[j]? = some oj → oj.dst = some t → lk st1.l t = lk st.l t) : guardOf ops st1 g = guardOf ops st g := by
  cases g with
  | none => rfl
  | some jb =>
    obtain ⟨j, b⟩ := jb
    unfold guardOf
    dsimp only
    cases hj : ops[j]? with
    | none => rfl
    | some oj =>
      dsimp only
      cases ht : oj.dst with
      | none => rfl
      | some t => dsimp only; rw [h j b oj t rfl hj ht]
theorem looks_tmp {t : Nat} (h : Operand.tmp t ∈ o.op.operands.toList) : t ∈ o.looksAt ops := by
  unfold Oper.looksAt
  rw [List.mem_append]
  refine .inl (List.mem_filterMap.2 ⟨.tmp t, h, rfl⟩)
theorem looks_guard {j : Nat} {b : Bool} {oj : Oper} {t : Nat} (hg : o.guard = some (j, b)) (hj : ops[j]? = some oj) (ht : oj.dst = some t) : t ∈ o.looksAt ops := by
  unfold Oper.looksAt
  rw [List.mem_append]
  refine .inr ?_
  simp [hg, hj, ht]
/-- 'again' looks at these slots alone. -/
theorem again_of_eq {i : Nat} (hh : st1.h = st.h) (h : ∀ o t, ops[i]? = some o → t ∈ o.looksAt ops ∨ o.dst = some t → lk st1.l t = lk st.l t ∧ lkm C.keep st1.m t = lkm C.keep st.m t) (H : again C ops st i) : again C ops st1 i := by
  unfold again at H ⊢
  cases ho : ops[i]? with
  | none => rw [ho] at H; exact H
  | some o =>
    rw [ho] at H
    dsimp only at H ⊢
    have e1 : guardOf ops st1 o.guard = guardOf ops st o.guard := guard_of_eq fun j b oj t hg hj ht => (h o t ho (.inl (looks_guard hg hj ht))).1
    have e2 : ∀ p, light C st1 p o.op = light C st p o.op := fun p => light_congr hh fun t ht p => gt_of_eq (h o t ho (.inl (looks_tmp ht))).1 (h o t ho (.inl (looks_tmp ht))).2 p
    rw [e1]
    cases hg : guardOf ops st o.guard with
    | none => rw [hg] at H; exact H
    | some pc =>
      obtain ⟨p, c⟩ := pc
      rw [hg] at H
      dsimp only at H ⊢
      rw [e2]
      cases hd : o.dst with
      | none => rw [hd] at H; exact H
      | some t =>
        rw [hd] at H
        dsimp only at H ⊢
        obtain ⟨e3, e4⟩ := h o t ho (.inr hd)
        rw [holdsV_of_eq e3 e4]
        exact H
/-- What stands in the slot just filled. -/
theorem holdsV_pt {p : Path} {c : Bool} {t : Nat} (hs : st.m.length = C.keep.length) (hn : isIn C.keep t = true → lk st.l t = none) : ∃ x, holdsV C (pt C st p c (some t) v) t p c = some x ∧ (x = .undef ∨ x = v) := by
  unfold pt holdsV
  dsimp only
  by_cases hk : isIn C.keep t = true
  · simp only [hk, if_true]
    cases p with
    | nil => dsimp only; rw [hn hk]; dsimp only; rw [lkm_stm hk hs, if_pos rfl]; exact ⟨v, rfl, .inr rfl⟩
    | cons q p => dsimp only; rw [hn hk]; dsimp only; rw [lkm_stm hk hs, if_pos rfl]; exact ⟨.undef, rfl, .inl rfl⟩
  · simp only [hk]
    simp only [Bool.false_eq_true, if_false, lk, if_true, and_self]
    exact ⟨v, rfl, .inr rfl⟩
end Go.Den

/- Draw regions, fifth part: den goes ahead up to the next turn. -/
namespace Go.Den
open Go
variable {C : Ctx} {R : Rt} {G G0 G1 : Gh} {st st1 st2 σ σ1 s s1 : St} {a : Act} {w w' : World} {o : Oper} {v : SV} {ops : Array Oper} {ms : List Nat} {X : Nat → Prop}

/-- What is made in front: a variable, or an empty slice. -/
inductive NewK (C : Ctx) (o : Oper) (d : Nat) : Blk → SV → Prop
  | al (t : TypeId) (zs : List D) (h1 : o.op = .alloc t) (h2 : (tyOf C.P t).zeros = some zs) : NewK C o d (.box (svZs zs)) (.ptr (nm d 0) 0)
  | bs (t el : TypeId) (zs : List D) (h1 : o.op = .buildSlice t 0 #[]) (h2 : tyOf C.P t = .sl el) (h3 : elz C el = some zs) : NewK C o d (.row el zs.length []) (.own (nm d 0))
theorem NewK.bare {d : Nat} {b : Blk} {x0 : SV} (h : NewK C o d b x0) : bareB b := by
  cases h with
  | bs => trivial
  | al t zs _ _ =>
    intro c hc
    have : ∀ (zs : List D) (c : SV), c ∈ svZs zs → nmO c = none := fun zs => by
      induction zs with
      | nil => intro c hc; simp [svZs] at hc
      | cons z zs ih =>
        intro c hc
        simp only [svZs, List.mem_cons] at hc
        rcases hc with rfl | hc
        · unfold svZ; split <;> rfl
        · exact ih c hc
    exact this zs c hc
/-- .. that den has made and the machine has not. -/
def Waits (C : Ctx) (ops : Array Oper) (G : Gh) (σ s : St) (i : Nat) : Prop :=
  ∃ o d b x0, ops[i]? = some o ∧ o.guard = none ∧ o.dst = some d ∧ NewK C o d b x0 ∧ Unborn G σ.h (nm d 0) b ∧ ∃ x, holdsV C s d [] true = some x ∧ (x = x0 ∨ x = .undef)
/-- In the midst of a region: done by den, listed by the machine. -/
structure Mid (C : Ctx) (R : Rt) (ops : Array Oper) (ms : List Nat) (n : Nat) (X : Nat → Prop) (done : List (Nat × Nat)) (suf : List (Nat × Nat × List Nat)) (s σ : St) (G : Gh) (a : Act) (w : World) : Prop where
  dst : chkOps n [] ops.toList = true
  chk : chkD ops ms done suf = true
  wf : DoneWf ops.size ms done
  dx : ∀ i, X i → anyD done i = true
  cl : ∀ i j, X i → bef ms i j = true → X j
  tx : ∀ i, hasD done i 1 = true → X i
  kk : ∀ i, anyD done i = true → hasD done i 0 = true ∨ hasD done i 1 = true ∨ hasD done i 2 = true
  rd : ∀ i o t j oj, anyD done i = true → ¬ X i → ops[i]? = some o → t ∈ o.looksAt ops → ops[j]? = some oj → oj.dst = some t → bef ms i j = true ∨ (bef ms j i = true ∧ turnIn suf j = true)
  rel : Rel C (Hid ops X done) σ s
  ag : ∀ i, hasD done i 0 = true → ¬ X i → again C ops s i
  al : ∀ i, hasD done i 2 = true → ¬ X i → Waits C ops G σ s i
  inv : Inv C R G σ a w
  sm : s.m.length = C.keep.length
  lx : ∀ t, (lk σ.l t).isSome = true → (∃ i o, X i ∧ ops[i]? = some o ∧ o.dst = some t) ∧ isIn C.keep t = false
  ls : ∀ t, (lk s.l t).isSome = true → isIn C.keep t = false
  sz : a.tmps.size = n

theorem Mid.one {n : Nat} {done : List (Nat × Nat)} {suf : List (Nat × Nat × List Nat)} (M : Mid C R ops ms n X done suf s σ G a w) {i j : Nat} {o o' : Oper} {t : Nat} (h1 : ops[i]? = some o) (h2 : ops[j]? = some o') (h3 : o.dst = some t) (h4 : o'.dst = some t) : i = j :=
  (chkOps_dst M.dst).2 i j o o' t (by simpa using h1) (by simpa using h2) h3 h4
theorem Mid.lt {n : Nat} {done : List (Nat × Nat)} {suf : List (Nat × Nat × List Nat)} (M : Mid C R ops ms n X done suf s σ G a w) {i : Nat} {o : Oper} {t : Nat} (h1 : ops[i]? = some o) (h3 : o.dst = some t) : t < a.tmps.size := by
  rw [M.sz]; exact ((chkOps_dst M.dst).1 i o t (by simpa using h1) h3).1
theorem Mid.notX {n : Nat} {done : List (Nat × Nat)} {suf : List (Nat × Nat × List Nat)} (M : Mid C R ops ms n X done suf s σ G a w) {i : Nat} (h : anyD done i = false) : ¬ X i := fun hx => by rw [M.dx i hx] at h; cases h
theorem lt_of_get {α : Type} {xs : Array α} {i : Nat} {x : α} (h : xs[i]? = some x) : i < xs.size := by
  have := Array.getElem?_eq_some_iff.1 h
  exact this.1
/-- Another operation's slots are not touched. -/
theorem Mid.stays {n : Nat} {done : List (Nat × Nat)} {suf : List (Nat × Nat × List Nat)} (M : Mid C R ops ms n X done suf s σ G a w) {i i' k : Nat} {js : List Nat} {r : List (Nat × Nat × List Nat)} {o : Oper} (hsuf : suf = (i, k, js) :: r) (hk : k ≠ 1) (K : Chk ops ms done i k js r o) (h1 : anyD done i' = true) (h2 : ¬ X i') :
    ∀ o' t, ops[i']? = some o' → t ∈ o'.looksAt ops ∨ o'.dst = some t → o.dst ≠ some t := by
  intro o' t ho' ht hd
  rcases ht with ht | ht
  · rcases M.rd i' o' t i o h1 h2 ho' ht K.ho hd with hb | ⟨_, hb⟩
    · have := M.wf.closed i' i h1 (lt_of_get K.ho) hb
      rw [K.new] at this; cases this
    · rw [hsuf] at hb
      simp only [turnIn, if_true, if_neg hk] at hb
      have := turnIn_new hb K.next
      rw [(anyD_cons i k done i).2 (.inl rfl)] at this; cases this
  · have := M.one ho' K.ho ht hd
    subst this
    rw [K.new] at h1; cases h1
theorem Mid.rd_next {n : Nat} {done : List (Nat × Nat)} {suf : List (Nat × Nat × List Nat)} (M : Mid C R ops ms n X done suf s σ G a w) {i k : Nat} {js : List Nat} {r : List (Nat × Nat × List Nat)} {o : Oper} (hsuf : suf = (i, k, js) :: r) (hk : k ≠ 1) (K : Chk ops ms done i k js r o) :
    ∀ i' o' t j oj, anyD ((i, k) :: done) i' = true → ¬ X i' → ops[i']? = some o' → t ∈ o'.looksAt ops → ops[j]? = some oj → oj.dst = some t → bef ms i' j = true ∨ (bef ms j i' = true ∧ turnIn r j = true) := by
  intro i' o' t j oj h1 h2 ho' ht hj hd
  rw [anyD_cons] at h1
  rcases h1 with rfl | h1
  · rw [K.ho] at ho'
    cases ho'
    rcases K.rd t ht j oj hj hd with h | h | h
    · exact .inl h
    · exact .inr h
    · exact absurd h.2 hk
  · rcases M.rd i' o' t j oj h1 h2 ho' ht hj hd with h | ⟨h, h'⟩
    · exact .inl h
    · rw [hsuf] at h'
      simp only [turnIn] at h'
      simp only [if_neg hk, ite_self] at h'
      exact .inr ⟨h, h'⟩

theorem hid_next {done : List (Nat × Nat)} {i k : Nat} (ho : ops[i]? = some o) (hx : ¬ X i) (t : Nat) : Hid ops X ((i, k) :: done) t ↔ (Hid ops X done t ∨ o.dst = some t) := by
  constructor
  · rintro ⟨j, oj, h1, h2, h3, h4⟩
    rw [anyD_cons] at h1
    rcases h1 with rfl | h1
    · rw [ho] at h3; cases h3; exact .inr h4
    · exact .inl ⟨j, oj, h1, h2, h3, h4⟩
  · rintro (⟨j, oj, h1, h2, h3, h4⟩ | h)
    · exact ⟨j, oj, (anyD_cons _ _ _ _).2 (.inr h1), h2, h3, h4⟩
    · exact ⟨i, o, (anyD_cons _ _ _ _).2 (.inl rfl), hx, ho, h⟩
/-- den does an operation that changes nothing. -/
theorem Mid.light {n i : Nat} {done : List (Nat × Nat)} {js : List Nat} {r : List (Nat × Nat × List Nat)} {p : Path} {c : Bool} (M : Mid C R ops ms n X done ((i, 0, js) :: r) s σ G a w) (K : Chk ops ms done i 0 js r o) (hg : guardOf ops s o.guard = some (p, c)) (hl : c = false ∨ Den.light C s p o.op = some (true, v)) :
    Mid C R ops ms n X ((i, 0) :: done) r (pt C s p c o.dst v) σ G a w := by
  have hx : ¬ X i := M.notX K.new
  have hfree : ∀ t, o.dst = some t → lk σ.l t = none := fun t ht => by
    cases he : lk σ.l t with
    | none => rfl
    | some e =>
      obtain ⟨⟨j, oj, h1, h2, h3⟩, _⟩ := M.lx t (by rw [he]; rfl)
      have := M.one K.ho h2 ht h3
      subst this
      exact absurd h1 hx
  have hself : ∀ t, t ∈ o.looksAt ops → o.dst ≠ some t := fun t ht hd => by
    rcases K.rd t ht i o K.ho hd with h | ⟨h, _⟩ | ⟨_, h⟩
    · have := K.sub i (lt_of_get K.ho) h; rw [K.new] at this; cases this
    · have := K.sub i (lt_of_get K.ho) h; rw [K.new] at this; cases this
    · cases h
  have hlsN : ∀ t, isIn C.keep t = true → lk s.l t = none := fun t hk => by
    cases he : lk s.l t with
    | none => rfl
    | some e => have := M.ls t (by rw [he]; rfl); rw [hk] at this; cases this
  refine { dst := M.dst, chk := K.next, wf := ⟨fun j hj hb => K.sub j hj hb, M.wf⟩, dx := fun j hj => (anyD_cons _ _ _ _).2 (.inr (M.dx j hj)), cl := M.cl, tx := fun j hj => ?_, kk := fun j hj => ?_, rd := M.rd_next rfl (by decide) K, rel := ?_, ag := fun j hj hxj => ?_, al := fun j hj hxj => ?_, inv := M.inv, sm := by rw [pt_m]; exact M.sm, lx := M.lx, ls := fun t ht => ?_, sz := M.sz }
  · rw [hasD_cons] at hj
    rcases hj with ⟨_, h⟩ | hj
    · cases h
    · exact M.tx j hj
  · rw [anyD_cons] at hj
    simp only [hasD_cons]
    rcases hj with rfl | hj
    · exact .inl (by simp)
    · rcases M.kk j hj with h | h | h
      · exact .inl (.inr h)
      · exact .inr (.inl (.inr h))
      · exact .inr (.inr (.inr h))
  · cases hd : o.dst with
    | none => exact M.rel.congr fun t => by rw [hid_next K.ho hx, hd]; simp
    | some t => exact (M.rel.ahead (hfree t hd) M.sm).congr fun u => by rw [hid_next K.ho hx, hd]; simp [eq_comm]
  · rw [hasD_cons] at hj
    rcases hj with ⟨rfl, _⟩ | hj
    · -- the operation itself
      unfold again
      rw [K.ho]
      dsimp only
      have e1 : guardOf ops (pt C s p c o.dst v) o.guard = guardOf ops s o.guard := guard_of_eq fun j b oj t hgj hj ht => (pt_other (hself t (looks_guard hgj hj ht)) M.sm).1
      have e2 : Den.light C (pt C s p c o.dst v) p o.op = Den.light C s p o.op := light_congr (pt_h _ _ _ _ _) fun t ht p => by
        obtain ⟨e3, e4⟩ := pt_other (C := C) (st := s) (p := p) (c := c) (v := v) (hself t (looks_tmp ht)) M.sm
        exact gt_of_eq (pt_other (hself t (looks_tmp ht)) M.sm).1 (pt_other (hself t (looks_tmp ht)) M.sm).2 p
      rw [e1, hg]
      dsimp only
      rw [e2]
      cases hd : o.dst with
      | none =>
        dsimp only
        rcases hl with hl | hl
        · exact .inl hl
        · exact .inr ⟨v, hl⟩
      | some t =>
        dsimp only
        obtain ⟨x, h1, h2⟩ := holdsV_pt (C := C) (v := v) (p := p) (c := c) (t := t) M.sm (hlsN t)
        rw [h1]
        dsimp only
        rcases hl with hl | hl
        · exact .inl hl
        · exact .inr ⟨v, hl, by rcases h2 with h | h; exact .inl h; exact .inr h.symm⟩
    · exact again_of_eq (pt_h _ _ _ _ _) (fun o' t ho' ht => pt_other (M.stays rfl (by decide) K (hasD_any hj) hxj o' t ho' ht) M.sm) (M.ag j hj hxj)
  · rw [hasD_cons] at hj
    rcases hj with ⟨_, h⟩ | hj
    · cases h
    · obtain ⟨o', d, b, y0, h1, h3, h4, h5, h6, x, h7, h8⟩ := M.al j hj hxj
      obtain ⟨e3, e4⟩ := pt_other (C := C) (st := s) (p := p) (c := c) (v := v) (M.stays rfl (by decide) K (hasD_any hj) hxj o' d h1 (.inr h4)) M.sm
      exact ⟨o', d, b, y0, h1, h3, h4, h5, h6, x, by rw [holdsV_of_eq e3 e4]; exact h7, h8⟩
  · -- slots filled are not kept
    unfold pt at ht
    cases hd : o.dst with
    | none => rw [hd] at ht; exact M.ls t ht
    | some d =>
      rw [hd] at ht
      dsimp only at ht
      split at ht
      · refine M.ls t ?_
        split at ht <;> exact ht
      · rename_i hk
        simp only [lk] at ht
        split at ht
        · rename_i e; subst e; simpa using hk
        · exact M.ls t ht
theorem adds_single {n : Nat} {b : Blk} (h : adds st [(n, b)] = some st1) : hlk st.h n = none ∧ st1 = { st with h := st.h ++ [(n, b)] } := by
  simp only [adds] at h
  split at h
  · cases h
  · rename_i hn; cases h; exact ⟨hn, rfl⟩
/-- A box in the memory's list whose variable is not there yet. -/
theorem unborn_inv {n : Nat} {b : Blk} (H : Inv C R G σ a w) (hn : hlk σ.h n = none) : Inv C R G { σ with h := σ.h ++ [(n, b)] } a w ∧ ¬ G.live n ∧ ∀ m cs, Unborn G σ.h m cs → Unborn G (σ.h ++ [(n, b)]) m cs := by
  have hnl : ¬ G.live n := fun h => by obtain ⟨b', hb, _⟩ := H.B.rel n h id; rw [hn] at hb; cases hb
  have key : ∀ m x, hlk σ.h m = some x → hlk (σ.h ++ [(n, b)]) m = some x := fun m x h => by rw [hlk_append, h]
  have hs : ∀ m, Same G σ.h G (σ.h ++ [(n, b)]) m := fun m hm => ⟨hm, rfl, rfl, fun e sz xs hx => ⟨xs, key _ _ hx⟩⟩
  refine ⟨⟨H.W, ⟨fun m hm _ => ?_, fun m k hm _ hk _ => H.B.disj m k hm id hk id, fun m hm _ => H.B.mine m hm id, fun m b' hf => ?_⟩, fun _ _ _ => id, fun t => ?_, H.l, H.m⟩, hnl, fun m cs ⟨h1, h2, h3⟩ => ⟨h1, key _ _ h2, h3⟩⟩
  · obtain ⟨x, h1, h2⟩ := H.B.rel m hm id
    exact ⟨x, key _ _ h1, brel_same hs rfl rfl rfl h2⟩
  · obtain ⟨h1, h2, h3⟩ := H.B.fix m b' hf
    obtain ⟨cs, hc⟩ := h3 id
    exact ⟨h1, h2, fun _ => ⟨cs, key _ _ hc⟩⟩
  · exact slot_same hs (H.slots t)
/-- den does an alloc. -/
theorem Mid.alloc {n i : Nat} {done : List (Nat × Nat)} {js : List Nat} {r : List (Nat × Nat × List Nat)} {d : Nat} {b : Blk} {x0 : SV} (M : Mid C R ops ms n X done ((i, 2, js) :: r) s σ G a w) (K : Chk ops ms done i 2 js r o) (hg : o.guard = none) (hd : o.dst = some d) (hz : NewK C o d b x0)
    (hh : adds s [(nm d 0, b)] = some s1) : Mid C R ops ms n X ((i, 2) :: done) r (pt C s1 [] true o.dst x0) { σ with h := σ.h ++ [(nm d 0, b)] } G a w := by
  have hx : ¬ X i := M.notX K.new
  obtain ⟨hn, rfl⟩ := adds_single hh
  have hn' : hlk σ.h (nm d 0) = none := by rw [M.rel.h]; exact hn
  obtain ⟨u1, u2, u3⟩ := unborn_inv (b := b) M.inv hn'
  obtain ⟨_, hall⟩ := K.alloc rfl
  have hfree : lk σ.l d = none := by
    cases he : lk σ.l d with
    | none => rfl
    | some e =>
      obtain ⟨⟨j, oj, h1, h2, h3⟩, _⟩ := M.lx d (by rw [he]; rfl)
      have := M.one K.ho h2 hd h3
      subst this
      exact absurd h1 hx
  have hlsN : ∀ t, isIn C.keep t = true → lk s.l t = none := fun t hk => by
    cases he : lk s.l t with
    | none => rfl
    | some e => have := M.ls t (by rw [he]; rfl); rw [hk] at this; cases this
  refine { dst := M.dst, chk := K.next, wf := ⟨fun j hj hb => K.sub j hj hb, M.wf⟩, dx := fun j hj => (anyD_cons _ _ _ _).2 (.inr (M.dx j hj)), cl := M.cl, tx := fun j hj => ?_, kk := fun j hj => ?_, rd := M.rd_next rfl (by decide) K, rel := ?_, ag := fun j hj hxj => ?_, al := fun j hj hxj => ?_, inv := u1, sm := by rw [pt_m]; exact M.sm, lx := M.lx, ls := fun t ht => ?_, sz := M.sz }
  · rw [hasD_cons] at hj
    rcases hj with ⟨_, h⟩ | hj
    · cases h
    · exact M.tx j hj
  · rw [anyD_cons] at hj
    simp only [hasD_cons]
    rcases hj with rfl | hj
    · exact .inr (.inr (by simp))
    · rcases M.kk j hj with h | h | h
      · exact .inl (.inr h)
      · exact .inr (.inl (.inr h))
      · exact .inr (.inr (.inr h))
  · rw [hd]
    have R1 : Rel C (Hid ops X done) { σ with h := σ.h ++ [(nm d 0, b)] } { s with h := s.h ++ [(nm d 0, b)] } := ⟨by show σ.h ++ _ = s.h ++ _; rw [M.rel.h], M.rel.eq, M.rel.no⟩
    exact (R1.ahead hfree M.sm).congr fun u => by rw [hid_next K.ho hx, hd]; simp [eq_comm]
  · rw [hasD_cons] at hj
    rcases hj with ⟨_, h⟩ | hj
    · cases h
    · have := hall j 0 hj; cases this
  · rw [hasD_cons] at hj
    rcases hj with ⟨rfl, _⟩ | hj
    · obtain ⟨x, h1, h2⟩ := holdsV_pt (C := C) (st := { s with h := s.h ++ [(nm d 0, b)] }) (v := x0) (p := []) (c := true) (t := d) M.sm (hlsN d)
      refine ⟨o, d, b, x0, K.ho, hg, hd, hz, ⟨u2, ?_, hz.bare⟩, x, by rw [hd]; exact h1, h2.symm⟩
      rw [hlk_append, hn']; simp [hlk]
    · obtain ⟨o', d', b', y0, h1, h3, h4, h5, h6, x, h7, h8⟩ := M.al j hj hxj
      obtain ⟨e3, e4⟩ := pt_other (C := C) (st := { s with h := s.h ++ [(nm d 0, b)] }) (p := []) (c := true) (v := x0) (M.stays rfl (by decide) K (hasD_any hj) hxj o' d' h1 (.inr h4)) M.sm
      exact ⟨o', d', b', y0, h1, h3, h4, h5, u3 _ _ h6, x, by rw [holdsV_of_eq e3 e4]; exact h7, h8⟩
  · unfold pt at ht
    rw [hd] at ht
    dsimp only at ht
    split at ht
    · exact M.ls t ht
    · rename_i hk
      simp only [lk] at ht
      split at ht
      · rename_i e; subst e; simpa using hk
      · exact M.ls t ht
theorem runDraw_cons {i k : Nat} {js : List Nat} {r : List (Nat × Nat × List Nat)} (h : runDraw C ops ((i, k, js) :: r) s = some st2) (ho : ops[i]? = some o) : ∃ s1, stepD C ops o k s = some s1 ∧ frames C ops s (hitsOf C s o) js = true ∧ runDraw C ops r s1 = some st2 := by
  simp only [runDraw, ho] at h
  split at h
  · rename_i h2
    split at h
    · rename_i s1 h1; exact ⟨s1, h1, h2, h⟩
    · cases h
  · cases h
theorem stepD_zero (h : stepD C ops o 0 s = some s1) : ∃ p c v, guardOf ops s o.guard = some (p, c) ∧ (c = false ∨ Den.light C s p o.op = some (true, v)) ∧ s1 = pt C s p c o.dst v := by
  unfold stepD at h
  cases hg : guardOf ops s o.guard with
  | none => rw [hg] at h; cases h
  | some pc =>
    obtain ⟨p, c⟩ := pc
    rw [hg] at h
    simp only at h
    cases hl : Den.light C s p o.op with
    | none =>
      rw [hl] at h
      cases p with
      | nil => cases h
      | cons q p =>
        cases c with
        | true => cases h
        | false => simp only [Bool.false_eq_true, if_false] at h; cases h; exact ⟨_, _, .undef, rfl, .inl rfl, rfl⟩
    | some q =>
      obtain ⟨ok, v⟩ := q
      rw [hl] at h
      simp only at h
      by_cases hok : okP p c ok = true
      · rw [if_pos hok] at h; cases h
        refine ⟨p, c, v, rfl, ?_, rfl⟩
        cases c with
        | false => exact .inl rfl
        | true => have := okP_ok hok rfl; subst this; exact .inr hl
      · rw [if_neg hok] at h; cases h
theorem stepD_turn (h : stepD C ops o 1 s = some s1) : ∃ p c, guardOf ops s o.guard = some (p, c) ∧ (p = [] ∧ ((∃ v, Den.light C s [] o.op = some (true, v) ∧ s1 = pt C s [] true o.dst v) ∨ Den.light C s [] o.op = none ∧ ∃ v s2, heavy C s (o.dst.getD 0) o.op = some (true, v, s2) ∧ s1 = pt C s2 [] true o.dst v) ∨
    p ≠ [] ∧ (c = false ∧ s1 = pt C s p false o.dst .undef ∨ c = true ∧ hits C (atP p s) o.op = [] ∧ ∃ v s2, heavy C (atP p s) (o.dst.getD 0) o.op = some (true, v, s2) ∧ s1 = pt C { s with h := s2.h } p true o.dst v)) := by
  unfold stepD at h
  cases hg : guardOf ops s o.guard with
  | none => rw [hg] at h; cases h
  | some pc =>
    obtain ⟨p, c⟩ := pc
    rw [hg] at h
    simp only at h
    refine ⟨p, c, rfl, ?_⟩
    cases p with
    | cons q p =>
      refine .inr ⟨by simp, ?_⟩
      simp only at h
      cases c with
      | false =>
        simp only [Bool.false_eq_true, if_false] at h
        cases h; exact .inl ⟨rfl, rfl⟩
      | true =>
        simp only [if_true] at h
        by_cases he : (hits C (atP (q :: p) s) o.op).isEmpty = true
        · rw [if_pos he] at h
          cases hh : heavy C (atP (q :: p) s) (o.dst.getD 0) o.op with
          | none => rw [hh] at h; cases h
          | some z =>
            obtain ⟨ok, v, s2⟩ := z
            rw [hh] at h
            simp only at h
            by_cases hok : ok = true
            · rw [if_pos hok] at h; cases h; exact .inr ⟨rfl, List.isEmpty_iff.1 he, v, s2, by rw [hok], rfl⟩
            · rw [if_neg hok] at h; cases h
        · rw [if_neg he] at h; cases h
    | nil =>
      simp only at h
      refine .inl ⟨rfl, ?_⟩
      cases hl : Den.light C s [] o.op with
      | some q =>
        obtain ⟨ok, v⟩ := q
        rw [hl] at h
        simp only at h
        by_cases hok : ok = true
        · rw [if_pos hok] at h; cases h; exact .inl ⟨v, by rw [hok], rfl⟩
        · rw [if_neg hok] at h; cases h
      | none =>
        rw [hl] at h
        simp only at h
        cases hh : heavy C s (o.dst.getD 0) o.op with
        | none => rw [hh] at h; cases h
        | some q =>
          obtain ⟨ok, v, s2⟩ := q
          rw [hh] at h
          simp only at h
          by_cases hok : ok = true
          · rw [if_pos hok] at h; cases h; exact .inr ⟨rfl, v, s2, by rw [hok], rfl⟩
          · rw [if_neg hok] at h; cases h
/-- Up to the next turn. -/
theorem Mid.advance {n : Nat} : ∀ {suf : List (Nat × Nat × List Nat)} {done : List (Nat × Nat)} {s σ : St}, Mid C R ops ms n X done suf s σ G a w → runDraw C ops suf s = some st2 →
    ∃ done' suf' s' σ', Mid C R ops ms n X done' suf' s' σ' G a w ∧ runDraw C ops suf' s' = some st2 ∧ (suf' = [] ∨ ∃ i js r, suf' = (i, 1, js) :: r)
  | [], done, s, σ, M, h => ⟨done, [], s, σ, M, h, .inl rfl⟩
  | (i, k, js) :: r, done, s, σ, M, h => by
    obtain ⟨o, K⟩ := chkD_cons M.chk
    rcases K.cls with rfl | rfl | rfl
    · obtain ⟨s1, h1, _, h3⟩ := runDraw_cons h K.ho
      obtain ⟨p, c, v, hg, hl, rfl⟩ := stepD_zero h1
      exact (M.light K hg hl).advance h3
    · exact ⟨done, _, s, σ, M, h, .inr ⟨i, js, r, rfl⟩⟩
    · obtain ⟨s1, h1, _, h3⟩ := runDraw_cons h K.ho
      obtain ⟨hal, _⟩ := K.alloc rfl
      unfold isAlloc at hal
      split at hal
      · rename_i t d hop hgd hd
        unfold stepD at h1
        rw [hgd] at h1
        simp only [guardOf, hop, Den.light, heavy, hd, Option.getD_some] at h1
        split at h1
        · rename_i ok v s' heq
          split at heq
          · rename_i zs hz
            rw [Option.map_eq_some_iff] at heq
            obtain ⟨s0, h4, h5⟩ := heq
            cases h5
            simp only [if_true] at h1
            cases h1
            have := (M.alloc K hgd hd (.al t zs hop hz) h4)
            rw [hd] at this
            exact this.advance h3
          · cases heq
        · cases h1
      · rename_i t parts d hop hgd hd
        have hpe : parts = #[] := Array.isEmpty_iff.1 hal
        subst hpe
        unfold stepD at h1
        rw [hgd] at h1
        simp only [guardOf, hop, Den.light, heavy, hd, Option.getD_some, rowsOf, List.length_nil, Nat.zero_mul, Nat.zero_le, and_self, if_true] at h1
        split at h1
        · rename_i ok v s' heq
          split at heq
          · rename_i el ht
            split at heq
            · rename_i zs hz
              rw [Option.map_eq_some_iff] at heq
              obtain ⟨s0, h4, h5⟩ := heq
              cases h5
              simp only [if_true] at h1
              cases h1
              have := (M.alloc K hgd hd (.bs t el zs hop ht hz) h4)
              rw [hd] at this
              exact this.advance h3
            · cases heq
          · cases heq
        · cases h1
      · cases hal
end Go.Den

/- Draw regions, sixth part: what the machine does, one operation after the other. -/
namespace Go.Den
open Go
variable {C : Ctx} {R : Rt} {G G' G0 G1 : Gh} {st st1 st2 σ σ1 s s1 : St} {a a' : Act} {w w' : World} {o : Oper} {v x : SV} {ops : Array Oper} {ms : List Nat} {X : Nat → Prop} {n : Nat} {done : List (Nat × Nat)} {suf : List (Nat × Nat × List Nat)}

theorem bef_split {ops : List Oper} {i j : Nat} {o : Oper} (ho : ops[i]? = some o) (hb : bef (befores [] ops) i j = true) : ∃ e ∈ o.after.toList, Region.binds .any e = true ∧ (j = e.on ∨ bef (befores [] ops) e.on j = true) := by
  obtain ⟨r, h1, h2, h3⟩ := befores_spec ops []
  simp only [List.nil_append] at h1 h3
  unfold bef at hb ⊢
  rw [h1] at hb ⊢
  rw [List.getD_eq_getElem?_getD, h3 i o ho] at hb
  simp only [Option.getD_some, maskE_bit] at hb
  obtain ⟨e, he, hbind, hj⟩ := hb
  refine ⟨e, he, hbind, ?_⟩
  rcases hj with hj | hj
  · exact .inl hj
  · refine .inr ?_
    by_cases hlt : e.on < i
    · rw [List.getD_eq_getElem?_getD, List.getElem?_take, if_pos hlt] at hj
      rw [List.getD_eq_getElem?_getD]
      exact hj
    · rw [List.getD_eq_getElem?_getD, List.getElem?_take, if_neg hlt] at hj
      simp at hj
/-- Behind a turn all come after it. -/
theorem behind_turn {i0 i : Nat} : ∀ {r : List (Nat × Nat × List Nat)} {done : List (Nat × Nat)}, chkD ops ms done r = true → hasD done i0 1 = true → i < ops.size → anyD done i = false → bef ms i i0 = true
  | [], done, hc, _, hi, hn => by
    simp only [chkD, List.all_eq_true, List.mem_range] at hc
    rw [hc i hi] at hn; cases hn
  | (j, k, js) :: r, done, hc, h0, hi, hn => by
    obtain ⟨o, K⟩ := chkD_cons hc
    by_cases e : j = i
    · subst e
      by_cases hk : k = 2
      · have := (K.alloc hk).2 i0 1 h0
        cases this
      · exact K.turns hk i0 h0
    · refine behind_turn K.next ((hasD_cons _ _ _ _ _).2 (.inr h0)) hi ?_
      cases he : anyD ((j, k) :: done) i with
      | false => rfl
      | true =>
        rw [anyD_cons] at he
        rcases he with he | he
        · exact absurd he e
        · rw [hn] at he; cases he

theorem lx_pt {p : Path} {c : Bool} {d : Option Nat} {i : Nat} (hlx : ∀ t, (lk σ.l t).isSome = true → (∃ i o, X i ∧ ops[i]? = some o ∧ o.dst = some t) ∧ isIn C.keep t = false) (ho : ops[i]? = some o) (hd : o.dst = d) :
    ∀ t, (lk (pt C σ p c d x).l t).isSome = true → (∃ j o, (X j ∨ j = i) ∧ ops[j]? = some o ∧ o.dst = some t) ∧ isIn C.keep t = false := by
  have old : ∀ t, (lk σ.l t).isSome = true → (∃ j o, (X j ∨ j = i) ∧ ops[j]? = some o ∧ o.dst = some t) ∧ isIn C.keep t = false := fun t ht => by
    obtain ⟨⟨j, oj, h1, h2, h3⟩, h4⟩ := hlx t ht
    exact ⟨⟨j, oj, .inl h1, h2, h3⟩, h4⟩
  intro t ht
  unfold pt at ht
  cases d with
  | none => exact old t ht
  | some d =>
    dsimp only at ht
    split at ht
    · refine old t ?_
      split at ht <;> exact ht
    · rename_i hk
      simp only [lk] at ht
      split at ht
      · rename_i e; subst e; exact ⟨⟨i, o, .inr rfl, ho, hd⟩, by simpa using hk⟩
      · exact old t ht
theorem holds_of {t : Nat} {p : Path} {c : Bool} (hxt : holdsV C s t p c = some x) : Holds C s t p c x := by
  unfold holdsV at hxt
  split at hxt
  · rename_i hk
    refine .inr ⟨hk, ?_⟩
    split at hxt
    · rename_i hl
      refine ⟨hl, ?_⟩
      split at hxt
      · simp at hxt; exact ⟨hxt, fun h => absurd rfl h⟩
      · rename_i h; simp at hxt; rw [← hxt]; exact ⟨h, fun _ => rfl⟩
      · cases hxt
    · cases hxt
  · rename_i hk
    refine .inl ⟨by simpa using hk, ?_⟩
    split at hxt
    · rename_i q c' y hl
      split at hxt
      · rename_i h; obtain ⟨rfl, rfl⟩ := h; cases hxt; exact hl
      · cases hxt
    · cases hxt
/-- The machine catches up with an operation that den has done. -/
theorem Mid.caught {i : Nat} {p : Path} {c : Bool} (M : Mid C R ops ms n X done suf s σ G a w) (ho : ops[i]? = some o) (hi : anyD done i = true) (hX : ¬ X i) (hr : ∀ j, bef ms i j = true → X j) (hinv : Inv C R G' (pt C σ p c o.dst x) a' w') (hsz : a'.tmps.size = a.tmps.size)
    (hx : ∀ t, o.dst = some t → holdsV C s t p c = some x) (hal : ∀ d cs, (∀ t, o.dst = some t → d ≠ t) → Unborn G σ.h (nm d 0) cs → Unborn G' σ.h (nm d 0) cs) : Mid C R ops ms n (fun j => X j ∨ j = i) done suf s (pt C σ p c o.dst x) G' a' w' := by
  have hfree : ∀ t, o.dst = some t → lk σ.l t = none := fun t hd => by
    cases he : lk σ.l t with
    | none => rfl
    | some e =>
      obtain ⟨⟨j, oj, h1, h2, h3⟩, _⟩ := M.lx t (by rw [he]; rfl)
      have := M.one ho h2 hd h3
      subst this
      exact absurd h1 hX
  refine { dst := M.dst, chk := M.chk, wf := M.wf, dx := fun j hj => ?_, cl := fun j k hj hb => ?_, tx := fun j hj => .inl (M.tx j hj), kk := M.kk, rd := fun j o' t k oj h1 h2 => M.rd j o' t k oj h1 (fun h => h2 (.inl h)), rel := ?_, ag := fun j hj hxj => M.ag j hj (fun h => hxj (.inl h)), al := fun j hj hxj => ?_, inv := hinv, sm := M.sm, lx := lx_pt M.lx ho rfl, ls := M.ls, sz := hsz.trans M.sz }
  · rcases hj with hj | rfl
    · exact M.dx j hj
    · exact hi
  · rcases hj with hj | rfl
    · exact .inl (M.cl j k hj hb)
    · exact .inl (hr k hb)
  · cases hd : o.dst with
    | none =>
      refine M.rel.congr fun t => ⟨fun ⟨j, oj, h1, h2, h3, h4⟩ => ⟨j, oj, h1, fun h => h2 (.inl h), h3, h4⟩, fun ⟨j, oj, h1, h2, h3, h4⟩ => ⟨j, oj, h1, fun h => ?_, h3, h4⟩⟩
      rcases h with h | rfl
      · exact h2 h
      · rw [ho] at h3; cases h3; rw [hd] at h4; cases h4
    | some t =>
      have R1 := M.rel.catch_up (holds_of (hx t hd)) (hfree t hd) M.inv.m (fun hk => lkm_none hk)
      refine R1.congr fun u => ⟨fun ⟨j, oj, h1, h2, h3, h4⟩ => ⟨⟨j, oj, h1, fun h => h2 (.inl h), h3, h4⟩, fun e => h2 (.inr (M.one h3 ho h4 (by rw [e]; exact hd)))⟩, fun ⟨⟨j, oj, h1, h2, h3, h4⟩, h5⟩ => ⟨j, oj, h1, fun h => ?_, h3, h4⟩⟩
      rcases h with h | rfl
      · exact h2 h
      · rw [ho] at h3; cases h3; rw [hd] at h4; cases h4; exact h5 rfl
  · obtain ⟨o', d, b, y0, h1, h3, h4, h5, h6, y, h7, h8⟩ := M.al j hj (fun h => hxj (.inl h))
    exact ⟨o', d, b, y0, h1, h3, h4, h5, by rw [pt_h]; exact hal d _ (fun t' ht' e => hxj (.inr (M.one h1 ho (by rw [h4, e]) ht'))) h6, y, h7, h8⟩
/-- Whoever can be listed reads what den read. -/
theorem Mid.vis {i : Nat} (M : Mid C R ops ms n X done suf s σ G a w) (ho : ops[i]? = some o) (hi : anyD done i = true) (hX : ¬ X i) (hr : ∀ j, bef ms i j = true → X j) : ∀ t ∈ o.looksAt ops, ¬ Hid ops X done t := by
  rintro t ht ⟨j, oj, h1, h2, h3, h4⟩
  rcases M.rd i o t j oj hi hX ho ht h3 h4 with h | ⟨_, h⟩
  · exact h2 (hr j h)
  · have := turnIn_new h M.chk
    rw [h1] at this; cases this
theorem Mid.vis_turn {i : Nat} {js : List Nat} {r : List (Nat × Nat × List Nat)} (M : Mid C R ops ms n X done ((i, 1, js) :: r) s σ G a w) (K : Chk ops ms done i 1 js r o) (hr : ∀ j, bef ms i j = true → X j) : ∀ t ∈ o.looksAt ops, ¬ Hid ops X done t := by
  rintro t ht ⟨j, oj, h1, h2, h3, h4⟩
  rcases K.rd t ht j oj h3 h4 with h | ⟨_, h⟩ | ⟨h, _⟩
  · exact h2 (hr j h)
  · have := turnIn_new h K.next
    rw [(anyD_cons _ _ _ _).2 (.inr h1)] at this; cases this
  · subst h
    have := K.new
    rw [h1] at this; cases this
theorem Mid.guard {p : Path} {c : Bool} (M : Mid C R ops ms n X done suf s σ G a w) (hv : ∀ t ∈ o.looksAt ops, ¬ Hid ops X done t) (hg : guardOf ops s o.guard = some (p, c)) : guardOf ops σ o.guard = some (p, c) := by
  rw [M.rel.guard fun j b oj t hgj hj ht => hv t (looks_guard hgj hj ht)]
  exact hg
end Go.Den

/- Draw regions, last part: every order comes to what den says. -/
namespace Go.Den
open Go
variable {C : Ctx} {R : Rt} {G G' G0 G1 : Gh} {st st1 st2 σ σ1 σ2 s s1 s2 : St} {a a' : Act} {w w' : World} {o : Oper} {v x : SV} {ops : Array Oper} {ms : List Nat} {X : Nat → Prop} {n : Nat} {done : List (Nat × Nat)} {suf : List (Nat × Nat × List Nat)}

theorem frames_mem {hs : List Nat} : ∀ {js : List Nat}, frames C ops st hs js = true → ∀ j ∈ js, frame1 C ops st hs j = true
  | [], _, j, hj => by simp at hj
  | i :: js, h, j, hj => by
    simp only [frames, Bool.and_eq_true] at h
    rcases List.mem_cons.1 hj with rfl | hj
    · exact h.1
    · exact frames_mem h.2 j hj
theorem calms_mem {hs : List Nat} : ∀ {ts : List Nat}, calms C st hs ts = true → ∀ t ∈ ts, calm C st hs t = true
  | [], _, t, ht => by simp at ht
  | x :: ts, h, t, ht => by
    simp only [calms, Bool.and_eq_true] at h
    rcases List.mem_cons.1 ht with rfl | ht
    · exact h.1
    · exact calms_mem h.2 t ht
theorem quiets_mem {hs : List Nat} : ∀ {ts : List Nat}, quiets C st hs ts = true → ∀ t ∈ ts, quiet C st hs t = true
  | [], _, t, ht => by simp at ht
  | x :: ts, h, t, ht => by
    simp only [quiets, Bool.and_eq_true] at h
    rcases List.mem_cons.1 ht with rfl | ht
    · exact h.1
    · exact quiets_mem h.2 t ht
/-- 'again' stands where nothing is touched that it looks at. -/
theorem again_frame {i : Nat} {hs : List Nat} (A : Frm hs s s1) (hf : frame1 C ops s hs i = true) (H : again C ops s i) : again C ops s1 i := by
  unfold frame1 at hf
  unfold again at H ⊢
  cases ho : ops[i]? with
  | none => rw [ho] at H; exact H
  | some o =>
    rw [ho] at H hf
    dsimp only at H hf ⊢
    rw [Bool.and_eq_true] at hf
    have both : (∀ t ∈ o.looksAt ops, lk s1.l t = lk s.l t) ∧ ∀ p, light C s1 p o.op = light C s p o.op := by
      by_cases hd : dry o.op = true
      · have hf1 := hf.1
        rw [if_pos hd] at hf1
        have look : ∀ t ∈ o.looksAt ops, lk s1.l t = lk s.l t ∧ ∀ p, gt C s1 p t = gt C s p t := fun t ht => by
          obtain ⟨h1, _, h3⟩ := quiet_spec (quiets_mem hf1 t ht) A
          exact ⟨h1, h3⟩
        exact ⟨fun t ht => (look t ht).1, fun p => light_dry hd (fun t ht p => (look t (looks_tmp ht)).2 p) p⟩
      · have hf1 := hf.1
        rw [if_neg hd] at hf1
        have look : ∀ t ∈ o.looksAt ops, lk s1.l t = lk s.l t ∧ ∀ p, gt C s1 p t = gt C s p t ∧ SeeV s s1 (gt C s p t) := fun t ht => by
          obtain ⟨h1, _, h3⟩ := calm_spec (calms_mem hf1 t ht) A
          exact ⟨h1, h3⟩
        exact ⟨fun t ht => (look t ht).1, fun p => light_see (fun t ht p => ((look t (looks_tmp ht)).2 p).1) (fun t ht p => ((look t (looks_tmp ht)).2 p).2)⟩
    have e1 : guardOf ops s1 o.guard = guardOf ops s o.guard := guard_of_eq fun j b oj t hg hj ht => both.1 t (looks_guard hg hj ht)
    have e2 := both.2
    rw [e1]
    cases hg : guardOf ops s o.guard with
    | none => rw [hg] at H; exact H
    | some pc =>
      obtain ⟨p, c⟩ := pc
      rw [hg] at H
      dsimp only at H ⊢
      rw [e2]
      cases hd : o.dst with
      | none => rw [hd] at H; exact H
      | some t =>
        rw [hd] at H hf
        dsimp only at H hf ⊢
        obtain ⟨e3, e4, _⟩ := quiet_spec hf.2 A
        have e5 : holdsV C s1 t p c = holdsV C s t p c := by
          unfold holdsV
          rw [e3]
          cases hl : lk s.l t with
          | some e => rfl
          | none => rw [hl] at e4; dsimp only at e4; rw [e4]
        rw [e5]
        exact H

def PtrOr (x0 : SV) (x : SV) : Prop := (∃ n, x0 = .ptr n 0 ∨ x0 = .own n) ∧ (x = x0 ∨ x = .undef)
theorem ptrOr_kill {x0 : SV} {n : Nat} (h : PtrOr x0 x) : PtrOr x0 (killV n x) := by
  obtain ⟨⟨k, hk⟩, h⟩ := h
  refine ⟨⟨k, hk⟩, ?_⟩
  rcases h with rfl | rfl
  · rcases hk with rfl | rfl
    all_goals
      simp only [killV, killA, killC]
      split
      · exact .inr rfl
      · exact .inl rfl
  · exact .inr rfl
theorem NewK.or {d : Nat} {b : Blk} {x0 : SV} (h : NewK C o d b x0) : ∃ n, x0 = .ptr n 0 ∨ x0 = .own n := by
  cases h
  · exact ⟨_, .inl rfl⟩
  · exact ⟨_, .inr rfl⟩
theorem holds_kill {d n : Nat} {x0 : SV} {m : List SV} {l : List (Nat × Path × Bool × SV)} {h h' : List (Nat × Blk)} (e : ∃ x, holdsV C ⟨m, l, h⟩ d [] true = some x ∧ PtrOr x0 x) : ∃ x, holdsV C ⟨killM n m, killL n l, h'⟩ d [] true = some x ∧ PtrOr x0 x := by
  obtain ⟨x, h1, h2⟩ := e
  unfold holdsV at h1 ⊢
  dsimp only at h1 ⊢
  rw [lk_killL, lkm_killM]
  by_cases hk : isIn C.keep d = true
  · rw [if_pos hk] at h1 ⊢
    cases hl : lk l d with
    | none => rw [hl] at h1; simp at h1; subst h1; exact ⟨_, rfl, ptrOr_kill h2⟩
    | some q => rw [hl] at h1; cases h1
  · rw [if_neg hk] at h1 ⊢
    cases hl : lk l d with
    | none => rw [hl] at h1; cases h1
    | some q =>
      obtain ⟨q, c, y⟩ := q
      rw [hl] at h1
      dsimp only [Option.map] at h1 ⊢
      split at h1
      · rename_i hc; rw [if_pos hc]; cases h1; exact ⟨_, rfl, ptrOr_kill h2⟩
      · cases h1
theorem holds_kills {d : Nat} {x0 : SV} : ∀ (ns : List Nat) {m : List SV} {l : List (Nat × Path × Bool × SV)} {h h' : List (Nat × Blk)}, (∃ x, holdsV C ⟨m, l, h⟩ d [] true = some x ∧ PtrOr x0 x) → ∃ x, holdsV C ⟨killsM ns m, killsL ns l, h'⟩ d [] true = some x ∧ PtrOr x0 x
  | [], m, l, h, h', e => e
  | n :: ns, m, l, h, h', e => holds_kills ns (h := h) (holds_kill (h' := h) e)
theorem holds_sim {d : Nat} {x0 : SV} (A : Sim s s2 σ σ2) (e : ∃ x, holdsV C s d [] true = some x ∧ PtrOr x0 x) : ∃ x, holdsV C s2 d [] true = some x ∧ PtrOr x0 x := by
  obtain ⟨ns, a1, a2, _, _, _⟩ := A
  have := holds_kills (C := C) (d := d) (x0 := x0) ns (m := s.m) (l := s.l) (h := s.h) (h' := s2.h) e
  rw [← a1, ← a2] at this
  exact this
theorem killsM_len : ∀ (ns : List Nat) (m : List SV), (killsM ns m).length = m.length
  | [], m => rfl
  | n :: ns, m => by rw [killsM, killsM_len ns, killM_len]
theorem killsL_some (t : Nat) : ∀ (ns : List Nat) (l : List (Nat × Path × Bool × SV)), (lk (killsL ns l) t).isSome = (lk l t).isSome
  | [], l => rfl
  | n :: ns, l => by rw [killsL, killsL_some t ns, lk_killL]; cases lk l t <;> rfl

/-- A turn. -/
theorem Mid.turn {p : Path} {c : Bool} {i : Nat} {js : List Nat} {r : List (Nat × Nat × List Nat)} (M : Mid C R ops ms n X done ((i, 1, js) :: r) s σ G a w) (K : Chk ops ms done i 1 js r o) (hr : ∀ j, bef ms i j = true → X j) (A : Sim s s2 σ σ2) (hF2 : Frm (hitsOf C s o) s s2) (hag : frames C ops s (hitsOf C s o) js = true)
    (hinv : Inv C R G' (pt C σ2 p c o.dst v) a' w') (hm : σ2.m.length = C.keep.length) (hsz : a'.tmps.size = a.tmps.size) (hF : Fr G σ.h G' σ2.h) : Mid C R ops ms n (fun j => X j ∨ j = i) ((i, 1) :: done) r (pt C s2 p c o.dst v) (pt C σ2 p c o.dst v) G' a' w' := by
  have hX : ¬ X i := M.notX K.new
  have hsm : s2.m.length = C.keep.length := by obtain ⟨ns, a1, _⟩ := A; rw [a1, killsM_len]; exact M.sm
  have hs2l : ∀ t, (lk s2.l t).isSome = (lk s.l t).isSome := fun t => by obtain ⟨ns, _, a2, _⟩ := A; rw [a2, killsL_some]
  have hσ2l : ∀ t, (lk σ2.l t).isSome = (lk σ.l t).isSome := fun t => by obtain ⟨ns, _, _, _, a4, _⟩ := A; rw [a4, killsL_some]
  have hnh : ∀ t, o.dst = some t → ¬ Hid ops X done t := fun t ht ⟨j, oj, h1, h2, h3, h4⟩ => by
    have := M.one K.ho h3 ht h4; subst this; rw [K.new] at h1; cases h1
  have R2 := (M.rel.sim A).pt (v := v) (p := p) (c := c) hnh hm hsm
  have hjs : ∀ j, hasD done j 0 = true → ¬ (X j ∨ j = i) → again C ops (pt C s2 p c o.dst v) j := fun j hj hxj => by
    rcases K.again rfl j hj with h | h
    · exact absurd (.inl (hr j h)) hxj
    · have h2 := again_frame hF2 (frames_mem hag j h) (M.ag j hj (fun hx => hxj (.inl hx)))
      refine again_of_eq (pt_h _ _ _ _ _) (fun o' t ho' ht => pt_other (fun hd => ?_) hsm) h2
      rcases ht with ht | ht
      · rcases M.rd j o' t i o (hasD_any hj) (fun hx => hxj (.inl hx)) ho' ht K.ho hd with hb | ⟨hb, _⟩
        · have := M.wf.closed j i (hasD_any hj) (lt_of_get K.ho) hb
          rw [K.new] at this; cases this
        · exact hxj (.inl (hr j hb))
      · have := M.one ho' K.ho ht hd
        exact hxj (.inr this)
  refine { dst := M.dst, chk := K.next, wf := ⟨fun j hj hb => K.sub j hj hb, M.wf⟩, dx := fun j hj => ?_, cl := fun j k hj hb => ?_, tx := fun j hj => ?_, kk := fun j hj => ?_, rd := fun j o' t k oj h1 h2 ho' ht hk hd => ?_, rel := ?_, ag := fun j hj hxj => ?_, al := fun j hj hxj => ?_, inv := hinv, sm := by rw [pt_m]; exact hsm, lx := ?_, ls := fun t ht => ?_, sz := hsz.trans M.sz }
  · rw [anyD_cons]
    rcases hj with hj | rfl
    · exact .inr (M.dx j hj)
    · exact .inl rfl
  · rcases hj with hj | rfl
    · exact .inl (M.cl j k hj hb)
    · exact .inl (hr k hb)
  · rw [hasD_cons] at hj
    rcases hj with ⟨rfl, _⟩ | hj
    · exact .inr rfl
    · exact .inl (M.tx j hj)
  · rw [anyD_cons] at hj
    simp only [hasD_cons]
    rcases hj with rfl | hj
    · exact .inr (.inl (by simp))
    · rcases M.kk j hj with h | h | h
      · exact .inl (.inr h)
      · exact .inr (.inl (.inr h))
      · exact .inr (.inr (.inr h))
  · rw [anyD_cons] at h1
    rcases h1 with rfl | h1
    · exact absurd (.inr rfl) h2
    · rcases M.rd j o' t k oj h1 (fun h => h2 (.inl h)) ho' ht hk hd with h | ⟨h, h'⟩
      · exact .inl h
      · simp only [turnIn] at h'
        by_cases e : i = k
        · subst e
          exact absurd (.inl (hr j h)) h2
        · rw [if_neg e] at h'
          exact .inr ⟨h, h'⟩
  · refine R2.congr fun t => ⟨fun ⟨j, oj, h1, h2, h3, h4⟩ => ?_, fun ⟨j, oj, h1, h2, h3, h4⟩ => ⟨j, oj, (anyD_cons _ _ _ _).2 (.inr h1), fun h => ?_, h3, h4⟩⟩
    · rw [anyD_cons] at h1
      rcases h1 with rfl | h1
      · exact absurd (.inr rfl) h2
      · exact ⟨j, oj, h1, fun h => h2 (.inl h), h3, h4⟩
    · rcases h with h | rfl
      · exact h2 h
      · rw [K.new] at h1; cases h1
  · rw [hasD_cons] at hj
    rcases hj with ⟨_, h⟩ | hj
    · cases h
    · exact hjs j hj hxj
  · rw [hasD_cons] at hj
    rcases hj with ⟨_, h⟩ | hj
    · cases h
    · obtain ⟨o', d, b, y0, h1, h3, h4, h5, h6, y, h7, h8⟩ := M.al j hj (fun h => hxj (.inl h))
      obtain ⟨z, h9, h10⟩ := holds_sim (C := C) (d := d) (x0 := y0) A ⟨y, h7, h5.or, h8⟩
      have hne : o.dst ≠ some d := fun e => by
        have := M.one h1 K.ho h4 e
        exact hxj (.inr this)
      obtain ⟨e3, e4⟩ := pt_other (C := C) (st := s2) (p := p) (c := c) (v := v) hne hsm
      exact ⟨o', d, b, y0, h1, h3, h4, h5, by rw [pt_h]; exact hF _ _ h6, z, by rw [holdsV_of_eq e3 e4]; exact h9, h10.2⟩
  · exact lx_pt (fun t ht => M.lx t (by rw [← hσ2l t]; exact ht)) K.ho rfl
  · unfold pt at ht
    cases hd : o.dst with
    | none => rw [hd] at ht; exact M.ls t (by rw [← hs2l t]; exact ht)
    | some d =>
      rw [hd] at ht
      dsimp only at ht
      split at ht
      · exact M.ls t (by rw [← hs2l t]; cases p <;> exact ht)
      · rename_i hk
        simp only [lk] at ht
        split at ht
        · rename_i e; subst e; simpa using hk
        · exact M.ls t (by rw [← hs2l t]; exact ht)

theorem Mid.hereOf {p : Path} (M : Mid C R ops ms n X done suf s σ G a w) (hp : PathC σ.l p true) : Here C R G σ a w p := ⟨M.inv.W, M.inv.bare, M.inv.l, hp⟩
theorem Rel.atP {hid : Nat → Prop} (H : Rel C hid σ s) (p : Path) : Rel C hid (atP p σ) (atP p s) :=
  ⟨H.h, fun t ht => ⟨by show lk (atL p σ.l) t = lk (atL p s.l) t; rw [lk_atL, lk_atL, (H.eq t ht).1], (H.eq t ht).2⟩, fun t ht => by show lk (atL p σ.l) t = none; rw [lk_atL, H.no t ht]; rfl⟩
theorem hitsCall_congr {st st' : St} (hh : st'.h = st.h) : ∀ (ms : List Mode) (vs : List SV), hitsCall st' ms vs = hitsCall st ms vs
  | [], [] => rfl
  | [], _ :: _ => rfl
  | m :: ms, [] => by cases m <;> rfl
  | m :: ms, v :: vs => by
    have ih := hitsCall_congr hh ms vs
    cases m with
    | own ks => simp only [hitsCall, ih]
    | ptr ks => cases v <;> simp only [hitsCall, ih, hh]
    | _ => simp only [hitsCall, ih]
theorem hits_congr {st st' : St} {op : Op} (hh : st'.h = st.h) (hA : ∀ t, Operand.tmp t ∈ op.operands.toList → Den.gt C st' [] t = Den.gt C st [] t) : hits C st' op = hits C st op := by
  have hev : ∀ x ∈ op.operands.toList, ev C st' [] x = ev C st [] x := fun x hx => ev_of fun t ht => hA t (ht ▸ hx)
  cases op
  case buildSlice t n parts =>
    simp only [hits]
    have : ∀ l : List (Nat × Operand), (∀ q ∈ l, ev C st' [] q.2 = ev C st [] q.2) → partsV C st' l = partsV C st l := by
      intro l
      induction l with
      | nil => intro _; rfl
      | cons q l ih => intro h; obtain ⟨i, x⟩ := q; simp only [partsV]; rw [h (i, x) (by simp), ih (fun q hq => h q (by simp [hq]))]
    exact this _ (fun q hq => hev q.2 (by simp only [Op.operands, Array.toList_map, List.mem_map]; exact ⟨q, hq, rfl⟩))
  case store t p x => simp only [hits, hev p (by simp [Op.operands]), hev x (by simp [Op.operands])]
  case slice t x lo hi mx => simp only [hits, hev x (by simp [Op.operands])]
  case call c =>
    obtain ⟨callee, args, ts⟩ := c
    have hargs : evs C st' [] args.toList = evs C st [] args.toList := evs_congr fun x hx => hev x (by simp [Op.operands, Call.operands]; cases callee <;> simp <;> first | exact .inr (by simpa using hx) | simpa using hx)
    simp only [hits, hargs]
    split
    · rfl
    · exact hitsCall_congr hh _ _
    · rfl
  all_goals rfl
theorem frm_nil {st st1 : St} (h : Frm [] st st1) : st1.m = st.m ∧ st1.l = st.l ∧ ∀ n b, hlk st.h n = some b → hlk st1.h n = some b := by
  obtain ⟨ns, h1, h2, h3, h4⟩ := h
  have : ns = [] := by
    cases ns with
    | nil => rfl
    | cons n ns => exact absurd (h1 n (by simp)) (by simp)
  subst this
  exact ⟨h2, h3, fun n b hb => h4 n b hb (by simp)⟩
/-- One who stood at p goes back. -/
theorem unatP_inv {p : Path} {st1 : St} {G' : Gh} (H0 : Inv C R G σ a w) (H1 : Inv C R G' st1 a w') (em : st1.m = σ.m) (el : st1.l = (atP p σ).l) : Inv C R G' { σ with h := st1.h } a w' := by
  refine ⟨H1.W, H1.B, H1.all, fun t => ?_, H0.l, H0.m⟩
  have h0 := H0.slots t
  have h1 := H1.slots t
  unfold SlotR at h0 h1 ⊢
  dsimp only
  rw [el, em] at h1
  rw [show lk (atP p σ).l t = _ from lk_atL p σ.l t] at h1
  cases hl : lk σ.l t with
  | none => rw [hl] at h1; exact h1
  | some e =>
    obtain ⟨q, c, v⟩ := e
    rw [hl] at h0 h1
    dsimp only [Option.map] at h0 h1 ⊢
    cases c with
    | false => exact h0
    | true =>
      simp only [if_true]
      cases hs : strip p q with
      | nil => rw [hs] at h1; exact h1
      | cons x r => rw [hs] at h1; exact h1
/-- One operation of the machine. -/
theorem Mid.step {Q : Exit → Act → World → Prop} {i : Nat} {p0 : List Nat} (hlo : loOps p0 ops.toList = true) (hC : CtxOk C) (M : Mid C R ops ms n X done suf s σ G a w) (hsuf : suf = [] ∨ ∃ i js r, suf = (i, 1, js) :: r) (hrun : runDraw C ops suf s = some st2) (hi : i < ops.size) (hX : ¬ X i) (hr : ∀ j, bef ms i j = true → X j) (K : Act → World → Prop)
    (hK : ∀ done' suf' s' σ' G' a' w', Mid C R ops ms n (fun j => X j ∨ j = i) done' suf' s' σ' G' a' w' → runDraw C ops suf' s' = some st2 → (suf' = [] ∨ ∃ i js r, suf' = (i, 1, js) :: r) → Still p0 a a' → K a' w') : wpOp C.P ops Q i K a w := by
  obtain ⟨o, ho⟩ : ∃ o, ops[i]? = some o := ⟨ops[i], by simp [hi]⟩
  have hst : ∀ val, Still p0 a (a.put o.dst val) := fun val => put_still (loOps_mem hlo o (by rw [← Array.getElem?_toList] at ho; exact List.mem_of_getElem? ho))
  unfold wpOp
  rw [ho]
  dsimp only
  have hfree : ∀ t, o.dst = some t → lk σ.l t = none ∧ t < a.tmps.size := fun t hd => by
    refine ⟨?_, M.lt ho hd⟩
    cases he : lk σ.l t with
    | none => rfl
    | some e =>
      obtain ⟨⟨j, oj, h1, h2, h3⟩, _⟩ := M.lx t (by rw [he]; rfl)
      have := M.one ho h2 hd h3
      subst this
      exact absurd h1 hX
  by_cases hdone : anyD done i = true
  · have hv := M.vis ho hdone hX hr
    rcases M.kk i hdone with h0 | h1 | h2
    · -- changes nothing
      have hag := M.ag i h0 hX
      unfold again at hag
      rw [ho] at hag
      dsimp only at hag
      cases hg : guardOf ops s o.guard with
      | none => rw [hg] at hag; exact hag.elim
      | some pc =>
        obtain ⟨p, c⟩ := pc
        rw [hg] at hag
        dsimp only at hag
        obtain ⟨hp, hpc, hw⟩ := guard_rel M.inv (M.guard hv hg)
        rw [hw]
        have lc : ∀ p, Den.light C σ p o.op = Den.light C s p o.op := fun p => light_congr M.rel.h fun t ht q => M.rel.gt (hv t (looks_tmp ht)) q
        -- the slot's value
        have hag' : ∃ x, (∀ t, o.dst = some t → holdsV C s t p c = some x) ∧ (c = false ∨ ∃ v, Den.light C s p o.op = some (true, v) ∧ (x = .undef ∨ v = x)) := by
          cases hd : o.dst with
          | none =>
            rw [hd] at hag
            refine ⟨.undef, fun t h => (by cases h), ?_⟩
            rcases hag with h | ⟨v, h⟩
            · exact .inl h
            · exact .inr ⟨v, h, .inl rfl⟩
          | some t =>
            rw [hd] at hag
            dsimp only at hag
            cases hh : holdsV C s t p c with
            | none => rw [hh] at hag; exact hag.elim
            | some x => rw [hh] at hag; exact ⟨x, fun t' h => by cases h; exact hh, hag⟩
        obtain ⟨x, hx, hcv⟩ := hag'
        cases c with
        | false =>
          simp only [Bool.false_eq_true, if_false]
          refine hK done suf s _ G _ w (M.caught (p := p) (c := false) (x := x) ho hdone hX hr (put_inv M.inv rfl hp hpc hfree) (put_size _ _ _).1 hx (fun _ _ _ h => h)) hrun hsuf (hst _)
        | true =>
          simp only [if_true]
          rcases hcv with hcv | ⟨v, hl, hxv⟩
          · cases hcv
          · refine .inl (light_sound hC (M.hereOf hp) (fun t _ => M.inv.slots t) ((lc p).trans hl) (fun val w' hext hval => ?_))
            have hval' : VRel R G σ.h x val := by
              rcases hxv with rfl | rfl
              · trivial
              · exact hval
            refine hK done suf s _ G _ w' (M.caught (p := p) (c := true) (x := x) ho hdone hX hr (put_inv (inv_ext M.inv hext) hval' hp hpc hfree) (put_size _ _ _).1 hx (fun _ _ _ h => h)) hrun hsuf (hst _)
    · exact absurd (M.tx i h1) hX
    · -- an alloc
      obtain ⟨o', d, b, x0, e1, e3, e4, e5, e6, x, e7, e8⟩ := M.al i h2 hX
      rw [ho] at e1
      cases e1
      have hw : Region.wanted o (yielded ops a.tmps) = true := by simp [Region.wanted, e3]
      rw [hw]
      simp only [if_true]
      refine .inl ?_
      cases e5 with
      | al t zs e2 e5 =>
        obtain ⟨ti, z, h1, h2, h3, h4, h5, h6⟩ := ty_zero e5
        have hcl := cellsR_svZs (R := R) (G := G) (h := σ.h) (zs := zs) (vs := z.cells.toList) (by simpa using h4.symm) h6
        have hrn : (execOp a.eval o).run C.P w = .ok (.value (.pointer (some ⟨w.heap.size, 0, none⟩))) (w.alloc (.cells z.cells t)) := by
          simp [execOp, e2, Instr.alloc, zeroValue, typeInfo, h1, h2, newVar, newRow]
        unfold Oper.wp
        rw [hrn]
        obtain ⟨i1, i2, i3⟩ := born_inv (cur := z.cells) (e := t) M.inv e6 (ext_alloc w _) (heap_alloc_new w _) (size_alloc w _) (by rw [svZs_len, h4]; exact Nat.le_refl _) (fun j y hj => by obtain ⟨u, k1, k2, k3⟩ := hcl.2 j y hj; exact ⟨u, by simpa using k1, k2, k3⟩)
        have hval : VRel R (G.add (nm d 0) (w.heap.size, 0) undef (· = w.heap.size)) σ.h x (.pointer (some ⟨w.heap.size, 0, none⟩)) := by
          rcases e8 with rfl | rfl
          · exact i2
          · trivial
        refine hK done suf s _ _ _ _ (M.caught (p := []) (c := true) (x := x) ho hdone hX hr (put_inv i1 hval (.inl ⟨rfl, rfl⟩) (fun _ => rfl) hfree) (put_size _ _ _).1 (fun t' ht' => by rw [e4] at ht'; cases ht'; exact e7) (fun d' cs hne h => i3 _ _ (fun e => hne d e4 (by have e' : d' * 64 + 0 = d * 64 + 0 := e; exact Nat.eq_of_mul_eq_mul_right (by decide : 0 < 64) e')) h)) hrun hsuf (hst _)
      | bs t el zs e2 ht hz =>
        obtain ⟨hz1, hpos, hE⟩ := elz_ok hz
        obtain ⟨ti, z, h1, h2, h3, h4, h5, h6⟩ := ty_zero hz1
        obtain ⟨_, _, hu, _⟩ := ty_sl ht
        have hrn : (execOp a.eval o).run C.P w = .ok (.value (.slice (some ⟨w.heap.size, 0, none⟩) 0 0)) (w.alloc (.cells #[] el)) := by
          have key : (Instr.buildSlice t 0 #[]).run C.P w = .ok (.slice (some ⟨w.heap.size, 0, none⟩) 0 0) (w.alloc (.cells #[] el)) := by
            simp [Instr.buildSlice, run_underlying hu, sizeOf, typeInfo, h1, h3, Instr.fill, newRow, Array.range_zero']
          simp only [execOp, e2]
          simp [key]
        unfold Oper.wp
        rw [hrn]
        obtain ⟨i1, i2, i3⟩ := born_row (cur := #[]) (e := el) M.inv e6 (ext_alloc w _) (heap_alloc_new w _) (size_alloc w _) hE
        have hval : VRel R (G.add (nm d 0) (0, 0) (.slice (some ⟨w.heap.size, 0, none⟩) 0 0) (· = w.heap.size)) σ.h x (.slice (some ⟨w.heap.size, 0, none⟩) 0 0) := by
          rcases e8 with rfl | rfl
          · exact i2
          · trivial
        refine hK done suf s _ _ _ _ (M.caught (p := []) (c := true) (x := x) ho hdone hX hr (put_inv i1 hval (.inl ⟨rfl, rfl⟩) (fun _ => rfl) hfree) (put_size _ _ _).1 (fun t' ht' => by rw [e4] at ht'; cases ht'; exact e7) (fun d' cs hne h => i3 _ _ (fun e => hne d e4 (by have e' : d' * 64 + 0 = d * 64 + 0 := e; exact Nat.eq_of_mul_eq_mul_right (by decide : 0 < 64) e')) h)) hrun hsuf (hst _)
  · -- the next turn
    have hdone' : anyD done i = false := by simpa using hdone
    rcases hsuf with rfl | ⟨i0, js, r, rfl⟩
    · have hc := M.chk
      simp only [chkD, List.all_eq_true, List.mem_range] at hc
      exact absurd (hc i hi) hdone
    · obtain ⟨o', Kc⟩ := chkD_cons M.chk
      by_cases e : i = i0
      · subst e
        rw [Kc.ho] at ho
        cases ho
        obtain ⟨s1, hs1, hag, hnext⟩ := runDraw_cons hrun Kc.ho
        obtain ⟨p, c, hg, hs1⟩ := stepD_turn hs1
        have hv := M.vis_turn Kc hr
        obtain ⟨hp, hpc, hw⟩ := guard_rel M.inv (M.guard hv hg)
        rcases hs1 with ⟨rfl, hs1⟩ | ⟨hpn, hs1⟩
        · have hc := hpc rfl
          subst hc
          rw [hw]
          simp only [if_true]
          refine .inl ?_
          rcases hs1 with ⟨v, hl, rfl⟩ | ⟨hln, v, s2, hh, rfl⟩
          · have lc : Den.light C σ [] o.op = Den.light C s [] o.op := light_congr M.rel.h fun t ht q => M.rel.gt (hv t (looks_tmp ht)) q
            refine light_sound hC (M.hereOf hp) (fun t _ => M.inv.slots t) (lc.trans hl) (fun val w' hext hval => ?_)
            have M1 := M.turn (v := v) (s2 := s) (σ2 := σ) Kc hr (.refl M.rel.h) (.refl _ _) hag (put_inv (inv_ext M.inv hext) (c := true) hval hp hpc hfree) M.inv.m (put_size _ _ _).1 (Fr.refl _ _)
            obtain ⟨done', suf', s', σ', M2, h1, h2⟩ := M1.advance hnext
            exact hK done' suf' s' σ' _ _ _ M2 h1 h2 (hst _)
          · obtain ⟨σ2, k1, k2⟩ := heavy_sim (st' := σ) M.rel.h (fun t ht => M.rel.gt (hv t (looks_tmp ht)) []) hh
            refine heavy_sound hC M.inv k1 _ _ (fun val w' G' j1 j2 j3 => ?_)
            have hfree' : ∀ t, o.dst = some t → lk σ2.l t = none ∧ t < a.tmps.size := fun t ht => by
              refine ⟨?_, (hfree t ht).2⟩
              have := sameL_heavy k1 t
              rw [(hfree t ht).1] at this
              cases he : lk σ2.l t with
              | none => rfl
              | some q => rw [he] at this; cases this
            have M1 := M.turn (v := v) (s2 := s2) (σ2 := σ2) Kc hr k2 (by unfold hitsOf; rw [hln]; exact heavy_frm hh) hag (put_inv j1 (c := true) j2 (.inl ⟨rfl, rfl⟩) (fun _ => rfl) hfree') j1.m (put_size _ _ _).1 j3
            obtain ⟨done', suf', s', σ', M2, h1, h2⟩ := M1.advance hnext
            exact hK done' suf' s' σ' _ _ _ M2 h1 h2 (hst _)
        · rw [hw]
          rcases hs1 with ⟨rfl, rfl⟩ | ⟨rfl, hemp, v, s2, hh, rfl⟩
          · simp only [Bool.false_eq_true, if_false]
            have M1 := M.turn (p := p) (c := false) (v := .undef) (s2 := s) (σ2 := σ) Kc hr (.refl M.rel.h) (.refl _ _) hag (put_inv M.inv rfl hp hpc hfree) M.inv.m (put_size _ _ _).1 (Fr.refl _ _)
            obtain ⟨done', suf', s', σ', M2, h1, h2⟩ := M1.advance hnext
            exact hK done' suf' s' σ' _ _ _ M2 h1 h2 (hst _)
          · simp only [if_true]
            refine .inl ?_
            have hA : ∀ t, Operand.tmp t ∈ o.op.operands.toList → Den.gt C (atP p σ) [] t = Den.gt C (atP p s) [] t := fun t ht => (M.rel.atP p).gt (hv t (looks_tmp ht)) []
            obtain ⟨σ2, k1, k2⟩ := heavy_sim (st' := atP p σ) (show (atP p σ).h = (atP p s).h from M.rel.h) hA hh
            have hempσ : hits C (atP p σ) o.op = [] := by rw [hits_congr (show (atP p σ).h = (atP p s).h from M.rel.h) hA]; exact hemp
            obtain ⟨e1, e2, e3⟩ := frm_nil (hemp ▸ heavy_frm hh)
            obtain ⟨g1, g2, g3⟩ := frm_nil (hempσ ▸ heavy_frm k1)
            refine heavy_sound hC (atP_inv M.inv hp) k1 _ _ (fun val w' G' j1 j2 j3 => ?_)
            have hi := unatP_inv M.inv j1 g1 g2
            have M1 := M.turn (p := p) (c := true) (v := v) (s2 := { s with h := s2.h }) (σ2 := { σ with h := σ2.h }) Kc hr (sim_h _ _ k2.h) ⟨[], by simp, rfl, rfl, fun n b hb _ => e3 n b hb⟩ hag (put_inv hi j2 hp hpc hfree) hi.m (put_size _ _ _).1 j3
            obtain ⟨done', suf', s', σ', M2, h1, h2⟩ := M1.advance hnext
            exact hK done' suf' s' σ' _ _ _ M2 h1 h2 (hst _)
      · have hb := behind_turn Kc.next ((hasD_cons _ _ _ _ _).2 (.inl ⟨rfl, rfl⟩)) hi (by
          cases he : anyD ((i0, 1) :: done) i with
          | false => rfl
          | true =>
            rw [anyD_cons] at he
            rcases he with he | he
            · exact absurd he.symm e
            · exact absurd he hdone)
        have := M.dx i0 (hr i0 hb)
        rw [Kc.new] at this; cases this
/-- All are listed: the state is den's. -/
theorem Mid.fin (M : Mid C R ops ms n X done suf s σ G a w) (hsuf : suf = [] ∨ ∃ i js r, suf = (i, 1, js) :: r) (hrun : runDraw C ops suf s = some st2) (hall : ∀ i, i < ops.size → X i) : Inv C R G st2 a w ∧ st2.l = [] := by
  have hs : suf = [] := by
    rcases hsuf with h | ⟨i, js, r, rfl⟩
    · exact h
    · obtain ⟨o, K⟩ := chkD_cons M.chk
      have := M.dx i (hall i (lt_of_get K.ho))
      rw [K.new] at this; cases this
  subst hs
  simp only [runDraw, Option.some.injEq] at hrun
  subst hrun
  have hnh : ∀ t, ¬ Hid ops X done t := fun t ⟨j, oj, _, h2, h3, _⟩ => h2 (hall j (lt_of_get h3))
  have H := clear_inv M.inv (fun t ht => (M.lx t ht).2)
  refine ⟨⟨H.W, ?_, ?_, fun t => ?_, fun t q c v h => (by cases h), M.sm⟩, rfl⟩
  · have := H.B; rw [show ({ σ with l := [] } : St).h = s.h from M.rel.h] at this; exact this
  · have := H.all; rw [show ({ σ with l := [] } : St).h = s.h from M.rel.h] at this; exact this
  · have hx := H.slots t
    unfold SlotR at hx ⊢
    dsimp only [lk] at hx ⊢
    rw [M.rel.h, (M.rel.eq t (hnh t)).2] at hx
    exact hx
theorem countP_lt {p q : Nat → Bool} (h : ∀ i, q i = true → p i = true) : ∀ {l : List Nat} {i : Nat}, i ∈ l → p i = true → q i = false → l.countP q < l.countP p
  | [], i, hi, _, _ => by simp at hi
  | x :: l, i, hi, hp, hq => by
    have le : l.countP q ≤ l.countP p := List.countP_mono_left fun y _ => h y
    rcases List.mem_cons.1 hi with rfl | hi
    · rw [List.countP_cons_of_pos (l := l) hp, List.countP_cons_of_neg (by rw [hq]; simp)]; omega
    · have := countP_lt h hi hp hq
      by_cases hx : q x = true
      · rw [List.countP_cons_of_pos hx, List.countP_cons_of_pos (h x hx)]; omega
      · rw [List.countP_cons_of_neg hx]
        have := List.countP_le_length (p := p) (l := l)
        by_cases hpx : p x = true
        · rw [List.countP_cons_of_pos hpx]; omega
        · rw [List.countP_cons_of_neg hpx]; omega
theorem ready_mem {ops : Array Oper} {listed : Array Bool} {i : Nat} : i ∈ Region.ready .any ops listed ↔ i < ops.size ∧ listed.getD i true = false ∧ ∃ o, ops[i]? = some o ∧ ∀ e ∈ o.after.toList, Region.binds .any e = true → listed.getD e.on false = true := by
  unfold Region.ready
  rw [List.mem_filter, List.mem_range]
  constructor
  · rintro ⟨h1, h2⟩
    rw [Bool.and_eq_true, Bool.not_eq_true'] at h2
    refine ⟨h1, h2.1, ops[i], by simp [h1], fun e he hb => ?_⟩
    have h3 := h2.2
    simp only [h1, getElem?_pos, Option.map_some, Option.getD_some, Array.all_eq_true_iff_forall_mem] at h3
    have := h3 e (by simpa using he)
    rw [hb] at this
    simpa using this
  · rintro ⟨h1, h2, o, h3, h4⟩
    refine ⟨h1, ?_⟩
    rw [Bool.and_eq_true, Bool.not_eq_true']
    refine ⟨h2, ?_⟩
    rw [h3]
    simp only [Option.map_some, Option.getD_some, Array.all_eq_true_iff_forall_mem]
    intro e he
    cases hb : Region.binds .any e with
    | false => rfl
    | true => simpa using h4 e (by simpa using he) hb
/-- What is asked of the world behind a piece of code. -/
def After (C : Ctx) (R : Rt) (n : Nat) (p : List Nat) (a0 : Act) (st : St) (a : Act) (w : World) : Prop := ∃ G, Inv C R G st a w ∧ st.l = [] ∧ a.tmps.size = n ∧ Still p a0 a
theorem draw_any {Q : Exit → Act → World → Prop} (hC : CtxOk C) (hE : ∀ (i : Nat) o, ops[i]? = some o → ∀ e ∈ o.after.toList, Region.binds .any e = true → e.on < ops.size) {p0 : List Nat} {a0 : Act} (hlo : loOps p0 ops.toList = true) (hQ : ∀ a' w', After C R n p0 a0 st2 a' w' → Q .normal a' w') : ∀ (fuel : Nat) (listed : Array Bool) (X : Nat → Prop) (done : List (Nat × Nat)) (suf : List (Nat × Nat × List Nat)) (s σ : St) (G : Gh) (a : Act) (w : World), listed.size = ops.size → (∀ i, X i ↔ listed.getD i false = true) → (List.range ops.size).countP (fun i => !listed.getD i false) ≤ fuel →
    Mid C R ops (befores [] ops.toList) n X done suf s σ G a w → (suf = [] ∨ ∃ i js r, suf = (i, 1, js) :: r) → runDraw C ops suf s = some st2 → Still p0 a0 a → wpAny C.P .any ops Q fuel listed a w := by
  intro fuel
  induction fuel with
  | zero =>
    intro listed X done suf s σ G a w hsz hX hcnt M hsuf hrun hds
    have hall : ∀ i, i < ops.size → X i := fun i hi => by
      rw [hX]
      have h0 : (List.range ops.size).countP (fun i => !listed.getD i false) = 0 := by omega
      rw [List.countP_eq_zero] at h0
      have := h0 i (by simpa using hi)
      simpa using this
    obtain ⟨h1, h2⟩ := M.fin hsuf hrun hall
    refine ⟨?_, hQ a w ⟨G, h1, h2, M.sz, hds⟩⟩
    rw [List.eq_nil_iff_forall_not_mem]
    intro i hi
    obtain ⟨h3, h4, _⟩ := ready_mem.1 hi
    have := (hX i).1 (hall i h3)
    simp [Array.getD_eq_getD_getElem?, hsz, h3] at h4 this
    rw [h4] at this; cases this
  | succ fuel ih =>
    intro listed X done suf s σ G a w hsz hX hcnt M hsuf hrun hds
    have hun : ∀ i, i < ops.size → (listed.getD i true = false ↔ ¬ X i) := fun i hi => by
      rw [hX]
      simp [Array.getD_eq_getD_getElem?, hsz, hi]
    refine ⟨fun hnil => ?_, fun i hi => ?_⟩
    · -- nothing can be listed: all are
      have hall : ∀ i, i < ops.size → X i := by
        have no : ∀ i, i < ops.size → ¬ X i → (∀ j, j < ops.size → bef (befores [] ops.toList) i j = true → X j) → False := fun i hi hx hb => by
          obtain ⟨o, ho⟩ : ∃ o, ops[i]? = some o := ⟨ops[i], by simp [hi]⟩
          have : i ∈ Region.ready .any ops listed := ready_mem.2 ⟨hi, (hun i hi).2 hx, o, ho, fun e he hbind => (hX _).1 (hb _ (hE i o ho e he hbind) (bef_edge (ops := ops.toList) (i := i) (o := o) (by simpa using ho) he hbind))⟩
          rw [hnil] at this
          simp at this
        have hdone : ∀ i, anyD done i = true → i < ops.size → X i := fun i hi hlt => Classical.byContradiction fun hx => by
          obtain ⟨j, j1, j2, j3⟩ := M.wf.first (X := fun j => X j ∨ ¬ j < ops.size) ⟨i, hi, fun h => by rcases h with h | h; exact hx h; exact h hlt⟩
          refine no j (Classical.byContradiction fun h => j2 (.inr h)) (fun h => j2 (.inl h)) (fun k hk hb => ?_)
          rcases j3 k hk hb with h | h
          · exact h
          · exact absurd hk h
        intro i hi
        refine Classical.byContradiction fun hx => ?_
        have hn : ¬ anyD done i = true := fun h => hx (hdone i h hi)
        rcases hsuf with rfl | ⟨i0, js, r, rfl⟩
        · have hc := M.chk
          simp only [chkD, List.all_eq_true, List.mem_range] at hc
          exact hn (hc i hi)
        · obtain ⟨o, K⟩ := chkD_cons M.chk
          exact no i0 (lt_of_get K.ho) (M.notX K.new) (fun j hj hb => hdone j (K.sub j hj hb) hj)
      obtain ⟨h1, h2⟩ := M.fin hsuf hrun hall
      exact hQ a w ⟨G, h1, h2, M.sz, hds⟩
    · obtain ⟨h1, h2, o, h3, h4⟩ := ready_mem.1 hi
      have hx := (hun i h1).1 h2
      refine M.step hlo hC hsuf hrun h1 hx (fun j hb => ?_) _ (fun done' suf' s' σ' G' a' w' M' hrun' hsuf' hd' => ?_)
      · obtain ⟨e, he, hbind, hj⟩ := bef_split (ops := ops.toList) (by simpa using h3) hb
        have hon := (hX _).2 (h4 e he hbind)
        rcases hj with rfl | hj
        · exact hon
        · exact M.cl _ _ hon hj
      · refine ih _ _ done' suf' s' σ' G' a' w' (by simpa using hsz) (fun j => ?_) ?_ M' hsuf' hrun' (hds.trans hd')
        · rw [hX]
          simp only [Array.getD_eq_getD_getElem?, Array.getElem?_setIfInBounds]
          by_cases e : i = j
          · subst e; simp [hsz, h1]
          · simp [e, Ne.symm e]
        · have := countP_lt (p := fun i => !listed.getD i false) (q := fun j => !(listed.setIfInBounds i true).getD j false) (fun j hj => by
            simp only [Array.getD_eq_getD_getElem?, Array.getElem?_setIfInBounds] at hj ⊢
            by_cases e : i = j
            · subst e; simp [hsz, h1] at hj
            · simpa [e] using hj) (l := List.range ops.size) (i := i) (by simpa using h1) (by
              have := hX i
              cases hg : listed.getD i false with
              | false => rfl
              | true => exact absurd (this.2 hg) hx) (by simp [Array.getD_eq_getD_getElem?, hsz, h1])
          omega
theorem draw_sound {Q : Exit → Act → World → Prop} {p0 : List Nat} {a0 : Act} {order : List (Nat × Nat × List Nat)} (hC : CtxOk C) (H : After C R n p0 a0 st a w) (hlo : loOps p0 ops.toList = true) (hc : chkDraw n ops order = true) (hrun : runDraw C ops order st = some st2) (hQ : ∀ a' w', After C R n p0 a0 st2 a' w' → Q .normal a' w') :
    wpAny C.P .any ops Q ops.size (Array.replicate ops.size false) a w := by
  obtain ⟨G, H, hl, hs, hd⟩ := H
  simp only [chkDraw, Bool.and_eq_true] at hc
  obtain ⟨⟨h1, h2⟩, h3⟩ := hc
  have nol : ∀ t, (lk st.l t).isSome = true → False := fun t ht => by rw [hl] at ht; simp [lk] at ht
  have noD : ∀ i, anyD [] i = true → False := fun i h => by simp [anyD] at h
  have noH : ∀ i k, hasD [] i k = true → False := fun i k h => by simp [hasD] at h
  have M : Mid C R ops (befores [] ops.toList) n (fun _ => False) [] order st st G a w := { dst := h1, chk := h3, wf := trivial, dx := fun i h => h.elim, cl := fun i j h => h.elim, tx := fun i h => (noH i 1 h).elim, kk := fun i h => (noD i h).elim, rd := fun i o t j oj h => (noD i h).elim, rel := ⟨rfl, fun t _ => ⟨rfl, rfl⟩, fun t ⟨i, o, h, _⟩ => (noD i h).elim⟩, ag := fun i h => (noH i 0 h).elim, al := fun i h => (noH i 2 h).elim, inv := H, sm := H.m, lx := fun t h => (nol t h).elim, ls := fun t h => (nol t h).elim, sz := hs }
  obtain ⟨done', suf', s', σ', M', hrun', hsuf'⟩ := M.advance hrun
  refine draw_any hC (fun i o ho => edgesAll_spec h2 i o (by simpa using ho)) hlo hQ _ _ (fun _ => False) done' suf' s' σ' G a w (by simp) (fun i => ?_) ?_ M' hsuf' hrun' hd
  · simp only [Array.getD_eq_getD_getElem?, Array.getElem?_replicate, false_iff]
    split <;> simp
  · have := List.countP_le_length (p := fun i => !(Array.replicate ops.size false).getD i false) (l := List.range ops.size)
    simpa using this
end Go.Den

/- Code. -/
namespace Go.Den
open Go
variable {C : Ctx} {R : Rt} {G G0 G1 : Gh} {st st1 st2 : St} {a : Act} {w w' : World} {o : Oper} {v : SV}

/-- What the regions must be (the kernel looks). -/
def chkCode (ord : List (Nat × List (Nat × Nat × List Nat))) (n : Nat) (p : List Nat) : Code → Bool
  | .region i ops d => (if d then chkDraw n ops (lkO ord i) else chkOps n [] ops.toList) && loOps p ops.toList
  | .seq a b => chkCode ord n p a && chkCode ord n p b
  | .cond _ a b => chkCode ord n p a && chkCode ord n p b
  | .block _ a => chkCode ord n p a
  | .loop a => chkCode ord n p a
  | _ => true
def exOf : Ex → Exit | .normal => .normal | .exit i => .exit i | .ret => .ret

/-! what a round leaves behind -/
def Gh.keep (G : Gh) (ns : List Nat) : Gh := { G with live := fun k => G.live k ∧ k ∈ ns }
theorem hlk_keepH (ns : List Nat) (h : List (Nat × Blk)) : ∀ (l : List Nat) (n : Nat), hlk (keepH ns h l) n = if n ∈ l then (hlk h n).map (keepB ns) else none
  | [], n => by simp [keepH, hlk]
  | k :: r, n => by
    simp only [keepH]
    cases hb : hlk h k with
    | none =>
      simp only [hlk_keepH ns h r n]
      by_cases hkn : n = k
      · subst hkn; simp [hb]
      · simp [hkn]
    | some b =>
      simp only [hlk, hlk_keepH ns h r n]
      by_cases hkn : k = n
      · subst hkn; simp [hb]
      · rw [if_neg hkn]; simp [Ne.symm hkn]
theorem keepC_in {ns : List Nat} {h h' : List (Nat × Blk)} {G' : Gh} {x : SV} {u : Value} (hs : ∀ n ∈ ns, Same G h G' h' n) (hx : CRel R G h x u) : CRel R G' h' (keepC ns x) u := keepC_rel (fun n hn _ => hs n hn) hx
theorem keepV_in {ns : List Nat} {h h' : List (Nat × Blk)} {G' : Gh} {x : SV} {u : Value} (hs : ∀ n ∈ ns, Same G h G' h' n) (hx : VRel R G h x u) : VRel R G' h' (keepV ns x) u := by
  cases x with
  | agg cs =>
    obtain ⟨vs, h1, h2, h3⟩ := hx
    refine ⟨vs, h1, by rw [keepCs_len]; exact h2, fun j y hj => ?_⟩
    rw [keepCs_get, Option.map_eq_some_iff] at hj
    obtain ⟨y', hy, rfl⟩ := hj
    obtain ⟨z, h4, h5, h6⟩ := h3 j y' hy
    exact ⟨z, h4, h5, keepC_in hs h6⟩
  | tup vs => trivial
  | own n => simp only [keepV]; exact arel_one (keepC_in hs (x := .own n) hx)
  | rp n i q => simp only [keepV]; exact arel_one (keepC_in hs (x := .rp n i q) hx)
  | ptr n q => simp only [keepV]; exact arel_one (keepC_in hs (x := .ptr n q) hx)
  | d x => exact hx
  | nils => exact hx
  | nilp => exact hx
  | pv cs o => exact hx
  | fn f => exact hx
  | undef => trivial
theorem lkm_keepM (ns : List Nat) : ∀ (ks : List Nat) (m : List SV) (t : Nat), lkm ks (keepM ns m) t = keepV ns (lkm ks m t)
  | [], m, t => by cases m <;> rfl
  | k :: ks, [], t => rfl
  | k :: ks, v :: vs, t => by simp only [keepM, lkm, lkm_keepM ns ks vs t]; split <;> rfl
theorem keepM_len (ns : List Nat) : ∀ (m : List SV), (keepM ns m).length = m.length
  | [] => rfl
  | v :: vs => by simp [keepM, keepM_len ns vs]
theorem trim_inv {ns : List Nat} (H : Inv C R G st a w) (hl : st.l = []) (hfix : ∀ n b, R.fix n = some b → n ∈ ns) : Inv C R (G.keep ns) (trim ns st) a w := by
  have hs : ∀ n ∈ ns, Same G st.h (G.keep ns) (trim ns st).h n := fun n hn hlive => ⟨⟨hlive, hn⟩, rfl, rfl, fun e sz xs hx => ⟨xs, by
    show hlk (keepH ns st.h ns) n = _
    rw [hlk_keepH, if_pos hn, hx]; rfl⟩⟩
  refine ⟨H.W, ⟨fun n hn _ => ?_, fun n m hn _ hm _ => H.B.disj n m hn.1 id hm.1 id, fun n hn _ => H.B.mine n hn.1 id, fun n b hf => ?_⟩, fun _ _ _ => id, fun t => ?_, fun t q c v h => (by cases h), by simp only [trim, keepM_len]; exact H.m⟩
  · obtain ⟨b, h1, h2⟩ := H.B.rel n hn.1 id
    cases b with
    | row e sz xs =>
      refine ⟨.row e sz xs, ?_, h2⟩
      show hlk (keepH ns st.h ns) n = _
      rw [hlk_keepH, if_pos hn.2, h1]; rfl
    | box cs =>
      obtain ⟨cur, e, r1, r2, r3, r4, r5⟩ := h2
      refine ⟨.box (keepCs ns cs), ?_, cur, e, r1, r2, by rw [keepCs_len]; exact r3, by rw [keepCs_len]; exact r4, fun j x hj => ?_⟩
      · show hlk (keepH ns st.h ns) n = _
        rw [hlk_keepH, if_pos hn.2, h1]; rfl
      · rw [keepCs_get, Option.map_eq_some_iff] at hj
        obtain ⟨y, hy, rfl⟩ := hj
        obtain ⟨u, k1, k2, k3⟩ := r5 j y hy
        exact ⟨u, k1, k2, keepC_in hs k3⟩
  · obtain ⟨h1, h2, h3⟩ := H.B.fix n b hf
    obtain ⟨cs, hc⟩ := h3 id
    refine ⟨⟨h1, hfix n b hf⟩, h2, fun _ => ⟨keepCs ns cs, ?_⟩⟩
    show hlk (keepH ns st.h ns) n = _
    rw [hlk_keepH, if_pos (hfix n b hf), hc]; rfl
  · have hx := H.slots t
    unfold SlotR at hx ⊢
    rw [hl] at hx
    simp only [trim, lk] at hx ⊢
    rw [lkm_keepM]
    exact keepV_in hs hx
/-! names of own rows -/
def Gh.ren (G : Gh) (k k' : Nat) : Gh := { live := fun n => if n = k' then G.live k else if n = k then False else G.live n, base := fun n => if n = k' then G.base k else G.base n, hv := fun n => if n = k' then G.hv k else G.hv n, φ := fun n => if n = k' then G.φ k else G.φ n }
theorem hlk_renH (k k' : Nat) (hne : k ≠ k') : ∀ (h : List (Nat × Blk)) (n : Nat), hlk h k' = none → hlk (renH k k' h) n = if n = k' then (hlk h k).map (renB k k') else if n = k then none else (hlk h n).map (renB k k')
  | [], n, _ => by simp [renH, hlk]
  | (b, v) :: r, n, hk' => by
    simp only [hlk] at hk'
    by_cases hb : b = k'
    · rw [if_pos hb] at hk'; cases hk'
    · rw [if_neg hb] at hk'
      simp only [renH, hlk, hlk_renH k k' hne r n hk']
      by_cases hbk : b = k
      · subst hbk
        simp only [if_true]
        by_cases hn : n = k'
        · simp [hn]
        · rw [if_neg (Ne.symm hn), if_neg hn, if_neg hn]
          by_cases hnb : n = b
          · simp [hnb]
          · simp [hnb, Ne.symm hnb]
      · simp only [if_neg hbk]
        by_cases hn : n = k'
        · subst hn; simp [hb]
        · simp only [if_neg hn]
          by_cases hnk : n = k
          · subst hnk; simp [hbk]
          · by_cases hbn : b = n
            · simp [hbn, hnk]
            · simp [hbn, hnk]
theorem renCs_len (k k' : Nat) : ∀ (cs : List SV), (renCs k k' cs).length = cs.length
  | [] => rfl
  | c :: cs => by simp [renCs, renCs_len k k' cs]
theorem renCs_get (k k' : Nat) : ∀ (cs : List SV) (j : Nat), (renCs k k' cs)[j]? = (cs[j]?).map (renC k k')
  | [], j => by simp [renCs]
  | c :: cs, 0 => by simp [renCs]
  | c :: cs, j + 1 => by simp [renCs, renCs_get k k' cs]
theorem renAs_len (k k' : Nat) : ∀ (cs : List SV), (renAs k k' cs).length = cs.length
  | [] => rfl
  | c :: cs => by simp [renAs, renAs_len k k' cs]
theorem renAs_get (k k' : Nat) : ∀ (cs : List SV) (j : Nat), (renAs k k' cs)[j]? = (cs[j]?).map (renA k k')
  | [], j => by simp [renAs]
  | c :: cs, 0 => by simp [renAs]
  | c :: cs, j + 1 => by simp [renAs, renAs_get k k' cs]
theorem renM_len (k k' : Nat) : ∀ (m : List SV), (renM k k' m).length = m.length
  | [] => rfl
  | v :: vs => by simp [renM, renM_len k k' vs]
theorem lkm_renM (k k' : Nat) : ∀ (ks : List Nat) (m : List SV) (t : Nat), lkm ks (renM k k' m) t = renV k k' (lkm ks m t)
  | [], m, t => by cases m <;> rfl
  | a :: ks, [], t => rfl
  | a :: ks, v :: vs, t => by simp only [renM, lkm, lkm_renM k k' ks vs t]; split <;> rfl
section
variable {k k' : Nat}
theorem crel_ren (hne : k ≠ k') (hlv : ∀ n, G.live n → n ≠ k') (hk' : hlk st.h k' = none) {x : SV} {u : Value} (hx : CRel R G st.h x u) : CRel R (G.ren k k') (renH k k' st.h) (renC k k' x) u := by
  have nm : ∀ n, G.live n → (G.ren k k').live (if n = k then k' else n) ∧ (G.ren k k').base (if n = k then k' else n) = G.base n ∧ (G.ren k k').hv (if n = k then k' else n) = G.hv n := fun n hn => by
    have h1 := hlv n hn
    by_cases e : n = k
    · subst e; simp [Gh.ren, hn]
    · simp [Gh.ren, e, h1, hn]
  cases x with
  | own n => obtain ⟨h1, h2, h3⟩ := hx; obtain ⟨a1, _, a3⟩ := nm n h1; exact ⟨a1, by rw [a3]; exact h2, h3⟩
  | ptr n o => obtain ⟨h1, h2⟩ := hx; obtain ⟨a1, a2, _⟩ := nm n h1; exact ⟨a1, by rw [a2]; exact h2⟩
  | rp n i o =>
    obtain ⟨h1, e, sz, xs, h2, g, b, len, cap, h3, h4⟩ := hx
    obtain ⟨a1, _, a3⟩ := nm n h1
    refine ⟨a1, e, sz, xs, ?_, g, b, len, cap, by rw [a3]; exact h3, h4⟩
    rw [hlk_renH k k' hne _ _ hk']
    have h5 := hlv n h1
    by_cases en : n = k
    · subst en; simp [h2, renB]
    · simp [en, h5, h2, renB]
  | _ => exact hx
theorem arel_ren (hne : k ≠ k') (hlv : ∀ n, G.live n → n ≠ k') (hk' : hlk st.h k' = none) {x : SV} {u : Value} (hx : ARel R G st.h x u) : ARel R (G.ren k k') (renH k k' st.h) (renA k k' x) u := by
  by_cases hc : ∃ cs, x = .agg cs
  · obtain ⟨cs, rfl⟩ := hc
    obtain ⟨vs, h1, h2, h3⟩ := hx
    refine ⟨vs, h1, by rw [renCs_len]; exact h2, fun j y hj => ?_⟩
    rw [renCs_get, Option.map_eq_some_iff] at hj
    obtain ⟨y', hy, rfl⟩ := hj
    obtain ⟨z, h4, h5, h6⟩ := h3 j y' hy
    exact ⟨z, h4, h5, crel_ren hne hlv hk' h6⟩
  · have hc' : ∀ cs, x ≠ .agg cs := fun cs e => hc ⟨cs, e⟩
    rw [arel_c hc'] at hx
    have e1 : renA k k' x = renC k k' x := by cases x <;> first | rfl | exact absurd rfl (hc' _)
    rw [e1]
    have hc2 : ∀ cs, renC k k' x ≠ .agg cs := fun cs e => by cases x <;> simp [renC] at e; exact hc' _ rfl
    rw [arel_c hc2]
    exact crel_ren hne hlv hk' hx
theorem vrel_ren (hne : k ≠ k') (hlv : ∀ n, G.live n → n ≠ k') (hk' : hlk st.h k' = none) {x : SV} {u : Value} (hx : VRel R G st.h x u) : VRel R (G.ren k k') (renH k k' st.h) (renV k k' x) u := by
  by_cases hc : ∃ cs, x = .tup cs
  · obtain ⟨cs, rfl⟩ := hc
    obtain ⟨vs, h1, h2, h3⟩ := hx
    refine ⟨vs, h1, by rw [renAs_len]; exact h2, fun j y hj => ?_⟩
    rw [renAs_get, Option.map_eq_some_iff] at hj
    obtain ⟨y', hy, rfl⟩ := hj
    obtain ⟨z, h4, h5⟩ := h3 j y' hy
    exact ⟨z, h4, arel_ren hne hlv hk' h5⟩
  · have hc' : ∀ cs, x ≠ .tup cs := fun cs e => hc ⟨cs, e⟩
    rw [vrel_a hc'] at hx
    have e1 : renV k k' x = renA k k' x := by cases x <;> first | rfl | exact absurd rfl (hc' _)
    rw [e1]
    have hc2 : ∀ cs, renA k k' x ≠ .tup cs := fun cs e => by cases x <;> simp [renA, renC] at e; exact hc' _ rfl
    rw [vrel_a hc2]
    exact arel_ren hne hlv hk' hx
theorem ren_inv (H : Inv C R G st a w) (hl : st.l = []) (hk : ∃ e sz xs, hlk st.h k = some (.row e sz xs)) (hk' : hlk st.h k' = none) (hne : k ≠ k') : Inv C R (G.ren k k') (ren k k' st) a w := by
  have hlv : ∀ n, G.live n → n ≠ k' := fun n hn e => by
    subst e
    obtain ⟨b, hb, _⟩ := H.B.rel n hn id
    rw [hk'] at hb; cases hb
  have hh : ∀ n, hlk (ren k k' st).h n = if n = k' then (hlk st.h k).map (renB k k') else if n = k then none else (hlk st.h n).map (renB k k') := fun n => hlk_renH k k' hne st.h n hk'
  have old : ∀ n, (G.ren k k').live n → ∃ n0, G.live n0 ∧ n = (if n0 = k then k' else n0) ∧ (G.ren k k').base n = G.base n0 ∧ (G.ren k k').hv n = G.hv n0 ∧ (G.ren k k').φ n = G.φ n0 ∧ hlk (ren k k' st).h n = (hlk st.h n0).map (renB k k') := fun n hn => by
    rw [hh]
    simp only [Gh.ren] at hn
    by_cases e : n = k'
    · subst e
      rw [if_pos rfl] at hn
      exact ⟨k, hn, by simp, by simp [Gh.ren], by simp [Gh.ren], by simp [Gh.ren], by simp⟩
    · rw [if_neg e] at hn
      by_cases e2 : n = k
      · rw [if_pos e2] at hn; exact hn.elim
      · rw [if_neg e2] at hn
        exact ⟨n, hn, by simp [e2], by simp [Gh.ren, e], by simp [Gh.ren, e], by simp [Gh.ren, e], by simp [e, e2]⟩
  refine ⟨H.W, ⟨fun n hn _ => ?_, fun n m hn _ hm _ hnm j hj1 hj2 => ?_, fun n hn _ j hj => ?_, fun n b hf => ?_⟩, fun _ _ _ => id, fun t => ?_, by show PI st.l; exact H.l, by show (renM k k' st.m).length = _; rw [renM_len]; exact H.m⟩
  · obtain ⟨n0, h1, h2, h3, h4, h5, h6⟩ := old n hn
    obtain ⟨b, hb, hbr⟩ := H.B.rel n0 h1 id
    refine ⟨renB k k' b, by rw [h6, hb]; rfl, ?_⟩
    cases b with
    | row e sz xs =>
      show RowR w e sz ((G.ren k k').φ n) xs ((G.ren k k').hv n) ∧ _
      rw [h4, h5]; exact hbr
    | box cs =>
      obtain ⟨cur, e, r1, r2, r3, r4, r5⟩ := hbr
      refine ⟨cur, e, by rw [h3]; exact r1, by rw [h3, h5]; exact r2, by rw [h3, renCs_len]; exact r3, by rw [h3, renCs_len]; exact r4, fun j x hj => ?_⟩
      rw [renCs_get, Option.map_eq_some_iff] at hj
      obtain ⟨y, hy, rfl⟩ := hj
      obtain ⟨u, k1, k2, k3⟩ := r5 j y hy
      exact ⟨u, by rw [h3]; exact k1, k2, crel_ren hne hlv hk' k3⟩
  · obtain ⟨n0, h1, h2, _, _, h5, _⟩ := old n hn
    obtain ⟨m0, g1, g2, _, _, g5, _⟩ := old m hm
    rw [h5] at hj1; rw [g5] at hj2
    exact H.B.disj n0 m0 h1 id g1 id (fun e => hnm (by rw [h2, g2, e])) j hj1 hj2
  · obtain ⟨n0, h1, _, _, _, h5, _⟩ := old n hn
    rw [h5] at hj
    exact H.B.mine n0 h1 id j hj
  · obtain ⟨h1, h2, h3⟩ := H.B.fix n b hf
    obtain ⟨cs, hc⟩ := h3 id
    obtain ⟨e, sz, xs, hrow⟩ := hk
    have e1 : n ≠ k := fun e => by subst e; rw [hrow] at hc; cases hc
    have e2 := hlv n h1
    exact ⟨by simp [Gh.ren, e1, e2, h1], by simp [Gh.ren, e2, h2], fun _ => ⟨renCs k k' cs, by rw [hh]; simp [e1, e2, hc, renB]⟩⟩
  · have hx := H.slots t
    unfold SlotR at hx ⊢
    rw [hl] at hx
    rw [show (ren k k' st).l = [] from hl]
    simp only [lk] at hx ⊢
    rw [show (ren k k' st).m = renM k k' st.m from rfl, lkm_renM]
    exact vrel_ren hne hlv hk' hx
end
theorem canonC_inv (n : Nat) : ∀ (cs : List SV) (j : Nat) (sn : List Nat) (st : St) (G : Gh), Inv C R G st a w → st.l = [] → ∃ G', Inv C R G' (canonC n j cs sn st).1 a w ∧ (canonC n j cs sn st).1.l = []
  | [], j, sn, st, G, H, hl => ⟨G, H, hl⟩
  | c :: cs, j, sn, st, G, H, hl => by
    cases c with
    | own k =>
      simp only [canonC]
      split
      · exact canonC_inv n cs (j + 1) sn st G H hl
      · split
        · exact canonC_inv n cs (j + 1) _ st G H hl
        · rename_i hne
          split
          · rename_i e sz xs h1 h2
            exact canonC_inv n cs (j + 1) _ _ _ (ren_inv H hl ⟨e, sz, xs, h1⟩ h2 hne) hl
          · exact canonC_inv n cs (j + 1) _ st G H hl
    | _ => exact canonC_inv n cs (j + 1) sn st G H hl
theorem canonH_inv : ∀ (h : List (Nat × Blk)) (sn : List Nat) (st : St) (G : Gh), Inv C R G st a w → st.l = [] → ∃ G', Inv C R G' (canonH h sn st) a w ∧ (canonH h sn st).l = []
  | [], sn, st, G, H, hl => ⟨G, H, hl⟩
  | (n, b) :: r, sn, st, G, H, hl => by
    cases b with
    | row e sz xs => exact canonH_inv r sn st G H hl
    | box cs =>
      obtain ⟨G1, H1, hl1⟩ := canonC_inv n cs 0 sn st G H hl
      exact canonH_inv r _ _ G1 H1 hl1
theorem canon_after {n : Nat} {p : List Nat} {a0 : Act} (H : After C R n p a0 st a w) : After C R n p a0 (canonS st) a w := by
  obtain ⟨G, H1, hl, hs, hd⟩ := H
  obtain ⟨G', H2, hl2⟩ := canonH_inv st.h [] st G H1 hl
  exact ⟨G', H2, hl2, hs, hd⟩
theorem row_none {w : World} {e sz : Nat} : RowR w e sz (fun _ => False) [] (.slice none 0 0) := .inl ⟨rfl, rfl⟩
theorem eok_of {P : Program} {e sz : Nat} (h : eokB P e sz = true) : EOk P e sz := by
  unfold eokB at h
  rw [Bool.and_eq_true] at h
  obtain ⟨h1, h2⟩ := h
  split at h1
  · rename_i i hi; exact ⟨⟨i, hi, by simpa using h1⟩, by simpa using h2⟩
  · cases h1
theorem wake_row {C : Ctx} {R : Rt} {G : Gh} {st : St} {a : Act} {w : World} {m e sz : Nat} (H : Inv C R G st a w) (hm : hlk st.h m = none) (hE : EOk C.P e sz) : Inv C R (G.add m (0, 0) (.slice none 0 0) (fun _ => False)) { st with h := st.h ++ [(m, .row e sz [])] } a w :=
  add_inv H hm id (fun k hk => hk.elim) (fun k m hk => hk.elim) ⟨by simpa [Gh.add] using row_none, hE.1, hE.2, fun k lo hi hk => by simp [Gh.add] at hk⟩
/-- A variable that is not there may be listed in any way. -/
theorem dead_box {C : Ctx} {R : Rt} {G : Gh} {st : St} {a : Act} {w : World} {n : Nat} {cs cs' : List SV} (H : Inv C R G st a w) (hl : ¬ G.live n) (hb : hlk st.h n = some (.box cs)) : Inv C R G { st with h := hset st.h n (.box cs') } a w := by
  have hs := same_hset (G := G) (cs' := cs') hb
  refine ⟨H.W, ⟨fun k hk _ => ?_, fun k m hk _ hm _ => H.B.disj k m hk id hm id, fun k hk _ => H.B.mine k hk id, fun k b' hf => ?_⟩, fun _ _ _ => id, fun t => slot_same hs (H.slots t), H.l, H.m⟩
  · obtain ⟨b, h1, h2⟩ := H.B.rel k hk id
    have hkn : ¬ k = n := fun e => hl (e ▸ hk)
    exact ⟨b, by simp [hlk_hset, hkn, h1], brel_same hs rfl rfl rfl h2⟩
  · obtain ⟨h1, h2, h3⟩ := H.B.fix k b' hf
    have hkn : ¬ k = n := fun e => hl (e ▸ h1)
    obtain ⟨ds, hc⟩ := h3 id
    exact ⟨h1, h2, fun _ => ⟨ds, by simp [hlk_hset, hkn, hc]⟩⟩
theorem wakeB_inv {C : Ctx} {R : Rt} {G : Gh} {st : St} {a : Act} {w : World} (n j e sz : Nat) (H : Inv C R G st a w) (hl : st.l = []) : ∃ G', Inv C R G' (wakeB C n j e sz st) a w ∧ (wakeB C n j e sz st).l = [] := by
  unfold wakeB
  split
  · rename_i cs hb hm
    split
    · rename_i hc
      split
      · rename_i hE
        have H1 := wake_row H hm (eok_of hE)
        have hne : ¬ nm n (j + 1) = n := fun e => by rw [e, hb] at hm; cases hm
        have hb1 : hlk (st.h ++ [(nm n (j + 1), .row e sz [])]) n = some (.box cs) := by rw [hlk_snoc, hb]
        rw [nth?_eq] at hc
        have hj : j + 1 ≤ cs.length := by have := (List.getElem?_eq_some_iff.1 hc).1; omega
        have hsr := setRange_get cs j [.own (nm n (j + 1))] hj
        by_cases hlv : (G.add (nm n (j + 1)) (0, 0) (.slice none 0 0) (fun _ => False)).live n
        · obtain ⟨b, hb2, hbr⟩ := H1.B.rel n hlv id
          rw [show ({ st with h := st.h ++ [(nm n (j + 1), .row e sz [])] } : St).h = st.h ++ [(nm n (j + 1), .row e sz [])] from rfl, hb1] at hb2
          cases hb2
          obtain ⟨cur, e', r1, r2, r3, r4, r5⟩ := hbr
          refine ⟨_, (set_box (w' := w) (cur' := cur) H1 hlv hb1 ⟨rfl, rfl, rfl, rfl, r1, r1, rfl, fun _ _ => rfl⟩ hsr.1 (fun _ _ => rfl) (fun i x hx => ?_)).1, hl⟩
          rw [hsr.2] at hx
          by_cases hi : j ≤ i ∧ i < j + [SV.own (nm n (j + 1))].length
          · rw [if_pos hi] at hx
            have : i = j := by simp at hi; omega
            subst this
            simp at hx
            subst hx
            obtain ⟨u, k1, k2, k3⟩ := r5 i _ hc
            exact ⟨u, k1, k2, .inr rfl, by rw [show u = .slice none 0 0 from k3]; simp [Gh.add], k2⟩
          · rw [if_neg hi] at hx
            exact r5 i x hx
        · exact ⟨_, dead_box H1 hlv hb1, hl⟩
      · exact ⟨G, H, hl⟩
    · exact ⟨G, H, hl⟩
  · exact ⟨G, H, hl⟩
theorem wakeT_inv {C : Ctx} {R : Rt} {G : Gh} {st : St} {a : Act} {w : World} (t e sz : Nat) (H : Inv C R G st a w) (hl : st.l = []) : ∃ G', Inv C R G' (wakeT C t e sz st) a w ∧ (wakeT C t e sz st).l = [] := by
  unfold wakeT
  split
  · rename_i hc hm
    split
    · rename_i hE
      rw [Bool.and_eq_true] at hE
      have H1 := wake_row H hm (eok_of hE.2)
      refine ⟨_, ⟨H1.W, H1.B, H1.all, fun u => ?_, H1.l, by rw [← H1.m]; exact stm_len _ _ _ _⟩, hl⟩
      have hx := H1.slots u
      unfold SlotR at hx ⊢
      rw [show ({ st with h := st.h ++ [(nm t 60, .row e sz [])] } : St).l = [] from hl] at hx
      rw [show ({ st with m := stm C.keep st.m t (.own (nm t 60)), h := st.h ++ [(nm t 60, .row e sz [])] } : St).l = [] from hl]
      simp only [lk] at hx ⊢
      rw [lkm_stm hE.1 H.m]
      by_cases hu : u = t
      · subst hu
        rw [if_pos rfl]
        rw [hc] at hx
        exact ⟨.inr rfl, by rw [show a.tmps.getD u undef = .slice none 0 0 from hx]; simp [Gh.add], by rw [show a.tmps.getD u undef = .slice none 0 0 from hx]; rfl⟩
      · rw [if_neg hu]; exact hx
    · exact ⟨G, H, hl⟩
  · exact ⟨G, H, hl⟩
theorem dropR_inv {C : Ctx} {R : Rt} {G : Gh} {st : St} {a : Act} {w : World} (n : Nat) (H : Inv C R G st a w) (hl : st.l = []) : ∃ G', Inv C R G' (dropR n st) a w ∧ (dropR n st).l = [] := by
  unfold dropR
  split
  · rename_i e sz xs hr
    exact ⟨_, give_inv H hr, by show killL n st.l = []; rw [hl]; rfl⟩
  · exact ⟨G, H, hl⟩
theorem wakes_inv {C : Ctx} {R : Rt} {a : Act} {w : World} : ∀ (r : List (Nat × Nat × List Nat)) (st : St) (G : Gh), Inv C R G st a w → st.l = [] → ∃ G', Inv C R G' (wakes C r st) a w ∧ (wakes C r st).l = []
  | [], st, G, H, hl => ⟨G, H, hl⟩
  | (n, j, l) :: r, st, G, H, hl => by
    unfold wakes
    split
    · rename_i h; cases h
    · rename_i h
      cases h
      obtain ⟨G1, H1, hl1⟩ := dropR_inv _ H hl
      exact wakes_inv _ _ G1 H1 hl1
    · rename_i h
      cases h
      obtain ⟨G1, H1, hl1⟩ := wakeB_inv _ _ _ _ H hl
      exact wakes_inv _ _ G1 H1 hl1
    · rename_i h
      cases h
      obtain ⟨G1, H1, hl1⟩ := wakeT_inv _ _ _ H hl
      exact wakes_inv _ _ G1 H1 hl1
    · rename_i h
      cases h
      exact wakes_inv _ _ G H hl
theorem hlk_ins (n : Nat) (b : Blk) (k : Nat) : ∀ (r : List (Nat × Blk)), hlk (insH n b r) k = if n = k then some b else hlk r k
  | [] => rfl
  | (j, x) :: r => by
    simp only [insH]
    split
    · rfl
    · simp only [hlk]
      split
      · rename_i h1 h2; subst h2; rw [if_neg (by omega)]
      · exact hlk_ins n b k r
theorem hlk_sort (k : Nat) : ∀ (h : List (Nat × Blk)), hlk (sortH h) k = hlk h k
  | [] => rfl
  | (n, b) :: r => by simp only [sortH, hlk_ins, hlk, hlk_sort k r]
theorem inv_hlk {C : Ctx} {R : Rt} {G : Gh} {st : St} {a : Act} {w : World} {h' : List (Nat × Blk)} (H : Inv C R G st a w) (e : ∀ n, hlk h' n = hlk st.h n) : Inv C R G ⟨st.m, st.l, h'⟩ a w := by
  have hs : ∀ n, Same G st.h G h' n := fun n hl => ⟨hl, rfl, rfl, fun e' sz xs hx => ⟨xs, by rw [e]; exact hx⟩⟩
  refine ⟨H.W, ⟨fun k hk _ => ?_, fun k m hk _ hm _ => H.B.disj k m hk id hm id, fun k hk _ => H.B.mine k hk id, fun k b' hf => ?_⟩, fun _ _ _ => id, fun t => slot_same hs (H.slots t), H.l, H.m⟩
  · obtain ⟨b, h1, h2⟩ := H.B.rel k hk id
    exact ⟨b, by show hlk h' k = _; rw [e, h1], brel_same hs rfl rfl rfl h2⟩
  · obtain ⟨h1, h2, h3⟩ := H.B.fix k b' hf
    obtain ⟨ds, hc⟩ := h3 id
    exact ⟨h1, h2, fun _ => ⟨ds, by show hlk h' k = _; rw [e, hc]⟩⟩
theorem end_after {C : Ctx} {R : Rt} {a : Act} {w : World} {st : St} {n : Nat} {p : List Nat} {a0 : Act} (i : Nat) (H : After C R n p a0 st a w) : After C R n p a0 (endS C i st) a w := by
  obtain ⟨G, H1, hl, hs, hd⟩ := canon_after H
  obtain ⟨G', H2, hl2⟩ := wakes_inv _ _ G H1 hl
  exact ⟨G', inv_hlk H2 (fun n => hlk_sort n _), hl2, hs, hd⟩
theorem mem_names : ∀ {h : List (Nat × Blk)} {n : Nat} {b : Blk}, hlk h n = some b → n ∈ names h
  | [], n, b, h => by cases h
  | (k, x) :: r, n, b, h => by
    simp only [hlk] at h
    simp only [names, List.mem_cons]
    split at h
    · rename_i e; exact .inl e.symm
    · exact .inr (mem_names h)

theorem den_sound (hC : CtxOk C) (n : Nat) (p : List Nat) (a0 : Act) (k : Nat) : ∀ (c : Code) (st st' : St) (ex : Ex) (a : Act) (w : World) (Q : Exit → Act → World → Prop), den C k c st = some (ex, st') → After C R n p a0 st a w → chkCode C.ord n p c = true → (∀ a' w', After C R n p a0 st' a' w' → Q (exOf ex) a' w') → c.wp C.P Q a w := by
  intro c
  induction c with
  | skip => intro st st' ex a w Q h H _ hQ; simp only [den] at h; cases h; exact wp_skip (hQ a w H)
  | exit i => intro st st' ex a w Q h H _ hQ; simp only [den] at h; cases h; exact wp_exit (hQ a w H)
  | ret => intro st st' ex a w Q h H _ hQ; simp only [den] at h; cases h; exact wp_ret (hQ a w H)
  | region i ops d =>
    intro st st' ex a w Q h H hc hQ
    cases d with
    | false =>
      simp only [chkCode, Bool.false_eq_true, if_false, Bool.and_eq_true] at hc
      obtain ⟨hc, hlo⟩ := hc
      simp only [den, Bool.false_eq_true, if_false] at h
      rw [Option.map_eq_some_iff] at h
      obtain ⟨st2, h1, h2⟩ := h
      cases h2
      obtain ⟨G, H1, hl, hs, hd⟩ := H
      refine wp_region ?_
      have hlen : ops.size = ops.toList.length := by simp
      rw [List.range_eq_range', hlen]
      exact runOps_sound hC ops.toList 0 [] st G a w (by simp) H1 (fun t ht => by rw [hl] at ht; simp [lk] at ht) (by rw [hs]; exact hc) hlo h1 (fun a' w' G' k1 k2 k3 k4 => hQ a' w' (end_after _ ⟨G', k1, k2, k3.trans hs, hd.trans k4⟩))
    | true =>
      simp only [chkCode, if_true, Bool.and_eq_true] at hc
      obtain ⟨hc, hlo⟩ := hc
      simp only [den, if_true] at h
      rw [Option.map_eq_some_iff] at h
      obtain ⟨st2, h1, h2⟩ := h
      cases h2
      refine wp_region_any hC.mixed ?_
      obtain ⟨G, H1, hl, hs, hd⟩ := H
      exact draw_sound hC ⟨G, inv_ext H1 ⟨rfl, rfl, rfl, Nat.le_refl _, fun _ _ => rfl⟩, hl, hs, hd⟩ hlo hc h1 (fun a' w' hA => hQ a' w' (end_after _ hA))
  | seq x y ihx ihy =>
    intro st st' ex a w Q h H hc hQ
    simp only [chkCode, Bool.and_eq_true] at hc
    simp only [den] at h
    refine wp_seq ?_
    cases hx : den C k x st with
    | none => rw [hx] at h; simp [andThen] at h
    | some r =>
      obtain ⟨e1, st1⟩ := r
      rw [hx] at h
      refine ihx st st1 e1 a w _ hx H hc.1 (fun a' w' H' => ?_)
      cases e1 with
      | normal => exact ihy st1 st' ex a' w' Q h H' hc.2 hQ
      | exit i => simp only [andThen] at h; cases h; exact hQ a' w' H'
      | ret => simp only [andThen] at h; cases h; exact hQ a' w' H'
  | cond c x y ihx ihy =>
    intro st st' ex a w Q h H hc hQ
    simp only [chkCode, Bool.and_eq_true] at hc
    simp only [den] at h
    split at h
    · rename_i b hb
      obtain ⟨G, H1, hl, hs, hd⟩ := H
      have hv : a.eval c = .bool b := vrel_b (H1.evE hb)
      refine wp_cond hv ?_
      cases b with
      | true => exact ihx st st' ex a w Q (by simpa using h) ⟨G, H1, hl, hs, hd⟩ hc.1 hQ
      | false => exact ihy st st' ex a w Q (by simpa using h) ⟨G, H1, hl, hs, hd⟩ hc.2 hQ
    · cases h
  | block i x ih =>
    intro st st' ex a w Q h H hc hQ
    simp only [chkCode] at hc
    simp only [den] at h
    refine wp_block ?_
    cases hx : den C k x st with
    | none => rw [hx] at h; simp [inBlock] at h
    | some r =>
      obtain ⟨e1, st1⟩ := r
      rw [hx] at h
      refine ih st st1 e1 a w _ hx H hc (fun a' w' H' => ?_)
      cases e1 with
      | normal => simp only [inBlock] at h; cases h; exact hQ a' w' H'
      | exit j =>
        simp only [inBlock] at h
        show (if j = i then Q .normal a' w' else Q (.exit j) a' w')
        split at h
        · rename_i e; rw [if_pos e]; cases h; exact hQ a' w' H'
        · rename_i e; rw [if_neg e]; cases h; exact hQ a' w' H'
      | ret => simp only [inBlock] at h; cases h; exact hQ a' w' H'
  | loop x ih =>
    intro st st' ex a w Q h H hc hQ
    simp only [chkCode] at hc
    simp only [den] at h
    refine wp_loop_rounds k ?_
    have hfix : ∀ m b, R.fix m = some b → m ∈ names st.h := fun m b hf => by
      obtain ⟨G, H1, _⟩ := H
      obtain ⟨_, _, h3⟩ := H1.B.fix m b hf
      obtain ⟨cs, hcs⟩ := h3 id
      exact mem_names hcs
    generalize names st.h = ns at h hfix
    have key : ∀ (m : Nat) (st : St) (a : Act) (w : World), iter ns (den C k x) m st = some (ex, st') → After C R n p a0 st a w → Code.rounds C.P x Q m a w := by
      intro m
      induction m with
      | zero => intro st a w h _; simp [iter] at h
      | succ m ihm =>
        intro st a w h H
        simp only [iter] at h
        rw [rounds_succ]
        cases hx : den C k x st with
        | none => rw [hx] at h; cases h
        | some r =>
          obtain ⟨e1, st1⟩ := r
          rw [hx] at h
          refine ih st st1 e1 a w _ hx H hc (fun a' w' H' => ?_)
          obtain ⟨G', H1, hl, hs, hd⟩ := H'
          cases e1 with
          | normal => exact ihm (trim ns st1) a' w' h ⟨_, trim_inv H1 hl hfix, rfl, hs, hd⟩
          | exit j => dsimp only at h; cases h; exact hQ a' w' ⟨_, trim_inv H1 hl hfix, rfl, hs, hd⟩
          | ret => dsimp only at h; cases h; exact hQ a' w' ⟨G', H1, hl, hs, hd⟩
    exact key k st a w h H
  | _ => intro st st' ex a w Q h; simp [den] at h
end Go.Den

/- Results. -/
namespace Go.Den
open Go
variable {C : Ctx} {R : Rt} {G G0 G1 : Gh} {st st1 st2 : St} {a : Act} {w w' : World} {o : Oper} {v : SV}

/-- One result's value. -/
def resSem (tmps : Array Value) : ResultVar → Sem Value
  | .tmp t => pure (tmps.getD t undef)
  | .cell a t => do loadVar t (← asAddr (tmps.getD a undef))
def resRun (P : Program) (tmps : Array Value) (w : World) (r : ResultVar) (v : Value) : Prop := (resSem tmps r).run P w = .ok v w
theorem run_mapM_res {P : Program} {tmps : Array Value} : ∀ (rs : List ResultVar) (vs : List Value), rs.length = vs.length → (∀ (j : Nat) r v, rs[j]? = some r → vs[j]? = some v → resRun P tmps w r v) →
    (rs.mapM (resSem tmps)).run P w = .ok vs w
  | [], [], _, _ => by simp
  | r :: rs, v :: vs, hl, h => by
    have h1 := h 0 r v rfl rfl
    have h2 := run_mapM_res rs vs (by simpa using hl) (fun j r v hr hv => h (j + 1) r v (by simpa using hr) (by simpa using hv))
    unfold resRun at h1
    rw [List.mapM_cons]
    simp only [Sem.run_bind]
    rw [h1]
    simp only [Result.andThen_ok]
    rw [h2]
    simp
  | [], _ :: _, hl, _ => by simp at hl
  | _ :: _, [], hl, _ => by simp at hl
theorem results_eq (fn : Func) (tmps : Array Value) : results fn tmps = (do
    let vs ← fn.results.mapM (resSem tmps)
    pure (if h : vs.size = 1 then vs[0] else .tuple vs)) := by
  unfold results
  congr 1
theorem run_results {P : Program} {fn : Func} {tmps : Array Value} {vs : List Value} (hl : fn.results.toList.length = vs.length) (h : ∀ (j : Nat) r v, fn.results.toList[j]? = some r → vs[j]? = some v → resRun P tmps w r v) : (results fn tmps).run P w = .ok (valOf vs) w := by
  have h1 := run_mapM_res (P := P) (w := w) (tmps := tmps) fn.results.toList vs hl h
  rw [results_eq]
  have e : fn.results.mapM (resSem tmps) = List.toArray <$> fn.results.toList.mapM (resSem tmps) := by
    conv => lhs; rw [← Array.toArray_toList (xs := fn.results)]
    rw [List.mapM_toArray]
  rw [e]
  simp only [Sem.run_bind, Sem.run_map, h1, Result.andThen_ok]
  match vs with
  | [] => rfl
  | [v] => rfl
  | u :: v :: vs => simp [valOf]
theorem resV_sound {r : ResultVar} {x : SV} (H : Inv C R G st a w) (h : resV C st r = some x) : ∃ v, resRun C.P a.tmps w r v ∧ VRel R G st.h x v := by
  cases r with
  | tmp t =>
    simp only [resV, Option.some.injEq] at h
    subst h
    exact ⟨a.tmps.getD t undef, by simp [resRun, resSem], gt_rel H.here.good (H.slots t)⟩
  | cell b t =>
    simp only [resV] at h
    have hd := does_load (o := ⟨none, .load t (.tmp b), 0, "", #[], none⟩) (p := []) (x := .tmp b) (t := t) H.here (fun t _ => H.slots t) rfl h
    obtain ⟨val, h1, h2⟩ := hd
    refine ⟨val, ?_, h2⟩
    have hv := H.ev (.tmp b)
    simp only [resRun]
    simp only [execOp] at h1
    have hp : ∃ ad, a.tmps.getD b undef = .pointer (some ad) := by
      have hv : VRel R G st.h (gt C st [] b) (a.tmps.getD b undef) := gt_rel H.here.good (H.slots b)
      generalize gt C st [] b = sx at h hv
      cases sx <;> simp only [load] at h <;> first | cases h | skip
      · exact ⟨_, hv.2⟩
      · obtain ⟨g, o, e, _⟩ := hv; exact ⟨_, e⟩
    obtain ⟨ad, hp⟩ := hp
    have he : a.eval (.tmp b) = .pointer (some ad) := hp
    rw [he] at h1
    simp only [Sem.run_bind] at h1
    simp only [resSem, hp, asAddr, Sem.run_bind, Sem.run_pure, Result.andThen_ok]
    simp only [Instr.loadAt, Instr.sureAddr, Sem.run_bind, Sem.run_pure, Result.andThen_ok] at h1
    revert h1
    generalize (loadVar t ad).run C.P w = q
    intro h1
    cases q with
    | ok u w1 => simp at h1; rw [h1.1, h1.2]
    | halt x w1 => simp at h1
end Go.Den
