/- The evaluator of Go code over plain data, and its soundness: part 5 of 8. -/
import Derived.Test.YtklnogkdclhdhaaDm4
set_option linter.unusedVariables false
set_option linter.unusedSimpArgs false
/- One operation after the other. -/
namespace Go.Den
open Go
variable {C : Ctx} {R : Rt} {G G0 G1 : Gh} {st st1 st2 : St} {a : Act} {w w' : World} {o : Oper} {v : SV}

/-! the slots that a region has filled so far are told by their names -/
def SameL (st st1 : St) : Prop := ∀ t, (lk st1.l t).isSome = (lk st.l t).isSome
theorem SameL.refl (st : St) : SameL st st := fun _ => rfl
theorem SameL.trans {a b c : St} (h : SameL a b) (k : SameL b c) : SameL a c := fun t => (k t).trans (h t)
theorem sameL_kill (st : St) (n : Nat) (h : List (Nat × Blk)) : SameL st { kill st n with h := h } := fun t => by simp [kill, lk_killL]
theorem sameL_adds : ∀ {xs : List (Nat × Blk)} {st st1 : St}, adds st xs = some st1 → SameL st st1
  | [], st, st1, h => by simp [adds] at h; rw [h]; exact .refl _
  | (n, b) :: r, st, st1, h => by
    simp only [adds] at h
    split at h
    · cases h
    · have := sameL_adds h; exact this
theorem sameL_take1 {x : SV} {d : D} (h : take1 st x = some (d, st1)) : SameL st st1 := by
  unfold take1 at h
  split at h
  · split at h
    · cases h; exact .refl _
    · cases h
  · cases h; exact .refl _
  · split at h
    · split at h
      · cases h
      · cases h; exact sameL_kill _ _ _
    · cases h
  · cases h
theorem sameL_takes : ∀ {vs : List SV} {ds : List D} {st st1 : St}, takes st vs = some (ds, st1) → SameL st st1
  | [], ds, st, st1, h => by simp [takes] at h; rw [h.2]; exact .refl _
  | v :: vs, ds, st, st1, h => by
    simp only [takes] at h
    split at h
    · rename_i h1
      split at h
      · rename_i h2; cases h; exact (sameL_take1 h1).trans (sameL_takes h2)
      · cases h
    · cases h
theorem sameL_takeK : ∀ {ks : List (Option (Nat × Nat))} {vs : List SV} {ds : List D} {st st1 : St}, takeK st ks vs = some (ds, st1) → SameL st st1
  | [], vs, ds, st, st1, h => by cases vs <;> simp [takeK] at h; rw [h.2]; exact .refl _
  | none :: ks, vs, ds, st, st1, h => by
    cases vs with
    | nil => simp [takeK] at h
    | cons v vs =>
      cases v <;> simp only [takeK] at h
      case d x =>
        split at h
        · rename_i h2; cases h; exact sameL_takeK h2
        · cases h
      all_goals cases h
  | some (e, sz) :: ks, vs, ds, st, st1, h => by
    cases vs with
    | nil => simp [takeK] at h
    | cons v vs =>
      simp only [takeK] at h
      split at h
      · split at h
        · rename_i h2; cases h; exact sameL_takeK h2
        · cases h
      · split at h
        · split at h
          · split at h
            · rename_i h2; cases h; exact (sameL_kill _ _ _).trans (sameL_takeK h2)
            · cases h
          · cases h
        · cases h
      · cases h
theorem sameL_given : ∀ {ms : List Mode} {xs : List SV} {r : List (Option DV)} {st st1 : St}, given st ms xs = some (r, st1) → SameL st st1
  | [], xs, r, st, st1, h => by cases xs <;> simp [given] at h; rw [h.2]; exact .refl _
  | m :: ms, [], r, st, st1, h => by cases m <;> simp [given] at h
  | m :: ms, x :: xs, r, st, st1, h => by
    unfold given at h
    split at h
    · rename_i heq; cases heq
    · rename_i heq1 heq2
      cases heq1; cases heq2
      split at h
      · rename_i h1
        split at h
        · rename_i h2
          split at h
          · cases h; exact (sameL_takeK h1).trans (sameL_given h2)
          · cases h; exact (sameL_takeK h1).trans (sameL_given h2)
          · cases h
        · cases h
      · cases h
    · rename_i heq1 heq2
      cases heq1; cases heq2
      split at h
      · split at h
        · split at h
          · rename_i h1
            split at h
            · rename_i h2
              cases h
              have a1 := sameL_takeK h1
              exact fun t => ((sameL_given h2) t).trans (a1 t)
            · cases h
          · cases h
        · cases h
      · cases h
    · rename_i heq1 heq2
      cases heq1; cases heq2
      split at h
      · rename_i h2; cases h; exact sameL_given h2
      · cases h
    · cases h
theorem sameL_backs {h0 : List (Nat × Blk)} {ns sus : List Nat} : ∀ {ms : List Mode} {xs : List SV} {os : List (List D)} {st st1 : St}, backs h0 ns sus st ms xs os = some st1 → SameL st st1
  | [], xs, os, st, st1, h => by cases xs <;> cases os <;> simp [backs] at h; rw [h]; exact .refl _
  | m :: ms, [], os, st, st1, h => by cases m <;> cases os <;> simp [backs] at h
  | m :: ms, x :: xs, os, st, st1, h => by
    by_cases hp : ∃ ks, m = .ptr ks
    · obtain ⟨ks, rfl⟩ := hp
      by_cases hx : ∃ n off, x = .ptr n off
      · obtain ⟨n, off, rfl⟩ := hx
        cases os with
        | nil => simp [backs] at h
        | cons o os =>
          simp only [backs] at h
          split at h
          · split at h
            · split at h
              · split at h
                · split at h
                  · rename_i ha; exact (sameL_adds ha).trans (sameL_backs h)
                  · cases h
                · cases h
              · cases h
            · cases h
          · cases h
      · cases x <;> first | exact absurd ⟨_, _, rfl⟩ hx | (simp [backs] at h)
    · by_cases hio : ∃ ks, m = .io ks
      · obtain ⟨ks, rfl⟩ := hio; simp [backs] at h
      · have eq : backs h0 ns sus st (m :: ms) (x :: xs) os = backs h0 ns sus st ms xs os := by
          cases m with
          | ptr ks => exact absurd ⟨ks, rfl⟩ hp
          | io ks => exact absurd ⟨ks, rfl⟩ hio
          | _ => cases os <;> rfl
        rw [eq] at h
        exact sameL_backs h
theorem sameL_source {zs : List D} {x : SV} {ok : Bool} {ys : List (List D)} (h : source zs st x = some (ok, ys, st1)) : SameL st st1 := by
  unfold source at h
  split at h
  · split at h
    · split at h
      · split at h
        · cases h; exact .refl _
        · cases h; exact sameL_kill _ _ _
      · cases h
    · cases h
  · split at h
    · cases h; exact .refl _
    · cases h
  · cases h; exact .refl _
  · cases h
theorem sameL_rowsOf {sz : Nat} : ∀ {parts : List (Nat × Operand)} {k : Nat} {rows : List (List D)} {st st1 : St}, rowsOf C sz parts k st = some (rows, st1) → SameL st st1
  | [], k, rows, st, st1, h => by simp [rowsOf] at h; rw [h.2]; exact .refl _
  | (i, x) :: r, k, rows, st, st1, h => by
    simp only [rowsOf] at h
    split at h
    · split at h
      · rename_i h1
        split at h
        · split at h
          · rename_i h2; cases h; exact (sameL_takes h1).trans (sameL_rowsOf h2)
          · cases h
        · cases h
      · cases h
    · cases h
theorem sameL_store {t : TypeId} {p x : SV} {b : Bool} (h : store C st t p x = some (b, st1)) : SameL st st1 := by
  unfold store at h
  split at h
  · split at h
    · split at h
      · split at h
        · cases h; exact fun _ => rfl
        · cases h
      · cases h
    · split at h
      · rename_i h1
        split at h
        · cases h; exact fun t => (sameL_takes h1) t
        · cases h
      · cases h
    · cases h
  · cases h
theorem sameL_cut {el n : Nat} {ok : List (List D) → Bool} {f : List (List D) → List (List D)} {b : Bool} (h : cut C st el n ok f = some (b, v, st1)) : SameL st st1 := by
  unfold cut at h
  split at h
  · split at h
    · cases h; exact sameL_kill _ _ _
    · cases h
  · cases h
theorem sameL_callFn {s f : Nat} {b : Bool} {xs : List SV} (h : callFn C st s f xs = some (b, v, st1)) : SameL st st1 := by
  unfold callFn at h
  split at h
  · obtain ⟨h2, _, rfl, _⟩ := callIo_st h; exact fun _ => rfl
  split at h
  · rename_i h1
    split at h
    · split at h
      · split at h
        · rename_i h2
          have k := (sameL_given h1).trans (sameL_backs h2)
          split at h
          · cases h; exact k
          · split at h
            · split at h
              · rename_i h3; cases h; exact k.trans (sameL_adds h3)
              · cases h
            · cases h
          · split at h
            · split at h
              · cases h; exact k
              · split at h
                · split at h
                  · rename_i h3; cases h; exact k.trans (sameL_adds h3)
                  · cases h
                · cases h
            · cases h
          · split at h
            · split at h
              · rename_i h3; cases h; exact k.trans (sameL_adds h3)
              · cases h
            · cases h
          · cases h
        · cases h
    · cases h
  · cases h
theorem sameL_heavy {s : Nat} {op : Op} {b : Bool} (h : heavy C st s op = some (b, v, st1)) : SameL st st1 := by
  have adds' : ∀ {st st1 : St} {xs : List (Nat × Blk)} {α : Type} {f : St → α} {g : α}, (adds st xs).map f = some g → ∃ st2, adds st xs = some st2 ∧ f st2 = g := fun h => by
    rw [Option.map_eq_some_iff] at h; exact h
  unfold heavy at h
  split at h
  · split at h
    · obtain ⟨st2, h1, h2⟩ := adds' (st1 := st) h; cases h2; exact sameL_adds h1
    · cases h
  · split at h
    · obtain ⟨st2, h1, h2⟩ := adds' (st1 := st) h; cases h2; exact sameL_adds h1
    · cases h
  · split at h
    · split at h
      · split at h
        · rename_i hr
          split at h
          · obtain ⟨st2, h1, h2⟩ := adds' (st1 := st) h; cases h2; exact (sameL_rowsOf hr).trans (sameL_adds h1)
          · cases h
        · cases h
      · cases h
    · cases h
  · split at h
    · split at h
      · split at h
        · obtain ⟨st2, h1, h2⟩ := adds' (st1 := st) h; cases h2; exact sameL_adds h1
        · cases h
      · cases h
    · cases h
  · rw [Option.map_eq_some_iff] at h
    obtain ⟨⟨b2, st2⟩, h1, h2⟩ := h
    cases h2
    exact sameL_store h1
  · split at h
    · exact sameL_cut h
    · exact sameL_cut h
    · exact sameL_cut h
    · cases h
  · split at h
    · split at h
      · split at h
        · split at h
          · split at h
            · split at h
              · rename_i hs
                split at h
                · split at h
                  · split at h
                    · cases h; exact (sameL_source hs).trans (sameL_kill _ _ _)
                    · cases h
                  · cases h
                · obtain ⟨st2, h1, h2⟩ := adds' (st1 := st) h; cases h2; exact (sameL_source hs).trans (sameL_adds h1)
                · cases h
              · cases h
            · cases h
          · cases h
        · cases h
      · cases h
    · exact sameL_callFn h
    · cases h
  · cases h

theorem heavy_sound {s : Nat} (hC : CtxOk C) (H : Inv C R G st a w) (h : heavy C st s o.op = some (true, v, st1)) : Doing C R G st a w o v st1 := by
  generalize hop : o.op = op at h
  cases op
  case alloc t =>
    simp only [heavy] at h
    split at h
    · rename_i zs hz
      rw [Option.map_eq_some_iff] at h
      obtain ⟨st2, h1, h2⟩ := h
      cases h2
      exact doing_alloc H hop hz h1
    · cases h
  case box t x =>
    simp only [heavy] at h
    split at h
    · rename_i hf
      rw [Option.map_eq_some_iff] at h
      obtain ⟨st2, h1, h2⟩ := h
      cases h2
      exact doing_box H hop (fits_ok hf).1 h1
    · cases h
  case buildSlice t n parts =>
    simp only [heavy] at h
    split at h
    · rename_i el ht
      split at h
      · rename_i zs hz
        split at h
        · rename_i rows st2 hr
          split at h
          · rename_i hn
            rw [Option.map_eq_some_iff] at h
            obtain ⟨st3, h1, h2⟩ := h
            cases h2
            exact doing_buildSlice H hop ht hz hr hn.1 hn.2 h1
          · cases h
        · cases h
      · cases h
    · cases h
  case makeSlice t x y =>
    simp only [heavy] at h
    split at h
    · rename_i el kx k ky k' ht hx hy
      split at h
      · rename_i hsm
        split at h
        · rename_i zs hz
          rw [Option.map_eq_some_iff] at h
          obtain ⟨st2, h1, h2⟩ := h
          simp only [Prod.mk.injEq, decide_eq_true_eq] at h2
          obtain ⟨⟨h3, h4, rfl⟩, rfl, rfl⟩ := h2
          exact doing_make H hop ht hx hy hsm hz h3 h4 h1
        · cases h
      · cases h
    · cases h
  case store t p x =>
    simp only [heavy] at h
    rw [Option.map_eq_some_iff] at h
    obtain ⟨⟨b2, st2⟩, h1, h2⟩ := h
    cases h2
    exact doing_store H hop h1
  case slice t x lo hi mx => exact doing_slice (s := s) H hop (by rw [hop]; exact h)
  case call c =>
    obtain ⟨callee, args, ts⟩ := c
    cases callee with
    | builtin b =>
      by_cases hb : b = .append
      · subst hb
        exact doing_append (s := s) H hop (by rw [hop]; exact h)
      · cases b <;> first | exact absurd rfl hb | (simp [heavy] at h)
    | value f =>
      cases f with
      | func f =>
        simp only [heavy] at h
        exact doing_callFn hC H hop h
      | _ => simp [heavy] at h
    | invoke r m => simp [heavy] at h
  all_goals (simp [heavy] at h)
end Go.Den

/- Regions. -/
namespace Go.Den
open Go
variable {C : Ctx} {R : Rt} {G G0 G1 : Gh} {st st1 st2 : St} {a : Act} {w w' : World} {o : Oper} {v : SV}

theorem lkm_none : ∀ {ks : List Nat} {m : List SV} {t : Nat}, isIn ks t = false → lkm ks m t = .undef
  | [], m, t, _ => by cases m <;> rfl
  | k :: ks, [], t, _ => rfl
  | k :: ks, v :: vs, t, h => by
    simp only [isIn] at h
    split at h
    · cases h
    · rename_i hk; simp only [lkm, if_neg hk]; exact lkm_none h
theorem lkm_stm : ∀ {ks : List Nat} {m : List SV} {t : Nat} {x : SV}, isIn ks t = true → m.length = ks.length → ∀ u, lkm ks (stm ks m t x) u = if u = t then x else lkm ks m u
  | [], m, t, x, h, _, u => by simp [isIn] at h
  | k :: ks, [], t, x, h, hl, u => by simp at hl
  | k :: ks, v :: vs, t, x, h, hl, u => by
    simp only [isIn] at h
    simp only [stm]
    split
    · rename_i hk
      subst hk
      simp only [lkm]
      by_cases hu : k = u
      · simp [hu]
      · simp [hu, Ne.symm hu]
    · rename_i hk
      rw [if_neg hk] at h
      simp only [lkm]
      rw [lkm_stm h (by simpa using hl) u]
      by_cases hu : k = u
      · subst hu; simp [hk]
      · simp [hu]
theorem stm_len : ∀ (ks : List Nat) (m : List SV) (t : Nat) (x : SV), (stm ks m t x).length = m.length
  | [], m, t, x => by cases m <;> rfl
  | k :: ks, [], t, x => rfl
  | k :: ks, v :: vs, t, x => by simp only [stm]; split <;> simp [stm_len ks vs]
theorem getD_put {a : Act} {t u : Nat} {val : Value} (ht : t < a.tmps.size) : (a.put (some t) val).tmps.getD u undef = if u = t then val else a.tmps.getD u undef := by
  simp only [Act.put, Array.getD_eq_getD_getElem?, Array.getElem?_setIfInBounds]
  by_cases h : t = u
  · subst h; simp [ht]
  · simp [h, Ne.symm h]

/-- A slot is filled. -/
theorem put_inv {p : Path} {c : Bool} {dst : Option Nat} {val : Value} (H : Inv C R G st a w) (hv : if c then VRel R G st.h v val else val = undef) (hp : PathC st.l p c) (hc : p = [] → c = true) (hl : ∀ t, dst = some t → lk st.l t = none ∧ t < a.tmps.size) : Inv C R G (pt C st p c dst v) (a.put dst val) w := by
  cases dst with
  | none => exact H
  | some t =>
    obtain ⟨hlk, ht⟩ := hl t rfl
    unfold pt
    dsimp only
    by_cases hk : isIn C.keep t = true
    · rw [if_pos hk]
      have key : ∀ x : SV, VRel R G st.h x val → Inv C R G { st with m := stm C.keep st.m t x } (a.put (some t) val) w := fun x hx =>
        ⟨H.W, H.B, H.all, fun u => by
          have hu := H.slots u
          unfold SlotR at hu ⊢
          rw [getD_put ht]
          dsimp only
          by_cases hut : u = t
          · subst hut
            rw [hlk]
            simp only [if_true]
            rw [lkm_stm hk H.m u, if_pos rfl]
            exact hx
          · rw [if_neg hut]
            cases hlu : lk st.l u with
            | none =>
              rw [hlu] at hu
              dsimp only at hu ⊢
              rw [lkm_stm hk H.m u, if_neg hut]
              exact hu
            | some e => rw [hlu] at hu; exact hu, H.l, by simp only [stm_len]; exact H.m⟩
      split
      · have hc' := hc rfl
        subst hc'
        exact key v hv
      · exact key .undef trivial
    · rw [if_neg hk]
      refine ⟨H.W, H.B, H.all, fun u => ?_, fun u q c' v' h => ?_, H.m⟩
      · have hu := H.slots u
        unfold SlotR at hu ⊢
        rw [getD_put ht]
        simp only [lk]
        by_cases hut : u = t
        · subst hut
          simp only [if_true]
          exact hv
        · rw [if_neg (Ne.symm hut), if_neg hut]
          exact hu
      · have lift : ∀ {q : Path} {c' : Bool}, PathC st.l q c' → PathC ((t, p, c, v) :: st.l) q c' := fun h => by
          rcases h with h | ⟨q', t', b, c'', x, h1, h2, h3⟩
          · exact .inl h
          · refine .inr ⟨q', t', b, c'', x, h1, ?_, h3⟩
            simp only [lk]
            rw [if_neg (fun e => by subst e; rw [hlk] at h2; cases h2)]
            exact h2
        simp only [lk] at h
        split at h
        · cases h; exact lift hp
        · exact lift (H.l u q c' v' h)
theorem pt_l {p : Path} {c : Bool} {dst : Option Nat} {seen : List Nat} (hl : ∀ t, (lk st.l t).isSome = true → t ∈ seen ∧ isIn C.keep t = false) :
    ∀ t, (lk (pt C st p c dst v).l t).isSome = true → t ∈ (match dst with | some d => d :: seen | none => seen) ∧ isIn C.keep t = false := by
  intro t h
  unfold pt at h
  cases dst with
  | none => exact hl t h
  | some d =>
    dsimp only at h ⊢
    split at h
    · have : (lk st.l t).isSome = true := by
        split at h <;> exact h
      exact ⟨List.mem_cons_of_mem _ (hl t this).1, (hl t this).2⟩
    · rename_i hk
      simp only [lk] at h
      split at h
      · rename_i e; subst e; exact ⟨by simp, by simpa using hk⟩
      · exact ⟨List.mem_cons_of_mem _ (hl t h).1, (hl t h).2⟩

theorem okP_ok {p : Path} {c ok : Bool} (h : okP p c ok = true) (hc : c = true) : ok = true := by
  subst hc
  cases p <;> simp_all [okP]
/-- The guard, as the machine finds it. -/
theorem guard_rel {ops : Array Oper} {p : Path} {c : Bool} (H : Inv C R G st a w) (h : guardOf ops st o.guard = some (p, c)) : PathC st.l p c ∧ (p = [] → c = true) ∧ Region.wanted o (yielded ops a.tmps) = c := by
  unfold guardOf at h
  cases hg : o.guard with
  | none =>
    rw [hg] at h
    cases h
    exact ⟨.inl ⟨rfl, rfl⟩, fun _ => rfl, by simp [Region.wanted, hg]⟩
  | some jb =>
    obtain ⟨j, b⟩ := jb
    rw [hg] at h
    dsimp only at h
    split at h
    · rename_i oj hoj
      split at h
      · rename_i t ht
        split at h
        · rename_i q c' x hlk
          cases h
          have hgd : gd b x = (x == b) := by cases b <;> cases x <;> rfl
          rw [hgd]
          refine ⟨.inr ⟨q, t, b, c', x, rfl, hlk, rfl⟩, fun e => by simp at e, ?_⟩
          have hs := H.slots t
          unfold SlotR at hs
          rw [hlk] at hs
          dsimp only at hs
          simp only [Region.wanted, hg, yielded, hoj, Option.bind_some, ht]
          cases c' with
          | true =>
            have hv : a.tmps.getD t undef = .bool x := vrel_b (R := R) (G := G) (h := st.h) hs
            have hget : a.tmps[t]? = some (.bool x) := by
              cases he : a.tmps[t]? with
              | none => rw [Array.getD_eq_getD_getElem?, he] at hv; cases hv
              | some u => rw [Array.getD_eq_getD_getElem?, he] at hv; simp at hv; rw [hv]
            rw [hget]
            cases x <;> cases b <;> rfl
          | false =>
            have hv : a.tmps.getD t undef = undef := hs
            have hget : a.tmps[t]? = none ∨ a.tmps[t]? = some undef := by
              cases he : a.tmps[t]? with
              | none => exact .inl rfl
              | some u => rw [Array.getD_eq_getD_getElem?, he] at hv; simp at hv; rw [hv]; exact .inr rfl
            rcases hget with e | e <;> rw [e] <;> rfl
        · cases h
      · cases h
    · cases h

/-- The slots of a region's operations: each once, and there. -/
def chkOps (n : Nat) : List Nat → List Oper → Bool
  | _, [] => true
  | seen, o :: os => match o.dst with
    | none => chkOps n seen os
    | some t => decide (t < n) && !isIn seen t && chkOps n (t :: seen) os
theorem chk_dst {n : Nat} {seen : List Nat} {os : List Oper} (h : chkOps n seen (o :: os) = true) : (∀ t, o.dst = some t → t < n ∧ t ∉ seen) ∧ chkOps n (match o.dst with | some d => d :: seen | none => seen) os = true := by
  simp only [chkOps] at h
  cases hd : o.dst with
  | none => rw [hd] at h; exact ⟨fun t ht => (by cases ht), h⟩
  | some t =>
    rw [hd] at h
    simp only [Bool.and_eq_true, decide_eq_true_eq, Bool.not_eq_true'] at h
    refine ⟨fun t' ht => ?_, h.2⟩
    cases ht
    exact ⟨h.1.1, fun hm => by rw [isIn_mem.2 hm] at h; simp at h⟩
theorem put_size (a : Act) (dst : Option Nat) (val : Value) : (a.put dst val).tmps.size = a.tmps.size ∧ (a.put dst val).defers = a.defers := by
  cases dst <;> simp [Act.put]
/-- The operations fill none of the slots p. -/
def loOps (p : List Nat) (os : List Oper) : Bool := os.all fun o => match o.dst with | some t => !isIn p t | none => true
theorem loOps_mem {p : List Nat} {os : List Oper} (h : loOps p os = true) : ∀ o ∈ os, ∀ t, o.dst = some t → t ∉ p := fun o ho t ht => by
  have := List.all_eq_true.1 h o ho
  rw [ht] at this
  simp only [Bool.not_eq_true'] at this
  exact fun hm => by rw [isIn_mem.2 hm] at this; cases this
/-- The slots p stand as they stood. -/
def Still (p : List Nat) (a a' : Act) : Prop := a'.defers = a.defers ∧ ∀ i, i ∈ p → a'.tmps[i]? = a.tmps[i]?
theorem Still.refl (p : List Nat) (a : Act) : Still p a a := ⟨rfl, fun _ _ => rfl⟩
theorem Still.trans {p : List Nat} {a b c : Act} (A : Still p a b) (B : Still p b c) : Still p a c := ⟨B.1.trans A.1, fun i hi => (B.2 i hi).trans (A.2 i hi)⟩
theorem put_still {p : List Nat} {a : Act} {dst : Option Nat} {val : Value} (h : ∀ t, dst = some t → t ∉ p) : Still p a (a.put dst val) := by
  cases dst with
  | none => exact Still.refl p a
  | some t =>
    have := h t rfl
    refine ⟨by simp [Act.put], fun i hi => ?_⟩
    have hne : t ≠ i := fun e => this (e ▸ hi)
    simp [Act.put, Array.getElem?_setIfInBounds, hne]
theorem clear_inv (H : Inv C R G st a w) (hl : ∀ t, (lk st.l t).isSome = true → isIn C.keep t = false) : Inv C R G { st with l := [] } a w where
  W := H.W
  B := H.B
  all := H.all
  slots := fun t => by
    have hs := H.slots t
    unfold SlotR at hs ⊢
    dsimp only [lk]
    cases hlk : lk st.l t with
    | none => rw [hlk] at hs; exact hs
    | some e => rw [lkm_none (hl t (by rw [hlk]; rfl))]; trivial
  l := fun t q c v h => by cases h
  m := H.m

theorem strip_pre : ∀ {p q : Path}, pre q p = true → strip p q = []
  | p, [], _ => by cases p <;> simp [strip]
  | [], (b, y) :: q, h => by simp [pre] at h
  | (a, x) :: p, (b, y) :: q, h => by
    simp only [pre] at h
    split at h
    · rename_i e; subst e
      split at h
      · rename_i e; subst e
        simp only [strip, if_true]
        exact strip_pre h
      · cases h
    · cases h
theorem strip_nil : ∀ {p q : Path}, strip p q = [] → pre q p = true
  | p, [], _ => by simp [pre]
  | [], (b, y) :: q, h => by simp [strip] at h
  | (a, x) :: p, (b, y) :: q, h => by
    simp only [strip] at h
    split at h
    · rename_i e; subst e
      split at h
      · rename_i e; subst e
        simp only [pre, if_true]
        exact strip_nil h
      · cases h
    · cases h
theorem strip_snoc : ∀ {p q : Path} {e : Nat × Bool}, pre q p = false → strip p (q ++ [e]) = strip p q ++ [e]
  | p, [], e, h => by simp [pre] at h
  | [], (b, y) :: q, e, h => by simp [strip]
  | (a, x) :: p, (b, y) :: q, e, h => by
    simp only [pre] at h
    simp only [List.cons_append, strip]
    split
    · rename_i e1; subst e1
      split
      · rename_i e2; subst e2
        simp only [if_true] at h
        exact strip_snoc h
      · rfl
    · rfl
theorem strip_last : ∀ {p q : Path} {e : Nat × Bool}, pre q p = true → pre (q ++ [e]) p = false → strip p (q ++ [e]) = [e]
  | [], [], e, _, _ => by simp [strip]
  | (a, x) :: p, [], (b, y), _, h => by
    simp only [List.nil_append, strip]
    split
    · rename_i e1; subst e1
      split
      · rename_i e2; subst e2
        simp [pre] at h
      · rfl
    · rfl
  | [], (b, y) :: q, e, h, _ => by simp [pre] at h
  | (a, x) :: p, (b, y) :: q, e, h, h' => by
    simp only [pre] at h
    split at h
    · rename_i e1; subst e1
      split at h
      · rename_i e2; subst e2
        simp only [List.cons_append, pre, if_true] at h'
        simp only [List.cons_append, strip, if_true]
        exact strip_last h h'
      · cases h
    · cases h
theorem lk_atL (p : Path) : ∀ (l : List (Nat × Path × Bool × SV)) (t : Nat), lk (atL p l) t = (lk l t).map fun e => (strip p e.1, (match strip p e.1 with | [] => true | _ => e.2.1), e.2.2)
  | [], t => rfl
  | (u, q, c, v) :: r, t => by
    simp only [atL, lk, lk_atL p r t]
    split <;> rfl
/-- One who stands at p, where it holds, may forget it. -/
theorem atP_inv {p : Path} (H : Inv C R G st a w) (hp : PathC st.l p true) : Inv C R G (atP p st) a w := by
  have hgood := good_of H.l hp
  refine ⟨H.W, H.B, H.all, fun t => ?_, fun t q c v h => ?_, H.m⟩
  · have hs := H.slots t
    unfold SlotR at hs ⊢
    show match lk (atL p st.l) t with | some (_, c, v) => if c then VRel R G st.h v (a.tmps.getD t undef) else a.tmps.getD t undef = undef | none => VRel R G st.h (lkm C.keep st.m t) (a.tmps.getD t undef)
    rw [lk_atL]
    cases hlk : lk st.l t with
    | none => rw [hlk] at hs; exact hs
    | some e =>
      obtain ⟨q, c, v⟩ := e
      rw [hlk] at hs
      dsimp only [Option.map] at hs ⊢
      cases hr : strip p q with
      | nil =>
        have := hgood t q c v hlk (strip_nil hr)
        subst this
        exact hs
      | cons x r => exact hs
  · show PathC (atL p st.l) q c
    have h' : lk (atL p st.l) t = some (q, c, v) := h
    rw [lk_atL, Option.map_eq_some_iff] at h'
    obtain ⟨⟨q1, c1, v1⟩, h1, h2⟩ := h'
    simp only [Prod.mk.injEq] at h2
    obtain ⟨rfl, rfl, rfl⟩ := h2
    cases hr : strip p q1 with
    | nil => exact .inl ⟨rfl, rfl⟩
    | cons x0 r0 =>
      dsimp only
      have hnp : pre q1 p = false := by
        cases hpp : pre q1 p with
        | false => rfl
        | true => rw [strip_pre hpp] at hr; cases hr
      rcases H.l t q1 c1 _ h1 with ⟨rfl, _⟩ | ⟨q0, t0, b0, c0, y0, rfl, h3, h4⟩
      · simp [pre] at hnp
      · refine .inr ⟨strip p q0, t0, b0, (match strip p q0 with | [] => true | _ => c0), y0, ?_, by rw [lk_atL, h3]; rfl, ?_⟩
        · rw [← hr]
          cases hq : pre q0 p with
          | true => rw [strip_last hq hnp, strip_pre hq]; rfl
          | false => exact strip_snoc hq
        · rw [h4]
          cases hq : strip p q0 with
          | nil =>
            have := hgood t0 q0 c0 _ h3 (strip_nil hq)
            subst this
            rfl
          | cons => rfl
theorem sameL_atP (p : Path) (st : St) : SameL st (atP p st) := fun t => by
  show (lk (atL p st.l) t).isSome = _
  rw [lk_atL]
  cases lk st.l t <;> rfl
theorem runOps_sound (hC : CtxOk C) {ops : Array Oper} {p0 : List Nat} {Q : Exit → Act → World → Prop} : ∀ (os : List Oper) (k : Nat) (seen : List Nat) (st : St) (G : Gh) (a : Act) (w : World), ops.toList.drop k = os → Inv C R G st a w → (∀ t, (lk st.l t).isSome = true → t ∈ seen ∧ isIn C.keep t = false) → chkOps a.tmps.size seen os = true → loOps p0 os = true → runOps C ops os st = some st2 →
    (∀ a' w' G', Inv C R G' st2 a' w' → st2.l = [] → a'.tmps.size = a.tmps.size → Still p0 a a' → Q .normal a' w') → wpOps C.P ops Q (List.range' k os.length) a w
  | [], k, seen, st, G, a, w, hd, H, hl, hchk, hlo, h, hQ => by
    simp only [runOps, Option.some.injEq] at h
    subst h
    exact hQ a w G (clear_inv H fun t ht => (hl t ht).2) rfl rfl (Still.refl _ _)
  | o :: os, k, seen, st, G, a, w, hd, H, hl, hchk, hlo, h, hQ => by
    have hst : ∀ val, Still p0 a (a.put o.dst val) := fun val => put_still (loOps_mem hlo o (by simp))
    have hlo' : loOps p0 os = true := by simp only [loOps, List.all_cons, Bool.and_eq_true] at hlo ⊢; exact hlo.2
    have hk : ops[k]? = some o := by
      have : ops.toList[k]? = some o := by
        have := congrArg (·[0]?) hd
        simpa using this
      simpa using this
    have hd' : ops.toList.drop (k + 1) = os := by
      rw [← List.drop_drop, hd]; rfl
    obtain ⟨hdst, hchk'⟩ := chk_dst hchk
    have hfree : ∀ {l : List (Nat × Path × Bool × SV)}, (∀ t, (lk l t).isSome = (lk st.l t).isSome) → ∀ t, o.dst = some t → lk l t = none ∧ t < a.tmps.size := fun hll t ht => by
      obtain ⟨h1, h2⟩ := hdst t ht
      refine ⟨?_, h1⟩
      cases he : lk _ t with
      | none => rfl
      | some e =>
        have h3 := hll t
        rw [he] at h3
        exact absurd (hl t h3.symm).1 h2
    -- behind the operation
    have next : ∀ {st' : St} {p : Path} {c : Bool} {v : SV} {G' : Gh} {val : Value} {w' : World}, Inv C R G' st' a w' → SameL st st' → (if c then VRel R G' st'.h v val else val = undef) → PathC st'.l p c → (p = [] → c = true) → runOps C ops os (pt C st' p c o.dst v) = some st2 → wpOps C.P ops Q (List.range' (k + 1) os.length) (a.put o.dst val) w' := by
      intro st' p c v G' val w' H' hL hv hp hc hrun
      obtain ⟨z1, z2⟩ := put_size a o.dst val
      refine runOps_sound hC os (k + 1) _ _ _ _ _ hd' (put_inv H' hv hp hc (hfree hL)) (pt_l (fun t ht => hl t (by rw [← hL t]; exact ht))) (by rw [z1]; exact hchk') hlo' hrun (fun a' w' G' h1 h2 h3 h4 => hQ a' w' G' h1 h2 (h3.trans z1) ((hst val).trans h4))
    simp only [List.length_cons, List.range'_succ, wpOps, hk]
    simp only [runOps] at h
    split at h
    · rename_i p c hg
      obtain ⟨hp, hc, hw⟩ := guard_rel H hg
      rw [hw]
      split at h
      · rename_i ok v hlight
        split at h
        · rename_i hok
          cases c with
          | false =>
            simp only [Bool.false_eq_true, if_false]
            exact next (c := false) (v := v) H (.refl _) rfl hp hc h
          | true =>
            simp only [if_true]
            have hok := okP_ok hok rfl
            subst hok
            refine .inl (light_sound hC ⟨H.W, H.bare, H.l, hp⟩ (fun t _ => H.slots t) hlight (fun val w' hext hv => ?_))
            exact next (c := true) (v := v) (inv_ext H hext) (.refl _) hv hp hc h
        · cases h
      · split at h
        · split at h
          · rename_i ok v st1 hheavy
            split at h
            · rename_i hok
              subst hok
              have hc' := hc rfl
              subst hc'
              simp only [if_true]
              refine .inl (heavy_sound hC H hheavy _ _ (fun val w' G' h1 h2 _ => ?_))
              exact next (c := true) (v := v) h1 (sameL_heavy hheavy) h2 (.inl ⟨rfl, rfl⟩) (fun _ => rfl) h
            · cases h
          · cases h
        · rename_i q p'
          split at h
          · rename_i hcc
            subst hcc
            split at h
            · rename_i ok v st1 hheavy
              split at h
              · rename_i hok
                subst hok
                simp only [if_true]
                refine .inl (heavy_sound hC (atP_inv H hp) hheavy _ _ (fun val w' G' h1 h2 _ => ?_))
                exact next (c := true) (v := v) h1 ((sameL_atP _ st).trans (sameL_heavy hheavy)) h2 (.inl ⟨rfl, rfl⟩) (fun _ => rfl) h
              · cases h
            · cases h
          · rename_i hcc
            have : c = false := by simpa using hcc
            subst this
            simp only [Bool.false_eq_true, if_false]
            exact next (c := false) (v := .undef) H (.refl _) rfl hp hc h
    · cases h
end Go.Den

/- Regions, a piece after the other; a slice within an own row is written to where it stands. -/
namespace Go.Den
open Go
variable {C : Ctx} {R : Rt} {G G0 G1 : Gh} {st st1 st2 : St} {a : Act} {w w' : World} {o : Oper} {v : SV}

theorem runPre_sound (hC : CtxOk C) {ops : Array Oper} {p0 : List Nat} {Q : Exit → Act → World → Prop} {rest : List Oper} : ∀ (os : List Oper) (k : Nat) (seen : List Nat) (st : St) (G : Gh) (a : Act) (w : World), ops.toList.drop k = os ++ rest → Inv C R G st a w → (∀ t, (lk st.l t).isSome = true → t ∈ seen ∧ isIn C.keep t = false) → chkOps a.tmps.size seen (os ++ rest) = true → loOps p0 (os ++ rest) = true → runPre C ops os st = some st2 →
    (∀ a' w' G' seen', Inv C R G' st2 a' w' → (∀ t, (lk st2.l t).isSome = true → t ∈ seen' ∧ isIn C.keep t = false) → chkOps a'.tmps.size seen' rest = true → a'.tmps.size = a.tmps.size → Still p0 a a' → wpOps C.P ops Q (List.range' (k + os.length) rest.length) a' w') → wpOps C.P ops Q (List.range' k (os.length + rest.length)) a w
  | [], k, seen, st, G, a, w, hd, H, hl, hchk, hlo, h, hQ => by
    simp only [runPre, Option.some.injEq] at h
    subst h
    have := hQ a w G seen H hl hchk rfl (Still.refl _ _)
    simpa using this
  | o :: os, k, seen, st, G, a, w, hd, H, hl, hchk, hlo, h, hQ => by
    have hst : ∀ val, Still p0 a (a.put o.dst val) := fun val => put_still (loOps_mem hlo o (by simp))
    have hlo' : loOps p0 (os ++ rest) = true := by simp only [loOps, List.cons_append, List.all_cons, Bool.and_eq_true] at hlo ⊢; exact hlo.2
    have hk : ops[k]? = some o := by
      have : ops.toList[k]? = some o := by
        have := congrArg (·[0]?) hd
        simpa using this
      simpa using this
    have hd' : ops.toList.drop (k + 1) = os ++ rest := by
      rw [← List.drop_drop, hd]; rfl
    obtain ⟨hdst, hchk'⟩ := chk_dst hchk
    have hfree : ∀ {l : List (Nat × Path × Bool × SV)}, (∀ t, (lk l t).isSome = (lk st.l t).isSome) → ∀ t, o.dst = some t → lk l t = none ∧ t < a.tmps.size := fun hll t ht => by
      obtain ⟨h1, h2⟩ := hdst t ht
      refine ⟨?_, h1⟩
      cases he : lk _ t with
      | none => rfl
      | some e =>
        have h3 := hll t
        rw [he] at h3
        exact absurd (hl t h3.symm).1 h2
    have next : ∀ {st' : St} {p : Path} {c : Bool} {v : SV} {G' : Gh} {val : Value} {w' : World}, Inv C R G' st' a w' → SameL st st' → (if c then VRel R G' st'.h v val else val = undef) → PathC st'.l p c → (p = [] → c = true) → runPre C ops os (pt C st' p c o.dst v) = some st2 → wpOps C.P ops Q (List.range' (k + 1) (os.length + rest.length)) (a.put o.dst val) w' := by
      intro st' p c v G' val w' H' hL hv hp hc hrun
      obtain ⟨z1, z2⟩ := put_size a o.dst val
      refine runPre_sound hC os (k + 1) _ _ _ _ _ hd' (put_inv H' hv hp hc (hfree hL)) (pt_l (fun t ht => hl t (by rw [← hL t]; exact ht))) (by rw [z1]; exact hchk') hlo' hrun (fun a' w' G' seen' h1 h2 h3 h4 h5 => ?_)
      have := hQ a' w' G' seen' h1 h2 h3 (h4.trans z1) ((hst val).trans h5)
      rw [List.length_cons, show k + (os.length + 1) = k + 1 + os.length by omega] at this
      exact this
    rw [List.length_cons, show os.length + 1 + rest.length = os.length + rest.length + 1 by omega]
    simp only [List.range'_succ, wpOps, hk]
    simp only [runPre] at h
    split at h
    · rename_i p c hg
      obtain ⟨hp, hc, hw⟩ := guard_rel H hg
      rw [hw]
      split at h
      · rename_i ok v hlight
        split at h
        · rename_i hok
          cases c with
          | false =>
            simp only [Bool.false_eq_true, if_false]
            exact next (c := false) (v := v) H (.refl _) rfl hp hc h
          | true =>
            simp only [if_true]
            have hok := okP_ok hok rfl
            subst hok
            refine .inl (light_sound hC ⟨H.W, H.bare, H.l, hp⟩ (fun t _ => H.slots t) hlight (fun val w' hext hv => ?_))
            exact next (c := true) (v := v) (inv_ext H hext) (.refl _) hv hp hc h
        · cases h
      · split at h
        · split at h
          · rename_i ok v st1 hheavy
            split at h
            · rename_i hok
              subst hok
              have hc' := hc rfl
              subst hc'
              simp only [if_true]
              refine .inl (heavy_sound hC H hheavy _ _ (fun val w' G' h1 h2 _ => ?_))
              exact next (c := true) (v := v) h1 (sameL_heavy hheavy) h2 (.inl ⟨rfl, rfl⟩) (fun _ => rfl) h
            · cases h
          · cases h
        · rename_i q p'
          split at h
          · rename_i hcc
            subst hcc
            split at h
            · rename_i ok v st1 hheavy
              split at h
              · rename_i hok
                subst hok
                simp only [if_true]
                refine .inl (heavy_sound hC (atP_inv H hp) hheavy _ _ (fun val w' G' h1 h2 _ => ?_))
                exact next (c := true) (v := v) h1 ((sameL_atP _ st).trans (sameL_heavy hheavy)) h2 (.inl ⟨rfl, rfl⟩) (fun _ => rfl) h
              · cases h
            · cases h
          · rename_i hcc
            have : c = false := by simpa using hcc
            subst this
            simp only [Bool.false_eq_true, if_false]
            exact next (c := false) (v := .undef) H (.refl _) rfl hp hc h
    · cases h

theorem isNest_ok {sig : Nat → Sig} {o1 o2 o3 : Oper} (h : isNest sig o1 o2 o3 = true) : ∃ t x s y s2 f args ts, o1.op = .load t x ∧ o1.dst = some s ∧ o1.guard = none ∧ o2.op = .move y ∧ o2.dst = some s2 ∧ o2.guard = none ∧ o3.op = .call { callee := .value (.func f), args := args, argTypes := ts } ∧ o3.guard = none ∧ args = #[.tmp s, .tmp s2] ∧ notT s y = true := by
  unfold isNest at h
  split at h
  · rename_i t x s y s2 c h1 h2 h3 h4 h5 h6 h7 h8
    split at h
    · rename_i f b1 b2 hc hargs
      simp only [Bool.and_eq_true, decide_eq_true_eq] at h
      obtain ⟨⟨⟨rfl, rfl⟩, hy⟩, _⟩ := h
      obtain ⟨callee, args, ts⟩ := c
      dsimp only at hc hargs
      subst hc
      exact ⟨t, x, _, y, _, f, args, ts, h1, h2, h3, h4, h5, h6, h7, h8, by rw [← Array.toList_inj, hargs], hy⟩
    · cases h
  · cases h
/-- A slice that an own value holds, as one that may be written to. -/
theorem own_weak {φ φ' : Nat → Prop} {ys : List (List D)} {u : Value} {sz : Nat} (h : OwnD w φ (.l ys) u) (hf : fstSz sz ys = true) (hφ : ys ≠ [] → ∀ k, φ k → φ' k) : RowX w wk sz φ' ys u := by
  generalize hd : D.l ys = d at h
  cases h with
  | b => cases hd
  | i => cases hd
  | s => cases hd
  | nil => cases hd; exact .inl (.inl ⟨rfl, rfl⟩)
  | l _ xs g o cap sz' e cur val ψ hg hp hcap hcur hsz hc hψ hdd hr =>
    cases hd
    by_cases hy : ys = []
    · subst hy; exact .inr ⟨rfl, rfl, _, _, rfl⟩
    · have e1 : sz' = sz := by
        cases ys with
        | nil => exact absurd rfl hy
        | cons r rs =>
          have h1 := hsz r (by simp)
          have h2 : r.length = sz := by simpa [fstSz] using hf
          omega
      subst e1
      exact .inl (.inr ⟨g, o, cap, e, cur, val, ψ, rfl, hg, hφ hy g hp, hcap, hcur, hsz, hc, fun i j k hk => ⟨hφ hy k (hψ i j k hk).1, (hψ i j k hk).2⟩, hdd, hr⟩)
theorem eval_put {a : Act} {s : Nat} {y : Operand} {val : Value} (hs : s < a.tmps.size) (hy : notT s y = true) : (a.put (some s) val).eval y = a.eval y := by
  cases y with
  | tmp t =>
    have hne : ¬ t = s := by simpa [notT] using hy
    have := getD_put (u := t) (val := val) hs
    rw [if_neg hne] at this
    exact this
  | _ => rfl
theorem wp_value {P : Program} {o : Oper} {K : Act → World → Prop} {Q : Exit → Act → World → Prop} {val : Value} (h : (execOp a.eval o).run P w = .ok (.value val) w) (hK : K (a.put o.dst val) w) : o.wp P a w K Q := by
  unfold Oper.wp
  rw [h]
  exact hK
theorem wpOps_step {P : Program} {ops : Array Oper} {o : Oper} {k : Nat} {l : List Nat} {Q : Exit → Act → World → Prop} (hk : ops[k]? = some o) (hw : Region.wanted o (yielded ops a.tmps) = true) (h : o.wp P a w (wpOps P ops Q l) Q) : wpOps P ops Q (k :: l) a w := by
  simp only [wpOps, hk, hw, if_true]
  exact .inl h
theorem nest_sound (hC : CtxOk C) {ops : Array Oper} {p0 : List Nat} {Q : Exit → Act → World → Prop} {rest : List Oper} {o1 o2 o3 : Oper} {k : Nat} {seen : List Nat} (hn : isNest C.sig o1 o2 o3 = true) (hd : ops.toList.drop k = o1 :: o2 :: o3 :: rest) (H : Inv C R G st a w) (hl : ∀ t, (lk st.l t).isSome = true → t ∈ seen ∧ isIn C.keep t = false) (hchk : chkOps a.tmps.size seen (o1 :: o2 :: o3 :: rest) = true) (hlo : loOps p0 (o1 :: o2 :: o3 :: rest) = true) (h : nest3 C st o1 o2 o3 = some (true, st2))
    (hQ : ∀ a' w' G' seen', Inv C R G' st2 a' w' → (∀ t, (lk st2.l t).isSome = true → t ∈ seen' ∧ isIn C.keep t = false) → chkOps a'.tmps.size seen' rest = true → a'.tmps.size = a.tmps.size → Still p0 a a' → wpOps C.P ops Q (List.range' (k + 3) rest.length) a' w') : wpOps C.P ops Q (List.range' k (rest.length + 3)) a w := by
  obtain ⟨t, x, s, y, s2, f, args, ts, p1, p2, p3, p4, p5, p6, p7, p8, p9, p10⟩ := isNest_ok hn
  have hk1 : ops[k]? = some o1 := by
    have := congrArg (·[0]?) hd
    simpa using this
  have hk2 : ops[k + 1]? = some o2 := by
    have := congrArg (·[1]?) hd
    simpa using this
  have hk3 : ops[k + 1 + 1]? = some o3 := by
    have := congrArg (·[2]?) hd
    simpa using this
  obtain ⟨d1, c1⟩ := chk_dst hchk
  rw [p2] at c1 d1
  obtain ⟨d2, c2⟩ := chk_dst c1
  rw [p5] at c2 d2
  obtain ⟨d3, c3⟩ := chk_dst c2
  obtain ⟨d11, d12⟩ := d1 s rfl
  obtain ⟨d21, d22⟩ := d2 s2 rfl
  simp only [List.mem_cons, not_or] at d22
  obtain ⟨d22, d23⟩ := d22
  unfold nest3 at h
  rw [p1, p4, p7] at h
  dsimp only at h
  split at h
  · rename_i el n i off dk f' ht hx hy hcal
    cases hcal
    split at h
    · rename_i e sz xs e1 sz1 zs hrow hms hr
      split at h
      · rename_i ok rs ys hF'
        simp only [Option.some.injEq, Prod.mk.injEq, Bool.and_eq_true, decide_eq_true_eq] at h
        obtain ⟨⟨hok, ⟨⟨⟨hwk, hsz1⟩, hoff⟩, hisF⟩, hfst⟩, rfl⟩ := h
        subst hok
        subst hwk
        -- the row, its element, its cell
        obtain ⟨hlive, e', sz', xs', hb', g, b, len, cap, hhv, hpv⟩ := H.evE hx
        rw [hrow] at hb'; cases hb'
        obtain ⟨bb, hb', hbr⟩ := H.B.rel n hlive id
        rw [hrow] at hb'; cases hb'
        have hi0 : i < xs.length := by
          rw [List.getD_eq_getElem?_getD] at hoff
          cases hxi : xs[i]? with
          | none => rw [hxi] at hoff; simp at hoff
          | some r => exact (List.getElem?_eq_some_iff.1 hxi).1
        have hri : xs[i]? = some (xs.getD i []) := by simp [List.getD_eq_getElem?_getD, hi0]
        have hnd : nthD (xs.getD i []) off = .l (asL (nthD (xs.getD i []) off)) := by
          simp only [isF, Bool.and_true] at hisF
          cases hq : nthD (xs.getD i []) off <;> rw [hq] at hisF <;> simp [isD] at hisF
          rfl
        generalize hr0 : xs.getD i [] = r at hri hnd hoff hfst hF'
        generalize hy0 : asL (nthD r off) = ys0 at hnd hfst hF'
        have hcell : r[off]? = some (.l ys0) := by rw [nthD_get (by omega), hnd]
        rcases hbr.1.some (by rintro rfl; simp at hi0) with ⟨h1, _⟩ | ⟨g', b', cap', t', cur, val, ψ, h1, hg, hφg, hcap, hcur, hsz, hc, hψ, hdd, hown⟩
        · rw [hhv] at h1; cases h1
        have h1' := h1
        rw [hhv] at h1
        simp only [Value.slice.injEq, Option.some.injEq, Addr.mk.injEq, and_true] at h1
        obtain ⟨⟨rfl, rfl⟩, rfl, rfl⟩ := h1
        have hu0 := hown i r off _ hri hcell
        have hcu := hc i r off _ hri hcell
        generalize hu : val i off = u at hu0 hcu
        have hone : u.oneCell' = true := hu0.one
        -- the machine, up to the call
        have hvk := H.evE hy
        have hok1 : okTy (tyOf C.P t) = true := by rw [ht]; rfl
        have hcw : w.cell? ⟨g, b + i * sz + off, none⟩ = some u := by rw [cell_of_row w _ _ cur t' (0, 0) hg]; exact hcu
        have hrun := run_load_cells (P := C.P) (w := w) (g := g) (o := b + i * sz + off) (vs := [u]) hok1 (by rw [ht]; rfl) (fun j u' hj => by
          cases j with
          | zero => simp at hj; subst hj; simpa using hcw
          | succ j => simp at hj)
        rw [show isAggTy (tyOf C.P t) = false by rw [ht]; rfl] at hrun
        simp only [Bool.false_eq_true, if_false, List.headD_cons] at hrun
        have w1 : Region.wanted o1 (yielded ops a.tmps) = true := by simp [Region.wanted, p3]
        rw [show rest.length + 3 = rest.length + 1 + 1 + 1 by omega]
        rw [List.range'_succ, List.range'_succ, List.range'_succ]
        refine wpOps_step hk1 w1 (wp_value (val := u) (by simp [execOp, p1, hpv, Instr.loadAt, Instr.sureAddr, hrun]) ?_)
        have w2 : Region.wanted o2 (yielded ops (a.put o1.dst u).tmps) = true := by simp [Region.wanted, p6]
        have hey : (a.put o1.dst u).eval y = a.eval y := by rw [p2]; exact eval_put d11 p10
        refine wpOps_step hk2 w2 (wp_value (val := a.eval y) (by simp [execOp, p4, hey]) ?_)
        generalize ha2 : (a.put o1.dst u).put o2.dst (a.eval y) = a2
        have s1 : (a.put o1.dst u).tmps.size = a.tmps.size := (put_size _ _ _).1
        have s2' : a2.tmps.size = a.tmps.size := by rw [← ha2]; exact (put_size _ _ _).1.trans s1
        have w3 : Region.wanted o3 (yielded ops a2.tmps) = true := by simp [Region.wanted, p8]
        refine wpOps_step hk3 w3 ?_
        have e1 : a2.eval (.tmp s) = u := by
          rw [← ha2, p5, eval_put (by rw [s1]; exact d21) (by simp [notT]; exact fun h => d22 h.symm), p2]
          show (a.put (some s) u).tmps.getD s undef = u
          rw [getD_put d11, if_pos rfl]
        have e2 : a2.eval (.tmp s2) = a.eval y := by
          rw [← ha2, p5]
          show ((a.put o1.dst u).put (some s2) (a.eval y)).tmps.getD s2 undef = a.eval y
          rw [getD_put (by rw [s1]; exact d21), if_pos rfl]
        -- the call
        have hF : opt (C.F f [.one (.l ys0), .one dk]) = some (rs, [[.l ys]]) := by rw [hF']; rfl
        have hmn := H.B.mine n hlive id
        let L : Nat → Prop := fun k => ys0 ≠ [] ∧ ψ i off k
        have hLφ : ∀ {k : Nat}, L k → G.φ n k ∧ k ≠ g := fun hk => hψ i off _ hk.2
        let R' : Rt := R.sub G (· = n) w L (fun _ _ _ => False)
        have hP : Pre C.P (C.sig f) R' [.one (.l ys0), .one dk] [u, a.eval y] (fun i' j k => i' = 0 ∧ j = 1 ∧ L k) := {
          W := {
            os := rfl, tape := rfl, output := rfl, size := Nat.le_refl _
            T := fun k hk => by
              rcases hk with hk | ⟨m, ⟨hm, hmn'⟩, hk⟩
              · refine ⟨Nat.lt_of_lt_of_le (H.W.T k hk).1 H.W.size, fun hL => ?_⟩
                rcases (hmn k (hLφ hL).1).2 with h2 | h2
                · exact (H.W.T k hk).2 h2
                · have := (H.W.T k hk).1; omega
              · exact ⟨(H.B.mine m hm id k hk).1, fun hL => H.B.disj n m hlive id hm id (fun e => hmn' e.symm) k (hLφ hL).1 hk⟩
            old := fun _ _ _ => rfl
            out := fun k lo hi h => h.elim }
          args := by
            rw [hms]
            refine ⟨⟨⟨rfl, rfl, fun j q d v' a1 a2 a3 => ?_⟩, hone⟩, rep_sub H.W hvk, trivial⟩
            cases j with
            | zero =>
              simp at a1 a2 a3; subst a1 a2 a3
              exact ⟨hone, ys0, rfl, own_weak hu0 hfst (fun hne k hk => ⟨rfl, rfl, hne, hk⟩), .inl rfl, hsz1⟩
            | succ j => simp at a1
          mine := fun i' j k hk => ⟨(hmn k (hLφ hk.2.2).1).1, hk.2.2⟩
          lb := fun _ _ _ _ _ _ h => h.elim
          apart := fun i1 j1 i2 j2 k ⟨h1, h2, _⟩ ⟨h3, h4, _⟩ => ⟨by omega, by omega⟩ }
        have hcall := hC.spec f R' _ _ _ rs [[.l ys]] hF rfl hP
        unfold Oper.wp
        have harr : (args.map a2.eval) = [u, a.eval y].toArray := by rw [p9]; simp [e1, e2]
        rw [run_callOp (hC.fn _ _ _ hF) p7]
        show Calls C.P f _ w _
        rw [harr]
        refine hcall.mono fun ex w' he => ?_
        obtain ⟨rv, Ξ, Ω, rfl, p⟩ := he
        have hold : ∀ k, k < w.heap.size → ¬ L k → w'.heap[k]? = w.heap[k]? := fun k h1 h2 => p.W.old k h1 h2
        have hszw : w.heap.size ≤ w'.heap.size := p.W.size
        have hgL : ¬ L g := fun hk => (hLφ hk).2 rfl
        have hgw : w'.heap[g]? = some (.cells cur t' (0, 0)) := by rw [hold g (hmn g hφg).1 hgL]; exact hg
        have hout : RowX w' wk sz1 (Ω 0 1) ys u := by
          have := p.outs
          rw [hms] at this
          obtain ⟨⟨_, _, k3⟩, _⟩ := this
          obtain ⟨_, xs2, q1, q2, _⟩ := k3 0 _ _ u rfl rfl (by rw [one_cells hone]; rfl)
          cases q1; exact q2
        have hlen : ys.length = ys0.length := by
          obtain ⟨A1, c1, q1⟩ := hout.len
          obtain ⟨A2, c2, q2⟩ := (own_weak (φ' := ψ i off) hu0 hfst (fun _ _ h => h)).len
          rw [q1] at q2
          simp only [Value.slice.injEq] at q2
          exact q2.2.1
        let ψ' : Nat → Prop := fun k => (ys0 ≠ [] ∧ Ω 0 1 k) ∨ (ys0 = [] ∧ ψ i off k)
        have hu' : OwnD w' ψ' (.l ys) u := by
          by_cases hne : ys0 = []
          · have hys : ys = [] := List.eq_nil_of_length_eq_zero (by rw [hlen, hne]; rfl)
            subst hys
            rw [hne] at hu0
            exact hu0.mono (fun k hk => .inr ⟨hne, hk⟩) (fun k hk => hold k (hmn k (hψ i off k hk).1).1 (fun h => h.1 hne))
          · exact (hout.some (fun h => hne (List.eq_nil_of_length_eq_zero (by rw [← hlen, h]; rfl)))).own.mono (fun k hk => .inl ⟨hne, hk⟩) (fun _ _ => rfl)
        have hΩ : ∀ {k : Nat}, Ω 0 1 k → (L k ∨ w.heap.size ≤ k) := fun hk => (p.mineO _ _ _ hk).2
        have hψ' : ∀ {k : Nat}, ψ' k → (ψ i off k ∨ w.heap.size ≤ k) ∧ (ψ i off k ∨ Ω 0 1 k) := fun hk => by
          rcases hk with ⟨_, hk⟩ | ⟨_, hk⟩
          · exact ⟨(hΩ hk).imp (·.2) id, .inr hk⟩
          · exact ⟨.inl hk, .inl hk⟩
        let φ' : Nat → Prop := fun k => G.φ n k ∨ Ω 0 1 k
        have hmod : ∀ {i' : Nat} {r' : List D}, (xs.modify i fun r => r.take off ++ [.l ys] ++ r.drop (off + 1))[i']? = some r' → ∃ r1, xs[i']? = some r1 ∧ r' = if i = i' then r1.take off ++ [.l ys] ++ r1.drop (off + 1) else r1 := fun {i' r'} hh => by
          simp only [List.getElem?_modify, Option.map_eq_map, Option.map_eq_some_iff] at hh
          obtain ⟨r1, q1, q2⟩ := hh
          refine ⟨r1, q1, q2.symm.trans ?_⟩
          split <;> rfl
        have hrow' : RowR w' e sz φ' (xs.modify i fun r => r.take off ++ [.l ys] ++ r.drop (off + 1)) (G.hv n) := by
          refine .inr ⟨g, b, cap, t', cur, val, fun i' j' k => if i' = i ∧ j' = off then ψ' k else ψ i' j' k, ?_, hgw, .inl hφg, by rw [List.length_modify]; exact hcap, hcur, modify_len (xs := [.l ys]) hsz (by rw [← hsz r (List.mem_of_getElem? hri)]; exact hoff), ?_, ?_, ?_, ?_⟩
          · rw [h1', List.length_modify]
          · intro i' r' j' d' q1 q2
            obtain ⟨r1, q3, rfl⟩ := hmod q1
            obtain ⟨d0, hd0⟩ : ∃ d0, r1[j']? = some d0 := by
              have hlt : j' < r1.length := by
                have hj := (List.getElem?_eq_some_iff.1 q2).1
                split at hj
                · rename_i hii
                  subst hii
                  rw [hri] at q3; cases q3
                  simp at hj; omega
                · exact hj
              exact ⟨r1[j'], by simp⟩
            exact hc i' r1 j' d0 q3 hd0
          · intro i' j' k hk
            split at hk
            · obtain ⟨q1, q2⟩ := hψ' hk
              refine ⟨?_, ?_⟩
              · rcases q2 with q2 | q2
                · exact .inl (hψ i off k q2).1
                · exact .inr q2
              · rcases q1 with q1 | q1
                · exact (hψ i off k q1).2
                · have := (hmn g hφg).1; omega
            · exact ⟨.inl (hψ i' j' k hk).1, (hψ i' j' k hk).2⟩
          · intro i1 j1 i2 j2 k hk hk'
            have old : ∀ {i' j' : Nat}, ¬ (i' = i ∧ j' = off) → ψ' k → ψ i' j' k → False := fun hne q1 q2 => by
              rcases (hψ' q1).1 with q3 | q3
              · exact hne (hdd _ _ _ _ k q2 q3)
              · have := (hmn k (hψ _ _ k q2).1).1; omega
            split at hk <;> split at hk'
            · rename_i q1 q2; exact ⟨q1.1.trans q2.1.symm, q1.2.trans q2.2.symm⟩
            · rename_i q1 q2; exact (old q2 hk hk').elim
            · rename_i q1 q2; exact (old q1 hk' hk).elim
            · exact hdd _ _ _ _ k hk hk'
          · intro i' r' j' d' q1 q2
            obtain ⟨r1, q3, rfl⟩ := hmod q1
            by_cases hh : i' = i ∧ j' = off
            · obtain ⟨rfl, rfl⟩ := hh
              rw [hri] at q3; cases q3
              simp only [if_true, and_self]
              rw [if_pos rfl, List.append_assoc, List.getElem?_append_right (by simp; omega)] at q2
              rw [List.length_take, Nat.min_eq_left (by omega), Nat.sub_self] at q2
              simp at q2
              subst q2
              rw [hu]; exact hu'
            · have ef : (fun i' j' k => if i' = i ∧ j' = off then ψ' k else ψ i' j' k) i' j' = ψ i' j' := by funext k; dsimp only; rw [if_neg hh]
              rw [ef]
              have hd0 : r1[j']? = some d' := by
                split at q2
                · rename_i hii
                  subst hii
                  have hjo : j' ≠ off := fun e => hh ⟨rfl, e⟩
                  rw [hri] at q3; cases q3
                  rw [List.append_assoc] at q2
                  by_cases hlt : j' < off
                  · rw [List.getElem?_append_left (by simp; omega), List.getElem?_take, if_pos hlt] at q2; exact q2
                  · rw [List.getElem?_append_right (by simp; omega), List.length_take, Nat.min_eq_left (by omega), List.getElem?_append_right (by simp; omega), List.getElem?_drop] at q2
                    rw [← q2]; congr 1; simp; omega
                · exact q2
              exact (hown i' r1 j' d' q3 hd0).mono (fun _ h => h) (fun k hk => hold k (hmn k (hψ i' j' k hk).1).1 (fun hL => hh (hdd _ _ _ _ k hk hL.2)))
        have hrow4 := hbr.2.2.2
        have hW : WInv R w' := winv_turn H.W p.W.os p.W.tape p.W.output hszw (φ := L) (fun k hk => ⟨(hmn k (hLφ hk).1).2, fun lo hi => hrow4 k lo hi (hLφ hk).1⟩) hold
        obtain ⟨j1, j2⟩ := set_row (ψ := φ') H hlive hrow hW hszw (fun m hm hmn' k hk => hold k (H.B.mine m hm id k hk).1 (fun hL => H.B.disj n m hlive id hm id (Ne.symm hmn') k (hLφ hL).1 hk)) hrow'
          (fun k hk => by
            rcases hk with hk | hk
            · exact ⟨Nat.lt_of_lt_of_le (hmn k hk).1 hszw, (hmn k hk).2, fun lo hi => hrow4 k lo hi hk⟩
            · refine ⟨(p.mineO _ _ _ hk).1, ?_, fun lo hi hlb => ?_⟩
              · rcases hΩ hk with hL | h6
                · exact (hmn k (hLφ hL).1).2
                · exact .inr (Nat.le_trans H.W.size h6)
              · rcases hΩ hk with hL | h6
                · exact hrow4 k lo hi (hLφ hL).1 hlb
                · have h5 := lb_old H.W hlb
                  have h6' := H.W.size
                  omega)
          (fun k m hk hm hmn' hφ => by
            rcases hk with hk | hk
            · exact H.B.disj n m hlive id hm id (Ne.symm hmn') k hk hφ
            · rcases hΩ hk with hL | h6
              · exact H.B.disj n m hlive id hm id (Ne.symm hmn') k (hLφ hL).1 hφ
              · have := (H.B.mine m hm id k hφ).1; omega)
        -- the slots
        have hnone : ∀ {q : Nat}, q ∉ seen → lk st.l q = none := fun {q} hq => by
          cases he : lk st.l q with
          | none => rfl
          | some z => exact absurd (hl q (by rw [he]; rfl)).1 hq
        have k1 := put_inv (v := .undef) (p := []) (c := true) (dst := o1.dst) (val := u) j1 trivial (.inl ⟨rfl, rfl⟩) (fun _ => rfl) (fun q hq => by rw [p2] at hq; cases hq; exact ⟨hnone d12, d11⟩)
        have l1 := pt_l (C := C) (st := { st with h := hset st.h n (.row e sz (xs.modify i fun r => r.take off ++ [.l ys] ++ r.drop (off + 1))) }) (v := .undef) (p := []) (c := true) (dst := o1.dst) (seen := seen) hl
        rw [p2] at l1
        have nn1 : ∀ {q : Nat} {Z : St}, (∀ t, (lk Z.l t).isSome = true → t ∈ s :: seen ∧ isIn C.keep t = false) → q ∉ s :: seen → lk Z.l q = none := fun {q Z} hZ hq => by
          cases he : lk Z.l q with
          | none => rfl
          | some z => exact absurd (hZ q (by rw [he]; rfl)).1 hq
        have k2 := put_inv (v := .d dk) (p := []) (c := true) (dst := o2.dst) (val := a.eval y) k1 hvk (.inl ⟨rfl, rfl⟩) (fun _ => rfl) (fun q hq => by rw [p5] at hq; cases hq; rw [p2]; exact ⟨nn1 l1 (by simp [d22, d23]), by rw [(put_size a (some s) u).1]; exact d21⟩)
        have l2 := pt_l (C := C) (v := .d dk) (p := []) (c := true) (dst := o2.dst) (seen := s :: seen) l1
        rw [← p2] at l2
        have nn2 : ∀ {q : Nat} {Z : St}, (∀ t, (lk Z.l t).isSome = true → t ∈ s2 :: s :: seen ∧ isIn C.keep t = false) → q ∉ s2 :: s :: seen → lk Z.l q = none := fun {q Z} hZ hq => by
          cases he : lk Z.l q with
          | none => rfl
          | some z => exact absurd (hZ q (by rw [he]; rfl)).1 hq
        have l2' := l2
        rw [p5] at l2'
        rw [ha2] at k2
        have hres := p.res
        rw [hr] at hres
        have k3 := put_inv (v := single (svsOf rs)) (p := []) (c := true) (dst := o3.dst) (val := valOf rv) k2 (single_rel (scs_vals R _ _ hres) (svsOf_tup rs)) (.inl ⟨rfl, rfl⟩) (fun _ => rfl) (fun q hq => ⟨by
          have := (d3 q hq).2
          rw [← p5] at l2'
          exact nn2 (Z := pt C (pt C { st with h := hset st.h n (.row e sz (xs.modify i fun r => r.take off ++ [.l ys] ++ r.drop (off + 1))) } [] true o1.dst .undef) [] true o2.dst (.d dk)) (by rw [p5] at l2' ⊢; exact l2') this, by rw [s2']; exact (d3 q hq).1⟩)
        have l3 := pt_l (C := C) (v := single (svsOf rs)) (p := []) (c := true) (dst := o3.dst) (seen := s2 :: s :: seen) l2'
        obtain ⟨z1, _⟩ := put_size a2 o3.dst (valOf rv)
        have st1' : Still p0 a (a.put o1.dst u) := put_still (loOps_mem hlo o1 (by simp))
        have st2' : Still p0 (a.put o1.dst u) a2 := by rw [← ha2]; exact put_still (loOps_mem hlo o2 (by simp))
        have st3' : Still p0 a2 (a2.put o3.dst (valOf rv)) := put_still (loOps_mem hlo o3 (by simp))
        have := hQ _ w' _ _ k3 (by rw [← p5] at l3; exact l3) (by rw [z1, s2']; exact c3) (z1.trans s2') ((st1'.trans st2').trans st3')
        exact this
      · cases h
    · cases h
  · cases h
theorem nestOf_eq {sig : Nat → Sig} : ∀ {os pre post : List Oper} {o1 o2 o3 : Oper}, nestOf sig os = some (pre, o1, o2, o3, post) → os = pre ++ o1 :: o2 :: o3 :: post ∧ isNest sig o1 o2 o3 = true
  | [], pre, post, o1, o2, o3, h => by cases h
  | [_], pre, post, o1, o2, o3, h => by cases h
  | [_, _], pre, post, o1, o2, o3, h => by cases h
  | p1 :: p2 :: p3 :: os, pre, post, o1, o2, o3, h => by
    simp only [nestOf] at h
    split at h
    · rename_i hn; cases h; exact ⟨rfl, hn⟩
    · split at h
      · rename_i q r hq
        cases h
        obtain ⟨h1, h2⟩ := nestOf_eq hq
        exact ⟨by rw [h1]; rfl, h2⟩
      · cases h
theorem runReg_sound (hC : CtxOk C) {ops : Array Oper} {p0 : List Nat} {Q : Exit → Act → World → Prop} (H : Inv C R G st a w) (hl : st.l = []) (hchk : chkOps a.tmps.size [] ops.toList = true) (hlo : loOps p0 ops.toList = true) (h : runReg C ops st = some st2)
    (hQ : ∀ a' w' G', Inv C R G' st2 a' w' → st2.l = [] → a'.tmps.size = a.tmps.size → Still p0 a a' → Q .normal a' w') : wpOps C.P ops Q (List.range' 0 ops.toList.length) a w := by
  have hl0 : ∀ t, (lk st.l t).isSome = true → t ∈ ([] : List Nat) ∧ isIn C.keep t = false := fun t ht => by rw [hl] at ht; simp [lk] at ht
  unfold runReg at h
  split at h
  · exact runOps_sound hC ops.toList 0 [] st G a w (by simp) H hl0 hchk hlo h hQ
  · rename_i pre o1 o2 o3 post hnest
    obtain ⟨e1, hn⟩ := nestOf_eq hnest
    rw [Option.bind_eq_some_iff] at h
    obtain ⟨st1, h1, h2⟩ := h
    have hlo' : loOps p0 (o1 :: o2 :: o3 :: post) = true := by rw [e1] at hlo; simp only [loOps, List.all_append, Bool.and_eq_true] at hlo; exact hlo.2
    have hdk : ops.toList.drop pre.length = o1 :: o2 :: o3 :: post := by rw [e1]; simp
    have := runPre_sound (Q := Q) (rest := o1 :: o2 :: o3 :: post) hC pre 0 [] st G a w (by rw [List.drop_zero]; exact e1) H hl0 (by rw [← e1]; exact hchk) (by rw [← e1]; exact hlo) h1 (fun a1 w1 G1 seen1 i1 i2 i3 i4 i5 => by
      rw [Nat.zero_add]
      split at h2
      · split at h2
        · rename_i ok st2' hn3
          split at h2
          · rename_i hok
            subst hok
            refine nest_sound hC hn hdk i1 i2 i3 hlo' hn3 (fun a2 w2 G2 seen2 j1 j2 j3 j4 j5 => ?_)
            exact runOps_sound hC post (pre.length + 3) seen2 st2' G2 a2 w2 (by rw [← List.drop_drop, hdk]; rfl) j1 j2 j3 (by simp only [loOps, List.all_cons, Bool.and_eq_true] at hlo' ⊢; exact hlo'.2.2.2) h2 (fun a' w' G' k1 k2 k3 k4 => hQ a' w' G' k1 k2 (k3.trans (j4.trans i4)) ((i5.trans j5).trans k4))
          · cases h2
        · cases h2
      · exact runOps_sound hC (o1 :: o2 :: o3 :: post) pre.length seen1 st1 G1 a1 w1 hdk i1 i2 i3 hlo' h2 (fun a' w' G' k1 k2 k3 k4 => hQ a' w' G' k1 k2 (k3.trans i4) (i5.trans k4)))
    rw [e1, List.length_append]
    exact this
end Go.Den

/- What an operation comes to depends on what it reads alone. -/
namespace Go.Den
open Go
variable {C : Ctx} {st st' st1 : St} {p : Path} {op : Op}

theorem evs_congr {xs : List Operand} (h : ∀ x ∈ xs, ev C st' p x = ev C st p x) : evs C st' p xs = evs C st p xs := by
  induction xs with
  | nil => rfl
  | cons x xs ih => simp only [evs, h x (by simp), ih (fun y hy => h y (by simp [hy]))]
theorem load_h (hh : st'.h = st.h) (t : TypeId) (v : SV) : load C st' t v = load C st t v := by cases v <;> simp only [load, hh]
theorem lenOf_h (hh : st'.h = st.h) (t : Ty) (v : SV) : lenOf st' t v = lenOf st t v := by cases t <;> cases v <;> simp only [lenOf, hh]
theorem fillB_congr {fs : List (Nat × Nat)} : ∀ {parts : List (Nat × Operand)} {cs : List SV}, (∀ q ∈ parts, ev C st' p q.2 = ev C st p q.2) → fillB C st' p fs parts cs = fillB C st p fs parts cs
  | [], cs, _ => rfl
  | (i, x) :: r, cs, h => by
    simp only [fillB, h (i, x) (by simp)]
    split
    · split
      · exact fillB_congr (fun q hq => h q (by simp [hq]))
      · rfl
    · rfl
theorem light_congr (hh : st'.h = st.h) (hA : ∀ t, Operand.tmp t ∈ op.operands.toList → ∀ p, gt C st' p t = gt C st p t) : light C st' p op = light C st p op := by
  have hev : ∀ x ∈ op.operands.toList, ∀ p, ev C st' p x = ev C st p x := fun x hx p => by
    cases x with
    | tmp t => exact hA t hx p
    | _ => rfl
  cases op
  case pick c x y =>
    cases c with
    | tmp t => simp only [light, hA t (by simp [Op.operands]), hev x (by simp [Op.operands]), hev y (by simp [Op.operands])]
    | _ => rfl
  case build t parts =>
    simp only [light]
    split
    · rw [fillB_congr (fun q hq => hev q.2 (by simp only [Op.operands, List.mem_map]; exact ⟨q, hq, rfl⟩) p)]
    · rfl
  case call c =>
    obtain ⟨callee, args, ts⟩ := c
    have ha : ∀ x ∈ args.toList, ev C st' p x = ev C st p x := fun x hx => hev x (by simp [Op.operands, Call.operands]; cases callee <;> simp <;> first | exact .inr (by simpa using hx) | simpa using hx) p
    simp only [light]
    split
    · split
      · rename_i t x h1 h2
        rw [ha x (by rw [h2]; simp), lenOf_h hh]
      · rfl
    · split
      · rename_i x y h2; rw [ha x (by rw [h2]; simp), ha y (by rw [h2]; simp)]
      · rfl
    · split
      · rename_i x y h2; rw [ha x (by rw [h2]; simp), ha y (by rw [h2]; simp)]
      · rfl
    · split
      · rw [evs_congr ha, zipArgs_h hh]
      · rw [evs_congr ha]
      · rfl
    · rename_i t
      rw [hA t (by simp [Op.operands, Call.operands]) p]
      split
      · simp only [callFb, evs_congr ha, zipArgs_h hh]
      · rfl
    · rfl
  case slice t x lo hi mx =>
    cases mx with
    | some m => rfl
    | none =>
      have h1 : lo.map (ev C st' p) = lo.map (ev C st p) := by cases lo with | none => rfl | some y => simp [hev y (by simp [Op.operands])]
      have h2 : hi.map (ev C st' p) = hi.map (ev C st p) := by cases hi with | none => rfl | some y => simp [hev y (by simp [Op.operands])]
      simp only [light, hev x (by simp [Op.operands]), h1, h2]
  case convert s d x => simp only [light, hev x (by simp [Op.operands]), hh]
  case indexAddr t x y => simp only [light, hev x (by simp [Op.operands]), hev y (by simp [Op.operands]), hh]
  case index t x y => simp only [light, hev x (by simp [Op.operands]), hev y (by simp [Op.operands])]
  case binOp o t x y ty => simp only [light, hev x (by simp [Op.operands]), hev y (by simp [Op.operands])]
  case load t x => simp only [light, hev x (by simp [Op.operands]), load_h hh, hh]
  case unOp u t x => cases u <;> simp only [light, hev x (by simp [Op.operands])]
  case move x => simp only [light, hev x (by simp [Op.operands])]
  case assign x => simp only [light, hev x (by simp [Op.operands])]
  case nilCheck x => simp only [light, hev x (by simp [Op.operands])]
  case fieldAddr t x f => simp only [light, hev x (by simp [Op.operands])]
  case field t x f => simp only [light, hev x (by simp [Op.operands])]
  case extract x i => simp only [light, hev x (by simp [Op.operands])]
  case makeFunc fn fs cap =>
    cases fn with
    | func f =>
      simp only [light]
      split
      · rename_i x hfs hcap
        rw [hev x (by simp only [Op.operands]; simp; exact .inl (by rw [← Array.mem_toList_iff, hfs]; simp))]
      · rfl
    | _ => rfl
  all_goals rfl
end Go.Den

/- Two states with the same memory: a heavy operation does the same to both. -/
namespace Go.Den
open Go
variable {C : Ctx} {st st' st1 st1' st2 st2' : St} {p : Path} {op : Op} {v : SV}

def killsM : List Nat → List SV → List SV | [], m => m | n :: ns, m => killsM ns (killM n m)
def killsL : List Nat → List (Nat × Path × Bool × SV) → List (Nat × Path × Bool × SV) | [], l => l | n :: ns, l => killsL ns (killL n l)
theorem killsM_append : ∀ (a b : List Nat) (m : List SV), killsM (a ++ b) m = killsM b (killsM a m)
  | [], b, m => rfl
  | n :: a, b, m => by simp only [List.cons_append, killsM, killsM_append a b]
theorem killsL_append : ∀ (a b : List Nat) (l : List (Nat × Path × Bool × SV)), killsL (a ++ b) l = killsL b (killsL a l)
  | [], b, l => rfl
  | n :: a, b, l => by simp only [List.cons_append, killsL, killsL_append a b]
/-- From st to st1 as from st' to st1'. -/
def Sim (st st1 st' st1' : St) : Prop := ∃ ns, st1.m = killsM ns st.m ∧ st1.l = killsL ns st.l ∧ st1'.m = killsM ns st'.m ∧ st1'.l = killsL ns st'.l ∧ st1'.h = st1.h
theorem Sim.refl (hh : st'.h = st.h) : Sim st st st' st' := ⟨[], rfl, rfl, rfl, rfl, hh⟩
theorem Sim.trans (A : Sim st st1 st' st1') (B : Sim st1 st2 st1' st2') : Sim st st2 st' st2' := by
  obtain ⟨a, a1, a2, a3, a4, a5⟩ := A
  obtain ⟨b, b1, b2, b3, b4, b5⟩ := B
  exact ⟨a ++ b, by rw [killsM_append, ← a1, b1], by rw [killsL_append, ← a2, b2], by rw [killsM_append, ← a3, b3], by rw [killsL_append, ← a4, b4], b5⟩
theorem Sim.h (A : Sim st st1 st' st1') : st1'.h = st1.h := by obtain ⟨_, _, _, _, _, h⟩ := A; exact h
theorem sim_kill (n : Nat) (h h' : List (Nat × Blk)) (e : h' = h) : Sim st { kill st n with h := h } st' { kill st' n with h := h' } := ⟨[n], rfl, rfl, rfl, rfl, e⟩
theorem sim_h (h h' : List (Nat × Blk)) (e : h' = h) : Sim st { st with h := h } st' { st' with h := h' } := ⟨[], rfl, rfl, rfl, rfl, e⟩

theorem take1_sim {x : SV} {d : D} (hh : st'.h = st.h) (h : take1 st x = some (d, st1)) : ∃ st1', take1 st' x = some (d, st1') ∧ Sim st st1 st' st1' := by
  unfold take1 at h
  split at h
  · split at h
    · rename_i hs; cases h; exact ⟨st', by simp [take1, hs], .refl hh⟩
    · cases h
  · cases h; exact ⟨st', rfl, .refl hh⟩
  · rename_i n
    split at h
    · rename_i hr
      split at h
      · cases h
      rename_i hwk
      cases h
      exact ⟨{ kill st' n with h := hdel (killH n st'.h) n }, by simp only [take1, hh, hr, if_neg hwk], sim_kill _ _ _ (by rw [hh])⟩
    · cases h
  · cases h
theorem takes_sim : ∀ {vs : List SV} {ds : List D} {st st1 st' : St}, st'.h = st.h → takes st vs = some (ds, st1) → ∃ st1', takes st' vs = some (ds, st1') ∧ Sim st st1 st' st1'
  | [], ds, st, st1, st', hh, h => by simp only [takes, Option.some.injEq, Prod.mk.injEq] at h; obtain ⟨rfl, rfl⟩ := h; exact ⟨st', rfl, .refl hh⟩
  | v :: vs, ds, st, st1, st', hh, h => by
    simp only [takes] at h
    split at h
    · rename_i x sta h1
      split at h
      · rename_i xs stb h2
        cases h
        obtain ⟨sta', k1, k2⟩ := take1_sim hh h1
        obtain ⟨stb', k3, k4⟩ := takes_sim k2.h h2
        exact ⟨stb', by simp only [takes, k1, k3], k2.trans k4⟩
      · cases h
    · cases h
theorem takeK_sim : ∀ {ks : List (Option (Nat × Nat))} {vs : List SV} {ds : List D} {st st1 st' : St}, st'.h = st.h → takeK st ks vs = some (ds, st1) → ∃ st1', takeK st' ks vs = some (ds, st1') ∧ Sim st st1 st' st1'
  | [], vs, ds, st, st1, st', hh, h => by
    cases vs with
    | nil => simp only [takeK, Option.some.injEq, Prod.mk.injEq] at h; obtain ⟨rfl, rfl⟩ := h; exact ⟨st', rfl, .refl hh⟩
    | cons v vs => simp [takeK] at h
  | none :: ks, vs, ds, st, st1, st', hh, h => by
    cases vs with
    | nil => simp [takeK] at h
    | cons v vs =>
      cases v <;> simp only [takeK] at h
      case d x =>
        split at h
        · rename_i h2; cases h; obtain ⟨s', k1, k2⟩ := takeK_sim hh h2; exact ⟨s', by simp only [takeK, k1], k2⟩
        · cases h
      all_goals cases h
  | some (e, sz) :: ks, vs, ds, st, st1, st', hh, h => by
    cases vs with
    | nil => simp [takeK] at h
    | cons v vs =>
      simp only [takeK] at h
      split at h
      · split at h
        · rename_i h2; cases h; obtain ⟨s', k1, k2⟩ := takeK_sim hh h2; exact ⟨s', by simp only [takeK, k1], k2⟩
        · cases h
      · split at h
        · rename_i hr
          split at h
          · rename_i he
            split at h
            · rename_i h2
              cases h
              obtain ⟨s', k1, k2⟩ := takeK_sim (st' := { kill st' _ with h := hdel (killH _ st'.h) _ }) (by rw [hh]) h2
              exact ⟨s', by simp only [takeK, hh, hr, he, and_self, if_true]; rw [hh] at k1; simp only [k1], (sim_kill _ _ _ (by rw [hh])).trans k2⟩
            · cases h
          · cases h
        · cases h
      · cases h
theorem adds_sim : ∀ {xs : List (Nat × Blk)} {st st1 st' : St}, st'.h = st.h → adds st xs = some st1 → ∃ st1', adds st' xs = some st1' ∧ Sim st st1 st' st1'
  | [], st, st1, st', hh, h => by simp only [adds, Option.some.injEq] at h; subst h; exact ⟨st', rfl, .refl hh⟩
  | (n, b) :: r, st, st1, st', hh, h => by
    simp only [adds] at h
    split at h
    · cases h
    · rename_i hn
      obtain ⟨s', k1, k2⟩ := adds_sim (st' := { st' with h := st'.h ++ [(n, b)] }) (by rw [hh]) h
      exact ⟨s', by simp only [adds, hh, hn]; rw [hh] at k1; exact k1, (sim_h _ _ (by rw [hh])).trans k2⟩
end Go.Den

/- The same for calls, appends, stores. -/
namespace Go.Den
open Go
variable {C : Ctx} {st st' st1 st1' st2 st2' : St} {p : Path} {op : Op} {v : SV}

theorem given_sim : ∀ {ms : List Mode} {xs : List SV} {r : List (Option DV)} {st st1 st' : St}, st'.h = st.h → given st ms xs = some (r, st1) → ∃ st1', given st' ms xs = some (r, st1') ∧ Sim st st1 st' st1'
  | [], xs, r, st, st1, st', hh, h => by
    cases xs with
    | nil => simp only [given, Option.some.injEq, Prod.mk.injEq] at h; obtain ⟨rfl, rfl⟩ := h; exact ⟨st', rfl, .refl hh⟩
    | cons x xs => simp [given] at h
  | m :: ms, [], r, st, st1, st', hh, h => by cases m <;> simp [given] at h
  | m :: ms, x :: xs, r, st, st1, st', hh, h => by
    by_cases ho : ∃ ks, m = .own ks
    · obtain ⟨ks, rfl⟩ := ho
      simp only [given] at h
      split at h
      · rename_i ds sta h1
        split at h
        · rename_i r1 stb h2
          obtain ⟨sta', k1, k2⟩ := takeK_sim hh h1
          obtain ⟨stb', k3, k4⟩ := given_sim k2.h h2
          simp only [given, k1, k3]
          split at h
          · cases h; exact ⟨stb', rfl, k2.trans k4⟩
          · cases h
            refine ⟨stb', ?_, k2.trans k4⟩
            rename_i hna
            cases x <;> first | rfl | exact absurd rfl (hna _)
          · cases h
        · cases h
      · cases h
    · by_cases hp : (∃ ks, m = .ptr ks) ∧ ∃ n off, x = .ptr n off
      · obtain ⟨⟨ks, rfl⟩, n, off, rfl⟩ := hp
        simp only [given] at h
        split at h
        · rename_i cs hb
          split at h
          · rename_i hl
            split at h
            · rename_i ds sta h1
              split at h
              · rename_i r1 stb h2
                cases h
                obtain ⟨sta', k1, k2⟩ := takeK_sim (st' := { st' with h := hdel st'.h n }) (by rw [hh]) h1
                obtain ⟨stb', k3, k4⟩ := given_sim k2.h h2
                refine ⟨stb', ?_, ((sim_h (hdel st.h n) (hdel st'.h n) (by rw [hh])).trans k2).trans k4⟩
                simp only [given, hh, hb, if_pos hl]
                rw [hh] at k1
                simp only [k1, k3]
              · cases h
            · cases h
          · cases h
        · cases h
      · have eq : ∀ s : St, given s (m :: ms) (x :: xs) = match given s ms xs with | some (r, st2) => some (none :: r, st2) | none => none := fun s => by
          cases m with
          | own ks => exact absurd ⟨ks, rfl⟩ ho
          | ptr ks => cases x <;> first | rfl | exact absurd ⟨⟨_, rfl⟩, _, _, rfl⟩ hp
          | _ => rfl
        rw [eq] at h
        split at h
        · rename_i r1 stb h2
          cases h
          obtain ⟨stb', k3, k4⟩ := given_sim hh h2
          exact ⟨stb', by rw [eq, k3], k4⟩
        · cases h
theorem lent_h (hh : st'.h = st.h) : ∀ (ms : List Mode) (xs : List SV) (r : List (Option DV)), lent st' ms xs r = lent st ms xs r
  | [], xs, r => by cases xs <;> cases r <;> rfl
  | m :: ms, [], r => by cases r <;> rfl
  | m :: ms, x :: xs, [] => rfl
  | m :: ms, x :: xs, none :: r => by simp only [lent, argOf_h hh, lent_h hh ms xs r]
  | m :: ms, x :: xs, some d :: r => by simp only [lent, lent_h hh ms xs r]
theorem backs_sim {h0 : List (Nat × Blk)} {ns sus : List Nat} : ∀ {ms : List Mode} {xs : List SV} {os : List (List D)} {st st1 st' : St}, st'.h = st.h → backs h0 ns sus st ms xs os = some st1 → ∃ st1', backs h0 ns sus st' ms xs os = some st1' ∧ Sim st st1 st' st1'
  | [], xs, os, st, st1, st', hh, h => by
    cases xs <;> cases os <;> simp [backs] at h
    subst h
    exact ⟨st', rfl, .refl hh⟩
  | m :: ms, [], os, st, st1, st', hh, h => by cases m <;> cases os <;> simp [backs] at h
  | m :: ms, x :: xs, os, st, st1, st', hh, h => by
    by_cases hp : ∃ ks, m = .ptr ks
    · obtain ⟨ks, rfl⟩ := hp
      by_cases hx : ∃ n off, x = .ptr n off
      · obtain ⟨n, off, rfl⟩ := hx
        cases os with
        | nil => simp [backs] at h
        | cons o os =>
          simp only [backs] at h
          split at h
          · rename_i cs hb
            split at h
            · rename_i hl
              split at h
              · rename_i ws new hy
                split at h
                · rename_i hf
                  split at h
                  · rename_i sta ha
                    obtain ⟨sta', k1, k2⟩ := adds_sim hh ha
                    obtain ⟨stb', k3, k4⟩ := backs_sim k2.h h
                    exact ⟨stb', by simp only [backs, hb, if_pos hl, hy, hf, k1, if_true]; exact k3, k2.trans k4⟩
                  · cases h
                · cases h
              · cases h
            · cases h
          · cases h
      · cases x <;> first | exact absurd ⟨_, _, rfl⟩ hx | (simp [backs] at h)
    · have hio : ¬ ∃ ks, m = .io ks := fun ⟨ks, e⟩ => by subst e; simp [backs] at h
      have eq : ∀ s : St, backs h0 ns sus s (m :: ms) (x :: xs) os = backs h0 ns sus s ms xs os := fun s => by
        cases m with
        | ptr ks => exact absurd ⟨ks, rfl⟩ hp
        | io ks => exact absurd ⟨ks, rfl⟩ hio
        | _ => cases os <;> rfl
      rw [eq] at h
      obtain ⟨s', k1, k2⟩ := backs_sim hh h
      exact ⟨s', by rw [eq, k1], k2⟩
theorem callFn_sim {s f : Nat} {b : Bool} {xs : List SV} (hh : st'.h = st.h) (h : callFn C st s f xs = some (b, v, st1)) : ∃ st1', callFn C st' s f xs = some (b, v, st1') ∧ Sim st st1 st' st1' := by
  unfold callFn at h
  split at h
  · rename_i hio
    obtain ⟨h2, _, rfl, _⟩ := callIo_st h
    exact ⟨{ st' with h := h2 }, by unfold callFn; rw [if_pos hio]; exact callIo_h hh h, sim_h _ _ rfl⟩
  rename_i hio
  split at h
  · rename_i r sta h1
    obtain ⟨sta', a1, a2⟩ := given_sim hh h1
    split at h
    · rename_i ds h2
      split at h
      · rename_i ok rs outs h3
        split at h
        · rename_i stb h4
          obtain ⟨stb', b1, b2⟩ := backs_sim a2.h h4
          have hl := lent_h a2.h (C.sig f).ms xs r
          split at h
          · rename_i hr; cases h; exact ⟨stb', by simp only [callFn, if_neg hio, a1, hl, h2, h3, hh, a2.h, b1, hr], a2.trans b2⟩
          · rename_i hr
            split at h
            · rename_i ht
              split at h
              · rename_i ha
                cases h
                obtain ⟨c', c1, c2⟩ := adds_sim b2.h ha
                exact ⟨c', by simp only [callFn, if_neg hio, a1, hl, h2, h3, hh, a2.h, b1, hr, ht, c1], (a2.trans b2).trans c2⟩
              · cases h
            · cases h
          · rename_i hr
            split at h
            · rename_i bb hlb
              split at h
              · rename_i hin
                cases h
                exact ⟨stb', by simp only [callFn, if_neg hio, a1, hl, h2, h3, hh, a2.h, b1, hr, hlb, hin, if_true], a2.trans b2⟩
              · rename_i hin
                split at h
                · rename_i ht
                  split at h
                  · rename_i ha
                    cases h
                    obtain ⟨c', c1, c2⟩ := adds_sim b2.h ha
                    exact ⟨c', by simp only [callFn, if_neg hio, a1, hl, h2, h3, hh, a2.h, b1, hr, hlb, if_neg hin, ht, c1], (a2.trans b2).trans c2⟩
                  · cases h
                · cases h
            · cases h
          · rename_i hr
            split at h
            · rename_i ht
              split at h
              · rename_i ha
                cases h
                obtain ⟨c', c1, c2⟩ := adds_sim b2.h ha
                exact ⟨c', by simp only [callFn, if_neg hio, a1, hl, h2, h3, hh, a2.h, b1, hr, ht, c1], (a2.trans b2).trans c2⟩
              · cases h
            · cases h
          · cases h
        · cases h
    · cases h
  · cases h
end Go.Den

/- heavy_sim. -/
namespace Go.Den
open Go
variable {C : Ctx} {st st' st1 st1' st2 st2' : St} {p : Path} {op : Op} {v : SV}

theorem gt_kills (C : Ctx) (p : Path) (t : Nat) : ∀ (ns : List Nat) (m m' : List SV) (l l' : List (Nat × Path × Bool × SV)) (h h' k k' : List (Nat × Blk)), gt C ⟨m', l', h'⟩ p t = gt C ⟨m, l, h⟩ p t → gt C ⟨killsM ns m', killsL ns l', k'⟩ p t = gt C ⟨killsM ns m, killsL ns l, k⟩ p t
  | [], m, m', l, l', h, h', k, k', e => e
  | n :: ns, m, m', l, l', h, h', k, k', e => by
    have one : ∀ (m : List SV) (l : List (Nat × Path × Bool × SV)) (h k : List (Nat × Blk)), gt C ⟨killM n m, killL n l, k⟩ p t = killV n (gt C ⟨m, l, h⟩ p t) := fun m l h k => by
      unfold gt
      simp only [lk_killL, lkm_killM]
      cases lk l t with
      | none => rfl
      | some e =>
        obtain ⟨q, c, x⟩ := e
        simp only [Option.map_some]
        split <;> rfl
    exact gt_kills C p t ns _ _ _ _ h h' k k' (by rw [one m' l' h' h', one m l h h, e])
theorem gt_sim {t : Nat} (A : Sim st st1 st' st1') (e : gt C st' p t = gt C st p t) : gt C st1' p t = gt C st1 p t := by
  obtain ⟨ns, a1, a2, a3, a4, _⟩ := A
  have := gt_kills C p t ns st.m st'.m st.l st'.l st.h st'.h st1.h st1'.h e
  rw [← a1, ← a2, ← a3, ← a4] at this
  exact this
theorem ev_of {x : Operand} (hA : ∀ t, x = .tmp t → gt C st' p t = gt C st p t) : ev C st' p x = ev C st p x := by
  cases x with
  | tmp t => exact hA t rfl
  | _ => rfl
theorem source_sim {zs : List D} {x : SV} {ok : Bool} {ys : List (List D)} (hh : st'.h = st.h) (h : source zs st x = some (ok, ys, st1)) : ∃ st1', source zs st' x = some (ok, ys, st1') ∧ Sim st st1 st' st1' := by
  unfold source at h
  split at h
  · rename_i n
    split at h
    · rename_i hr
      split at h
      · rename_i hs
        split at h
        · rename_i hf; cases h; exact ⟨st', by simp only [source, hh, hr, if_pos hs, if_pos hf], .refl hh⟩
        · rename_i hf; cases h; exact ⟨{ kill st' n with h := hdel (killH n st'.h) n }, by simp only [source, hh, hr, if_pos hs, if_neg hf], sim_kill _ _ _ (by rw [hh])⟩
      · cases h
    · cases h
  · split at h
    · rename_i hf; cases h; exact ⟨st', by simp only [source, if_pos hf], .refl hh⟩
    · cases h
  · cases h; exact ⟨st', rfl, .refl hh⟩
  · cases h
theorem rowsOf_sim {sz : Nat} : ∀ {parts : List (Nat × Operand)} {k : Nat} {rows : List (List D)} {st st1 st' : St}, st'.h = st.h → (∀ q ∈ parts, ∀ t, q.2 = .tmp t → gt C st' [] t = gt C st [] t) → rowsOf C sz parts k st = some (rows, st1) → ∃ st1', rowsOf C sz parts k st' = some (rows, st1') ∧ Sim st st1 st' st1'
  | [], k, rows, st, st1, st', hh, hA, h => by simp only [rowsOf, Option.some.injEq, Prod.mk.injEq] at h; obtain ⟨rfl, rfl⟩ := h; exact ⟨st', rfl, .refl hh⟩
  | (i, x) :: r, k, rows, st, st1, st', hh, hA, h => by
    simp only [rowsOf] at h
    split at h
    · rename_i hi
      split at h
      · rename_i c sta h1
        split at h
        · rename_i hc
          split at h
          · rename_i cs stb h2
            cases h
            obtain ⟨sta', k1, k2⟩ := takes_sim hh h1
            obtain ⟨stb', k3, k4⟩ := rowsOf_sim k2.h (fun q hq t ht => gt_sim k2 (hA q (by simp [hq]) t ht)) h2
            refine ⟨stb', ?_, k2.trans k4⟩
            simp only [rowsOf, if_pos hi]
            rw [ev_of (hA (i, x) (by simp)), k1]
            simp only [if_pos hc, k3]
          · cases h
        · cases h
      · cases h
    · cases h
theorem store_sim {t : TypeId} {p x : SV} {b : Bool} (hh : st'.h = st.h) (h : store C st t p x = some (b, st1)) : ∃ st1', store C st' t p x = some (b, st1') ∧ Sim st st1 st' st1' := by
  unfold store at h
  split at h
  · rename_i hf
    split at h
    · rename_i n off
      split at h
      · rename_i cs hb
        split at h
        · rename_i hl
          cases h
          exact ⟨{ st' with h := hset st'.h n (.box (setRange cs off (cellsOf x))) }, by simp only [store, if_pos hf, hh, hb, if_pos hl], sim_h _ _ (by rw [hh])⟩
        · cases h
      · cases h
    · rename_i n i off
      split at h
      · rename_i xs sta h1
        split at h
        · rename_i e sz rs hb
          cases h
          obtain ⟨sta', k1, k2⟩ := takes_sim hh h1
          exact ⟨{ sta' with h := hset sta'.h n (.row e sz (rs.modify i fun r => r.take off ++ xs ++ r.drop (off + xs.length))) }, by simp only [store, if_pos hf, k1, k2.h, hb], k2.trans (sim_h _ _ (by rw [k2.h]))⟩
        · cases h
      · cases h
    · cases h
  · cases h
theorem cut_sim {el n : Nat} {ok : List (List D) → Bool} {f : List (List D) → List (List D)} {b : Bool} (hh : st'.h = st.h) (h : cut C st el n ok f = some (b, v, st1)) : ∃ st1', cut C st' el n ok f = some (b, v, st1') ∧ Sim st st1 st' st1' := by
  unfold cut at h
  split at h
  · rename_i zs e sz xs hz hr
    split at h
    · rename_i hs
      cases h
      exact ⟨{ kill st' n with h := hset (killH n st'.h) n (.row e sz (f xs)) }, by simp only [cut, hz, hh, hr, if_pos hs], sim_kill _ _ _ (by rw [hh])⟩
    · cases h
  · cases h

theorem adds_map_sim {xs : List (Nat × Blk)} {x : Bool × SV} {r : Bool × SV × St} (hh : st'.h = st.h) (h : ((adds st xs).map fun st2 => (x.1, x.2, st2)) = some r) : ∃ st2 st2', r = (x.1, x.2, st2) ∧ adds st xs = some st2 ∧ adds st' xs = some st2' ∧ Sim st st2 st' st2' := by
  rw [Option.map_eq_some_iff] at h
  obtain ⟨st2, h1, h2⟩ := h
  obtain ⟨st2', k1, k2⟩ := adds_sim hh h1
  exact ⟨st2, st2', h2.symm, h1, k1, k2⟩
theorem heavy_sim {s : Nat} {b : Bool} (hh : st'.h = st.h) (hA : ∀ t, Operand.tmp t ∈ op.operands.toList → gt C st' [] t = gt C st [] t) (h : heavy C st s op = some (b, v, st1)) : ∃ st1', heavy C st' s op = some (b, v, st1') ∧ Sim st st1 st' st1' := by
  have hev : ∀ x ∈ op.operands.toList, ev C st' [] x = ev C st [] x := fun x hx => ev_of fun t ht => hA t (ht ▸ hx)
  cases op
  case alloc t =>
    simp only [heavy] at h
    split at h
    · rename_i zs hz
      obtain ⟨st2, st2', e, _, k1, k2⟩ := adds_map_sim (x := (true, .ptr (nm s 0) 0)) hh h
      cases e
      exact ⟨st2', by simp only [heavy, hz, k1, Option.map_some], k2⟩
    · cases h
  case box t x =>
    have hx := hev x (by simp [Op.operands])
    simp only [heavy] at h
    split at h
    · rename_i hf
      obtain ⟨st2, st2', e, _, k1, k2⟩ := adds_map_sim (x := (true, .ptr (nm s 0) 0)) hh h
      cases e
      exact ⟨st2', by simp only [heavy, hx, if_pos hf, k1, Option.map_some], k2⟩
    · cases h
  case buildSlice t n parts =>
    simp only [heavy] at h
    split at h
    · rename_i el ht
      split at h
      · rename_i zs hz
        split at h
        · rename_i rows sta hr
          split at h
          · rename_i hn
            obtain ⟨sta', a1, a2⟩ := rowsOf_sim hh (fun q hq t ht => hA t (by simp only [Op.operands, List.mem_map]; exact ⟨q, hq, ht⟩)) hr
            obtain ⟨st2, st2', e, _, k1, k2⟩ := adds_map_sim (x := (true, .own (nm s 0))) a2.h h
            cases e
            exact ⟨st2', by simp only [heavy, ht, hz, a1, if_pos hn, k1, Option.map_some], a2.trans k2⟩
          · cases h
        · cases h
      · cases h
    · cases h
  case makeSlice t x y =>
    have hx := hev x (by simp [Op.operands])
    have hy := hev y (by simp [Op.operands])
    simp only [heavy] at h
    split at h
    · rename_i el kx k ky k' ht h1 h2
      split at h
      · rename_i hsm
        split at h
        · rename_i zs hz
          obtain ⟨st2, st2', e, _, k1, k2⟩ := adds_map_sim (x := (decide (0 ≤ k ∧ k ≤ lim ∧ k' = k), .own (nm s 0))) hh h
          cases e
          exact ⟨st2', by simp only [heavy, ht, hx, hy, h1, h2, if_pos hsm, hz, k1, Option.map_some], k2⟩
        · cases h
      · cases h
    · cases h
  case store t p x =>
    simp only [heavy] at h
    rw [Option.map_eq_some_iff] at h
    obtain ⟨⟨b2, st2⟩, h1, h2⟩ := h
    cases h2
    obtain ⟨st2', k1, k2⟩ := store_sim hh h1
    exact ⟨st2', by simp only [heavy, hev p (by simp [Op.operands]), hev x (by simp [Op.operands]), k1, Option.map_some], k2⟩
  case slice t x lo hi mx =>
    have hx := hev x (by simp [Op.operands])
    have m1 : lo.map (ev C st' []) = lo.map (ev C st []) := by cases lo with | none => rfl | some y => simp [hev y (by simp [Op.operands])]
    have m2 : hi.map (ev C st' []) = hi.map (ev C st []) := by cases hi with | none => rfl | some y => simp [hev y (by simp [Op.operands])]
    have m3 : mx.map (ev C st' []) = mx.map (ev C st []) := by cases mx with | none => rfl | some y => simp [hev y (by simp [Op.operands])]
    simp only [heavy] at h ⊢
    rw [hx, m1, m2, m3]
    split at h
    · rename_i h1 h2 h3 h4 h5
      obtain ⟨s', k1, k2⟩ := cut_sim hh h
      exact ⟨s', by simp only [h1, h2, h3, h4, h5, k1], k2⟩
    · rename_i h1 h2 h3 h4 h5
      obtain ⟨s', k1, k2⟩ := cut_sim hh h
      exact ⟨s', by simp only [h1, h2, h3, h4, h5, k1], k2⟩
    · rename_i h1 h2 h3 h4 h5
      obtain ⟨s', k1, k2⟩ := cut_sim hh h
      exact ⟨s', by simp only [h1, h2, h3, h4, h5, k1], k2⟩
    · cases h
  case call c =>
    obtain ⟨callee, args, ts⟩ := c
    have he : evs C st' [] args.toList = evs C st [] args.toList := evs_congr fun x hx => hev x (by simp [Op.operands, Call.operands]; cases callee <;> simp <;> first | exact .inr (by simpa using hx) | simpa using hx)
    simp only [heavy] at h ⊢
    split at h
    · rw [he]
      split at h
      · rename_i t t' x y hts hxy
        split at h
        · rename_i el el' ht ht'
          split at h
          · rename_i hsm
            split at h
            · rename_i zs hz
              split at h
              · rename_i ok ys sta hs
                obtain ⟨sta', a1, a2⟩ := source_sim hh hs
                split at h
                · rename_i n
                  split at h
                  · rename_i e sz xs hr
                    split at h
                    · rename_i hes
                      cases h
                      exact ⟨{ kill sta' n with h := hset (killH n sta'.h) n (.row e sz (xs ++ ys)) }, by simp only [hts, hxy, ht, ht', if_pos hsm, hz, a1, a2.h, hr, if_pos hes], a2.trans (sim_kill _ _ _ (by rw [a2.h]))⟩
                    · cases h
                  · cases h
                · obtain ⟨st2, st2', e, _, k1, k2⟩ := adds_map_sim (x := (ok && decide (ys.length ≤ lim), .own (nm s 0))) a2.h h
                  cases e
                  exact ⟨st2', by simp only [hts, hxy, ht, ht', if_pos hsm, hz, a1, k1, Option.map_some], a2.trans k2⟩
                · cases h
              · cases h
            · cases h
          · cases h
        · cases h
      · cases h
    · rw [he]
      obtain ⟨s', k1, k2⟩ := callFn_sim hh h
      exact ⟨s', by simp only [k1], k2⟩
    · cases h
  all_goals (simp [heavy] at h)
end Go.Den

/- What a heavy operation does not touch; what a light one looks at. -/
namespace Go.Den
open Go
variable {C : Ctx} {st st' st1 st2 : St} {p : Path} {op : Op} {v : SV} {hs bs : List Nat}

def killsB : List Nat → Blk → Blk | [], b => b | n :: ns, b => killsB ns (killB n b)
theorem killsB_append : ∀ (a c : List Nat) (b : Blk), killsB (a ++ c) b = killsB c (killsB a b)
  | [], c, b => rfl
  | n :: a, c, b => by simp only [List.cons_append, killsB, killsB_append a c]
/-- All but hs and bs is as it was, up to what was given away (of hs). -/
def Frm (hs bs : List Nat) (st st1 : St) : Prop := ∃ ns, (∀ n ∈ ns, n ∈ hs) ∧ st1.m = killsM ns st.m ∧ st1.l = killsL ns st.l ∧ ∀ n b, hlk st.h n = some b → n ∉ hs → n ∉ bs → hlk st1.h n = some (killsB ns b)
theorem Frm.refl (hs bs : List Nat) (st : St) : Frm hs bs st st := ⟨[], fun n h => by simp at h, rfl, rfl, fun n b h _ _ => h⟩
theorem Frm.trans (A : Frm hs bs st st1) (B : Frm hs bs st1 st2) : Frm hs bs st st2 := by
  obtain ⟨a, a1, a2, a3, a4⟩ := A
  obtain ⟨b, b1, b2, b3, b4⟩ := B
  refine ⟨a ++ b, fun n h => by rcases List.mem_append.1 h with h | h; exact a1 n h; exact b1 n h, by rw [killsM_append, ← a2, b2], by rw [killsL_append, ← a3, b3], fun n x h hn hm => ?_⟩
  rw [killsB_append]
  exact b4 n _ (a4 n x h hn hm) hn hm
theorem ne_hs {n k : Nat} {hs : List Nat} (hk : k ∉ hs) (hn : n ∈ hs) : ¬ k = n := fun e => hk (by rw [e]; exact hn)
theorem frm_del {n : Nat} (hn : n ∈ hs) : Frm hs bs st { kill st n with h := hdel (killH n st.h) n } := ⟨[n], fun k hk => by simp at hk; subst hk; exact hn, rfl, rfl, fun k b h hk _ => by
  show hlk (hdel (killH n st.h) n) k = _
  rw [hlk_hdel, if_neg (ne_hs hk hn), hlk_killH, h]; rfl⟩
theorem frm_set {n : Nat} (hn : n ∈ hs) (x : Blk) : Frm hs bs st { kill st n with h := hset (killH n st.h) n x } := ⟨[n], fun k hk => by simp at hk; subst hk; exact hn, rfl, rfl, fun k b h hk _ => by
  show hlk (hset (killH n st.h) n x) k = _
  rw [hlk_hset, if_neg (ne_hs hk hn), hlk_killH, h]; rfl⟩
theorem frm_put {n : Nat} (hn : n ∈ hs ∨ n ∈ bs) (x : Blk) : Frm hs bs st { st with h := hset st.h n x } := ⟨[], fun k hk => by simp at hk, rfl, rfl, fun k b h hk hb => by
  show hlk (hset st.h n x) k = _
  rw [hlk_hset, if_neg (hn.elim (ne_hs hk) (ne_hs hb)), h]; rfl⟩
theorem frm_drop {n : Nat} (hn : n ∈ bs) : Frm hs bs st { st with h := hdel st.h n } := ⟨[], fun k hk => by simp at hk, rfl, rfl, fun k b h _ hk => by
  show hlk (hdel st.h n) k = _
  rw [hlk_hdel, if_neg (ne_hs hk hn), h]; rfl⟩
theorem frm_adds : ∀ {xs : List (Nat × Blk)} {st st1 : St}, adds st xs = some st1 → Frm hs bs st st1
  | [], st, st1, h => by simp only [adds, Option.some.injEq] at h; subst h; exact .refl _ _ _
  | (n, b) :: r, st, st1, h => by
    simp only [adds] at h
    split at h
    · cases h
    · have h1 : Frm hs bs st { st with h := st.h ++ [(n, b)] } := ⟨[], fun k hk => by simp at hk, rfl, rfl, fun k x hx _ _ => by
        show hlk (st.h ++ [(n, b)]) k = _
        rw [hlk_append, hx]; rfl⟩
      exact h1.trans (frm_adds h)
theorem frm_adds_map {xs : List (Nat × Blk)} {x : Bool × SV} {r : Bool × SV × St} (h : ((adds st xs).map fun st2 => (x.1, x.2, st2)) = some r) : Frm hs bs st r.2.2 := by
  rw [Option.map_eq_some_iff] at h
  obtain ⟨st2, h1, h2⟩ := h
  cases h2
  exact frm_adds h1

theorem frm_take1 {x : SV} {d : D} (hx : ∀ n ∈ ownC x, n ∈ hs) (h : take1 st x = some (d, st1)) : Frm hs bs st st1 := by
  unfold take1 at h
  split at h
  · split at h
    · cases h; exact .refl _ _ _
    · cases h
  · cases h; exact .refl _ _ _
  · rename_i n
    split at h
    · split at h
      · cases h
      · cases h; exact frm_del (hx n (by simp [ownC]))
    · cases h
  · cases h
theorem frm_takes : ∀ {vs : List SV} {ds : List D} {st st1 : St}, (∀ n ∈ ownCs vs, n ∈ hs) → takes st vs = some (ds, st1) → Frm hs bs st st1
  | [], ds, st, st1, _, h => by simp only [takes, Option.some.injEq, Prod.mk.injEq] at h; obtain ⟨rfl, rfl⟩ := h; exact .refl _ _ _
  | v :: vs, ds, st, st1, hv, h => by
    simp only [takes] at h
    split at h
    · rename_i h1
      split at h
      · rename_i h2
        cases h
        exact (frm_take1 (fun n hn => hv n (by simp [ownCs, hn])) h1).trans (frm_takes (fun n hn => hv n (by simp [ownCs, hn])) h2)
      · cases h
    · cases h
theorem frm_takeK : ∀ {ks : List (Option (Nat × Nat))} {vs : List SV} {ds : List D} {st st1 : St}, (∀ n ∈ ownCs vs, n ∈ hs) → takeK st ks vs = some (ds, st1) → Frm hs bs st st1
  | [], vs, ds, st, st1, _, h => by
    cases vs with
    | nil => simp only [takeK, Option.some.injEq, Prod.mk.injEq] at h; obtain ⟨rfl, rfl⟩ := h; exact .refl _ _ _
    | cons v vs => simp [takeK] at h
  | none :: ks, vs, ds, st, st1, hv, h => by
    cases vs with
    | nil => simp [takeK] at h
    | cons v vs =>
      cases v <;> simp only [takeK] at h
      case d x =>
        split at h
        · rename_i h2; cases h; exact frm_takeK (fun n hn => hv n (by simp [ownCs, hn])) h2
        · cases h
      all_goals cases h
  | some (e, sz) :: ks, vs, ds, st, st1, hv, h => by
    cases vs with
    | nil => simp [takeK] at h
    | cons v vs =>
      have hv' : ∀ n ∈ ownCs vs, n ∈ hs := fun n hn => hv n (by simp [ownCs, hn])
      simp only [takeK] at h
      split at h
      · split at h
        · rename_i h2; cases h; exact frm_takeK hv' h2
        · cases h
      · split at h
        · split at h
          · split at h
            · rename_i h2
              cases h
              exact (frm_del (hv _ (by simp [ownCs, ownC]))).trans (frm_takeK hv' h2)
            · cases h
          · cases h
        · cases h
      · cases h
/-- Boxes hold no more own rows than they did. -/
def Shr (st st1 : St) : Prop := ∀ n cs, hlk st1.h n = some (.box cs) → ∃ cs0, hlk st.h n = some (.box cs0) ∧ ∀ k ∈ ownCs cs, k ∈ ownCs cs0
theorem Shr.refl (st : St) : Shr st st := fun n cs h => ⟨cs, h, fun k hk => hk⟩
theorem Shr.trans (A : Shr st st1) (B : Shr st1 st2) : Shr st st2 := fun n cs h => by
  obtain ⟨c1, h1, h2⟩ := B n cs h
  obtain ⟨c2, h3, h4⟩ := A n c1 h1
  exact ⟨c2, h3, fun k hk => h4 k (h2 k hk)⟩
theorem own_killC {k n : Nat} {v : SV} (h : k ∈ ownC (killC n v)) : k ∈ ownC v := by
  cases v <;> simp only [killC] at h <;> first | exact h | (split at h <;> first | exact h | (simp [ownC] at h))
theorem own_killCs {k n : Nat} : ∀ {cs : List SV}, k ∈ ownCs (killCs n cs) → k ∈ ownCs cs
  | [], h => h
  | c :: cs, h => by
    simp only [killCs, ownCs, List.mem_append] at h ⊢
    rcases h with h | h
    · exact .inl (own_killC h)
    · exact .inr (own_killCs h)
theorem shr_del (n : Nat) : Shr st { kill st n with h := hdel (killH n st.h) n } := fun k cs h => by
  have h' : hlk (hdel (killH n st.h) n) k = some (.box cs) := h
  rw [hlk_hdel] at h'
  split at h'
  · cases h'
  · rw [hlk_killH, Option.map_eq_some_iff] at h'
    obtain ⟨b, h1, h2⟩ := h'
    cases b with
    | row e sz xs => cases h2
    | box cs0 => simp only [killB, Blk.box.injEq] at h2; subst h2; exact ⟨cs0, h1, fun k hk => own_killCs hk⟩
theorem shr_drop (n : Nat) : Shr st { st with h := hdel st.h n } := fun k cs h => by
  have h' : hlk (hdel st.h n) k = some (.box cs) := h
  rw [hlk_hdel] at h'
  split at h'
  · cases h'
  · exact ⟨cs, h', fun k hk => hk⟩
theorem shr_takeK : ∀ {ks : List (Option (Nat × Nat))} {vs : List SV} {ds : List D} {st st1 : St}, takeK st ks vs = some (ds, st1) → Shr st st1
  | [], vs, ds, st, st1, h => by
    cases vs with
    | nil => simp only [takeK, Option.some.injEq, Prod.mk.injEq] at h; obtain ⟨rfl, rfl⟩ := h; exact .refl _
    | cons v vs => simp [takeK] at h
  | none :: ks, vs, ds, st, st1, h => by
    cases vs with
    | nil => simp [takeK] at h
    | cons v vs =>
      cases v <;> simp only [takeK] at h
      case d x =>
        split at h
        · rename_i h2; cases h; exact shr_takeK h2
        · cases h
      all_goals cases h
  | some (e, sz) :: ks, vs, ds, st, st1, h => by
    cases vs with
    | nil => simp [takeK] at h
    | cons v vs =>
      simp only [takeK] at h
      split at h
      · split at h
        · rename_i h2; cases h; exact shr_takeK h2
        · cases h
      · split at h
        · split at h
          · split at h
            · rename_i h2; cases h; exact (shr_del _).trans (shr_takeK h2)
            · cases h
          · cases h
        · cases h
      · cases h
theorem own_drop {k : Nat} : ∀ {cs : List SV} {n : Nat}, k ∈ ownCs (cs.drop n) → k ∈ ownCs cs
  | [], n, h => by simpa using h
  | c :: cs, 0, h => h
  | c :: cs, n + 1, h => by simp only [List.drop_succ_cons] at h; simp only [ownCs, List.mem_append]; exact .inr (own_drop h)
theorem own_take {k : Nat} : ∀ {cs : List SV} {n : Nat}, k ∈ ownCs (cs.take n) → k ∈ ownCs cs
  | [], n, h => by simpa using h
  | c :: cs, 0, h => by simp [ownCs] at h
  | c :: cs, n + 1, h => by
    simp only [List.take_succ_cons, ownCs, List.mem_append] at h ⊢
    rcases h with h | h
    · exact .inl h
    · exact .inr (own_take h)
/-- Whoever is handed over is among what may be touched. -/
def HitsIn (hs bs : List Nat) (st : St) : List Mode → List SV → Prop
  | .own _ :: ms, v :: vs => (∀ n ∈ ownCs (cellsOf v), n ∈ hs) ∧ HitsIn hs bs st ms vs
  | .io _ :: ms, v :: vs => (∀ n ∈ ownCs (cellsOf v), n ∈ hs) ∧ HitsIn hs bs st ms vs
  | .ptr _ :: ms, .ptr n _ :: vs => n ∈ bs ∧ (∀ cs, hlk st.h n = some (.box cs) → ∀ k ∈ ownCs cs, k ∈ hs) ∧ HitsIn hs bs st ms vs
  | _ :: ms, _ :: vs => HitsIn hs bs st ms vs
  | _, _ => True
theorem hitsIn_of : ∀ {ms : List Mode} {vs : List SV}, (∀ n ∈ hitsCall st ms vs, n ∈ hs) → (∀ n ∈ boxesCall ms vs, n ∈ bs) → HitsIn hs bs st ms vs
  | [], vs, _, _ => by cases vs <;> trivial
  | m :: ms, [], _, _ => by cases m <;> trivial
  | m :: ms, v :: vs, h, g => by
    cases m with
    | own ks => simp only [hitsCall, List.mem_append] at h; exact ⟨fun n hn => h n (.inl hn), hitsIn_of (fun n hn => h n (.inr hn)) g⟩
    | io ks => simp only [hitsCall, List.mem_append] at h; exact ⟨fun n hn => h n (.inl hn), hitsIn_of (fun n hn => h n (.inr hn)) g⟩
    | ptr ks =>
      cases v with
      | ptr n off =>
        simp only [hitsCall, List.mem_append] at h
        simp only [boxesCall, List.mem_cons] at g
        refine ⟨g n (.inl rfl), fun cs hc k hk => h k (.inl ?_), hitsIn_of (fun k hk => h k (.inr hk)) (fun k hk => g k (.inr hk))⟩
        rw [hc]; exact hk
      | _ => exact hitsIn_of (ms := ms) (vs := vs) h g
    | bor => exact hitsIn_of (ms := ms) (vs := vs) (by cases v <;> exact h) (by cases v <;> exact g)
    | rptr sz => exact hitsIn_of (ms := ms) (vs := vs) (by cases v <;> exact h) (by cases v <;> exact g)
    | fnp f sz => exact hitsIn_of (ms := ms) (vs := vs) (by cases v <;> exact h) (by cases v <;> exact g)
theorem HitsIn.shr (S : Shr st st1) : ∀ {ms : List Mode} {vs : List SV}, HitsIn hs bs st ms vs → HitsIn hs bs st1 ms vs
  | [], vs, _ => by cases vs <;> trivial
  | m :: ms, [], _ => by cases m <;> trivial
  | m :: ms, v :: vs, h => by
    cases m with
    | own ks => exact ⟨h.1, HitsIn.shr S h.2⟩
    | io ks => exact ⟨h.1, HitsIn.shr S h.2⟩
    | ptr ks =>
      cases v with
      | ptr n off =>
        refine ⟨h.1, fun cs hc k hk => ?_, HitsIn.shr S h.2.2⟩
        obtain ⟨c0, h1, h2⟩ := S n cs hc
        exact h.2.1 c0 h1 k (h2 k hk)
      | _ => exact HitsIn.shr S (ms := ms) (vs := vs) h
    | bor => exact HitsIn.shr S (ms := ms) (vs := vs) (by cases v <;> exact h)
    | rptr sz => exact HitsIn.shr S (ms := ms) (vs := vs) (by cases v <;> exact h)
    | fnp f sz => exact HitsIn.shr S (ms := ms) (vs := vs) (by cases v <;> exact h)
theorem given_eq {m : Mode} {ms : List Mode} {x : SV} {xs : List SV} (ho : ¬ ∃ ks, m = .own ks) (hp : ¬ ((∃ ks, m = .ptr ks) ∧ ∃ n off, x = .ptr n off)) (s : St) : given s (m :: ms) (x :: xs) = match given s ms xs with | some (r, st2) => some (none :: r, st2) | none => none := by
  cases m with
  | own ks => exact absurd ⟨ks, rfl⟩ ho
  | ptr ks => cases x <;> first | rfl | exact absurd ⟨⟨_, rfl⟩, _, _, rfl⟩ hp
  | _ => rfl
theorem frm_given : ∀ {ms : List Mode} {xs : List SV} {r : List (Option DV)} {st st1 : St}, HitsIn hs bs st ms xs → given st ms xs = some (r, st1) → Frm hs bs st st1
  | [], xs, r, st, st1, _, h => by
    cases xs with
    | nil => simp only [given, Option.some.injEq, Prod.mk.injEq] at h; obtain ⟨rfl, rfl⟩ := h; exact .refl _ _ _
    | cons x xs => simp [given] at h
  | m :: ms, [], r, st, st1, _, h => by cases m <;> simp [given] at h
  | m :: ms, x :: xs, r, st, st1, hh, h => by
    by_cases ho : ∃ ks, m = .own ks
    · obtain ⟨ks, rfl⟩ := ho
      simp only [given] at h
      split at h
      · rename_i h1
        split at h
        · rename_i h2
          have a1 := frm_takeK (bs := bs) hh.1 h1
          have a2 := frm_given (hh.2.shr (shr_takeK h1)) h2
          split at h
          · cases h; exact a1.trans a2
          · cases h; exact a1.trans a2
          · cases h
        · cases h
      · cases h
    · by_cases hp : (∃ ks, m = .ptr ks) ∧ ∃ n off, x = .ptr n off
      · obtain ⟨⟨ks, rfl⟩, n, off, rfl⟩ := hp
        simp only [given] at h
        split at h
        · rename_i cs hb
          split at h
          · split at h
            · rename_i h1
              split at h
              · rename_i h2
                cases h
                have a0 : Frm hs bs st { st with h := hdel st.h n } := frm_drop hh.1
                have a1 := frm_takeK (hs := hs) (bs := bs) (fun k hk => hh.2.1 cs hb k (own_drop (own_take hk))) h1
                have a2 := frm_given (hh.2.2.shr ((shr_drop n).trans (shr_takeK h1))) h2
                exact (a0.trans a1).trans a2
              · cases h
            · cases h
          · cases h
        · cases h
      · rw [given_eq ho hp] at h
        split at h
        · rename_i h2
          cases h
          refine frm_given ?_ h2
          cases m with
          | own ks => exact absurd ⟨ks, rfl⟩ ho
          | ptr ks => cases x <;> first | exact hh | exact absurd ⟨⟨_, rfl⟩, _, _, rfl⟩ hp
          | bor => cases x <;> exact hh
          | rptr sz => cases x <;> exact hh
          | fnp f sz => cases x <;> exact hh
          | io ks => cases x <;> exact hh.2
        · cases h
theorem frm_backs {h0 : List (Nat × Blk)} {ns sus : List Nat} : ∀ {ms : List Mode} {xs : List SV} {os : List (List D)} {st st1 : St}, backs h0 ns sus st ms xs os = some st1 → Frm hs bs st st1
  | [], xs, os, st, st1, h => by
    cases xs <;> cases os <;> simp [backs] at h
    subst h
    exact .refl _ _ _
  | m :: ms, [], os, st, st1, h => by cases m <;> cases os <;> simp [backs] at h
  | m :: ms, x :: xs, os, st, st1, h => by
    by_cases hp : ∃ ks, m = .ptr ks
    · obtain ⟨ks, rfl⟩ := hp
      by_cases hx : ∃ n off, x = .ptr n off
      · obtain ⟨n, off, rfl⟩ := hx
        cases os with
        | nil => simp [backs] at h
        | cons o os =>
          simp only [backs] at h
          split at h
          · split at h
            · split at h
              · split at h
                · split at h
                  · rename_i ha; exact (frm_adds ha).trans (frm_backs h)
                  · cases h
                · cases h
              · cases h
            · cases h
          · cases h
      · cases x <;> first | exact absurd ⟨_, _, rfl⟩ hx | (simp [backs] at h)
    · have hio : ¬ ∃ ks, m = .io ks := fun ⟨ks, e⟩ => by subst e; simp [backs] at h
      have eq : backs h0 ns sus st (m :: ms) (x :: xs) os = backs h0 ns sus st ms xs os := by
        cases m with
        | ptr ks => exact absurd ⟨ks, rfl⟩ hp
        | io ks => exact absurd ⟨ks, rfl⟩ hio
        | _ => cases os <;> rfl
      rw [eq] at h
      exact frm_backs h
theorem hits_ioNs : ∀ {ms : List Mode} {xs : List SV}, HitsIn hs bs st ms xs → ∀ n ∈ ioNs ms xs, n ∈ hs
  | [], xs, _, n, hn => by cases xs <;> simp [ioNs] at hn
  | m :: ms, [], _, n, hn => by cases m <;> simp [ioNs] at hn
  | m :: ms, x :: xs, h, n, hn => by
    cases m with
    | io ks =>
      simp only [ioNs, List.mem_append] at hn
      rcases hn with hn | hn
      · exact h.1 n hn
      · exact hits_ioNs h.2 n hn
    | own ks => exact hits_ioNs h.2 n hn
    | ptr ks =>
      cases x with
      | ptr k off => exact hits_ioNs h.2.2 n hn
      | _ => exact hits_ioNs (ms := ms) (xs := xs) h n hn
    | _ => exact hits_ioNs (ms := ms) (xs := xs) (by cases x <;> exact h) n hn
theorem frm_callFn {s f : Nat} {b : Bool} {xs : List SV} (hh : HitsIn hs bs st (C.sig f).ms xs) (h : callFn C st s f xs = some (b, v, st1)) : Frm hs bs st st1 := by
  unfold callFn at h
  split at h
  · obtain ⟨h2, outs, rfl, hp⟩ := callIo_st h
    exact ⟨[], by simp, rfl, rfl, fun n b hb hn _ => by show hlk h2 n = _; rw [ioPuts_out hp n (fun hm => hn (hits_ioNs hh n hm))]; exact hb⟩
  split at h
  · rename_i h1
    split at h
    · split at h
      · split at h
        · rename_i h2
          have k := (frm_given hh h1).trans (frm_backs h2)
          split at h
          · cases h; exact k
          · split at h
            · split at h
              · rename_i h3; cases h; exact k.trans (frm_adds h3)
              · cases h
            · cases h
          · split at h
            · split at h
              · cases h; exact k
              · split at h
                · split at h
                  · rename_i h3; cases h; exact k.trans (frm_adds h3)
                  · cases h
                · cases h
            · cases h
          · split at h
            · split at h
              · rename_i h3; cases h; exact k.trans (frm_adds h3)
              · cases h
            · cases h
          · cases h
        · cases h
    · cases h
  · cases h
theorem frm_source {zs : List D} {x : SV} {ok : Bool} {ys : List (List D)} (hx : ∀ n ∈ ownC x, n ∈ hs) (h : source zs st x = some (ok, ys, st1)) : Frm hs bs st st1 := by
  unfold source at h
  split at h
  · rename_i n
    split at h
    · split at h
      · split at h
        · cases h; exact .refl _ _ _
        · cases h; exact frm_del (hx n (by simp [ownC]))
      · cases h
    · cases h
  · split at h
    · cases h; exact .refl _ _ _
    · cases h
  · cases h; exact .refl _ _ _
  · cases h
theorem own_kill1 {n k : Nat} {v : SV} (h : k ∈ ownCs (cellsOf (killV n v))) : k ∈ ownCs (cellsOf v) := by
  have one : ∀ {v : SV}, (∀ cs, v ≠ .agg cs) → (∀ cs, killC n v ≠ .agg cs) → k ∈ ownCs (cellsOf (killC n v)) → k ∈ ownCs (cellsOf v) := fun {v} h1 h2 h => by
    have e1 : cellsOf v = [v] := by cases v <;> first | rfl | exact absurd rfl (h1 _)
    have e2 : cellsOf (killC n v) = [killC n v] := by
      generalize killC n v = u at h2
      cases u <;> first | rfl | exact absurd rfl (h2 _)
    rw [e2] at h
    rw [e1]
    simp only [ownCs, List.append_nil] at h ⊢
    exact own_killC h
  cases v with
  | agg cs => exact own_killCs h
  | tup vs =>
    simp [killV, cellsOf, ownCs, ownC] at h
  | own m => exact one (fun cs e => by cases e) (fun cs e => by simp only [killC] at e; split at e <;> cases e) h
  | rp m i o => exact one (fun cs e => by cases e) (fun cs e => by simp only [killC] at e; split at e <;> cases e) h
  | ptr m o => exact one (fun cs e => by cases e) (fun cs e => by simp only [killC] at e; split at e <;> cases e) h
  | fp f m o => exact one (fun cs e => by cases e) (fun cs e => by simp only [killC] at e; split at e <;> cases e) h
  | _ => exact h
theorem ev_kills (p : Path) (x : Operand) : ∀ (ns : List Nat) (m : List SV) (l : List (Nat × Path × Bool × SV)) (h h' : List (Nat × Blk)) (k : Nat), k ∈ ownCs (cellsOf (ev C ⟨killsM ns m, killsL ns l, h'⟩ p x)) → k ∈ ownCs (cellsOf (ev C ⟨m, l, h⟩ p x))
  | [], m, l, h, h', k, hk => by cases x <;> exact hk
  | n :: ns, m, l, h, h', k, hk => by
    have h1 := ev_kills p x ns (killM n m) (killL n l) h h' k hk
    cases x with
    | tmp t =>
      have one : gt C ⟨killM n m, killL n l, h⟩ p t = killV n (gt C ⟨m, l, h⟩ p t) := by
        unfold gt
        simp only [lk_killL, lkm_killM]
        cases lk l t with
        | none => rfl
        | some e =>
          obtain ⟨q, c, y⟩ := e
          simp only [Option.map_some]
          split <;> rfl
      simp only [ev] at h1 ⊢
      rw [one] at h1
      exact own_kill1 h1
    | _ => exact h1
theorem Frm.own (A : Frm hs bs st st1) {p : Path} {x : Operand} {k : Nat} (hk : k ∈ ownCs (cellsOf (ev C st1 p x))) : k ∈ ownCs (cellsOf (ev C st p x)) := by
  obtain ⟨ns, _, a2, a3, _⟩ := A
  have : ev C st1 p x = ev C ⟨killsM ns st.m, killsL ns st.l, st1.h⟩ p x := by rw [← a2, ← a3]
  rw [this] at hk
  exact ev_kills p x ns st.m st.l st.h st1.h k hk
theorem frm_rowsOf {sz : Nat} : ∀ {parts : List (Nat × Operand)} {k : Nat} {rows : List (List D)} {st st1 : St}, (∀ q ∈ parts, ∀ n ∈ ownCs (cellsOf (ev C st [] q.2)), n ∈ hs) → rowsOf C sz parts k st = some (rows, st1) → Frm hs bs st st1
  | [], k, rows, st, st1, _, h => by simp only [rowsOf, Option.some.injEq, Prod.mk.injEq] at h; obtain ⟨rfl, rfl⟩ := h; exact .refl _ _ _
  | (i, x) :: r, k, rows, st, st1, hh, h => by
    simp only [rowsOf] at h
    split at h
    · split at h
      · rename_i h1
        split at h
        · split at h
          · rename_i h2
            cases h
            have a1 := frm_takes (hs := hs) (bs := bs) (fun n hn => hh (i, x) (by simp) n hn) h1
            exact a1.trans (frm_rowsOf (fun q hq n hn => hh q (by simp [hq]) n (a1.own hn)) h2)
          · cases h
        · cases h
      · cases h
    · cases h
theorem frm_store {t : TypeId} {p x : SV} {b : Bool} (hp : ∀ n ∈ nmV p, n ∈ hs) (hx : ∀ n ∈ ownCs (cellsOf x), n ∈ hs) (h : store C st t p x = some (b, st1)) : Frm hs bs st st1 := by
  unfold store at h
  split at h
  · split at h
    · rename_i n off
      split at h
      · split at h
        · cases h; exact frm_put (.inl (hp n (by simp [nmV, nmA, nmC]))) _
        · cases h
      · cases h
    · rename_i n i off
      split at h
      · rename_i h1
        split at h
        · cases h; exact (frm_takes hx h1).trans (frm_put (.inl (hp n (by simp [nmV, nmA, nmC]))) _)
        · cases h
      · cases h
    · cases h
  · cases h
theorem frm_storeP {t : TypeId} {n off : Nat} {x : SV} {b : Bool} (h : store C st t (.ptr n off) x = some (b, st1)) : Frm [] [n] st st1 := by
  unfold store at h
  split at h
  · dsimp only at h
    split at h
    · split at h
      · cases h; exact frm_put (.inr (by simp)) _
      · cases h
    · cases h
  · cases h
theorem frm_cut {el n : Nat} {ok : List (List D) → Bool} {f : List (List D) → List (List D)} {b : Bool} (hn : n ∈ hs) (h : cut C st el n ok f = some (b, v, st1)) : Frm hs bs st st1 := by
  unfold cut at h
  split at h
  · split at h
    · cases h; exact frm_set hn _
    · cases h
  · cases h
theorem partsV_in : ∀ {parts : List (Nat × Operand)}, (∀ n ∈ partsV C st parts, n ∈ hs) → ∀ q ∈ parts, ∀ n ∈ ownCs (cellsOf (ev C st [] q.2)), n ∈ hs
  | [], _, q, hq => by simp at hq
  | (i, x) :: r, h, q, hq => by
    simp only [partsV, List.mem_append] at h
    rcases List.mem_cons.1 hq with rfl | hq
    · exact fun n hn => h n (.inl hn)
    · exact partsV_in (fun n hn => h n (.inr hn)) q hq
theorem heavy_frm {s : Nat} {b : Bool} (h : heavy C st s op = some (b, v, st1)) : Frm (hits C st op) (hitsB C st op) st st1 := by
  cases op
  case alloc t =>
    simp only [heavy] at h
    split at h
    · exact frm_adds_map (x := (true, .ptr (nm s 0) 0)) h
    · cases h
  case box t x =>
    simp only [heavy] at h
    split at h
    · exact frm_adds_map (x := (true, .ptr (nm s 0) 0)) h
    · cases h
  case buildSlice t n parts =>
    simp only [heavy] at h
    split at h
    · split at h
      · split at h
        · rename_i hr
          split at h
          · exact (frm_rowsOf (partsV_in fun n hn => hn) hr).trans (frm_adds_map (x := (true, .own (nm s 0))) h)
          · cases h
        · cases h
      · cases h
    · cases h
  case makeSlice t x y =>
    simp only [heavy] at h
    split at h
    · rename_i el kx k ky k' ht h1 h2
      split at h
      · split at h
        · exact frm_adds_map (x := (decide (0 ≤ k ∧ k ≤ lim ∧ k' = k), .own (nm s 0))) h
        · cases h
      · cases h
    · cases h
  case store t p x =>
    simp only [heavy] at h
    rw [Option.map_eq_some_iff] at h
    obtain ⟨⟨b2, st2⟩, h1, h2⟩ := h
    cases h2
    by_cases hp : ∃ n off, ev C st [] p = .ptr n off
    · obtain ⟨n, off, hp⟩ := hp
      simp only [hits, hitsB, hp]
      rw [hp] at h1
      exact frm_storeP h1
    · have e : hits C st (.store t p x) = nmV (ev C st [] p) ++ ownCs (cellsOf (ev C st [] x)) := by
        simp only [hits]
        split
        · rename_i n off hv; exact absurd ⟨n, off, hv⟩ hp
        · rfl
      rw [e]
      exact frm_store (fun n hn => by simp [hn]) (fun n hn => by simp [hn]) h1
  case slice t x lo hi mx =>
    simp only [heavy] at h
    split at h
    · rename_i h1 h2 h3 h4 h5; exact frm_cut (by simp [hits, h2, cellsOf, ownCs, ownC]) h
    · rename_i h1 h2 h3 h4 h5; exact frm_cut (by simp [hits, h2, cellsOf, ownCs, ownC]) h
    · rename_i h1 h2 h3 h4 h5; exact frm_cut (by simp [hits, h2, cellsOf, ownCs, ownC]) h
    · cases h
  case call c =>
    obtain ⟨callee, args, ts⟩ := c
    simp only [heavy] at h
    split at h
    · split at h
      · rename_i t t' x y hts hxy
        have hx : ∀ n ∈ ownC x, n ∈ hits C st (.call ⟨.builtin .append, args, ts⟩) := fun n hn => by simp only [hits, hxy, ownCs, List.mem_append]; exact .inl hn
        have hy : ∀ n ∈ ownC y, n ∈ hits C st (.call ⟨.builtin .append, args, ts⟩) := fun n hn => by simp only [hits, hxy, ownCs, List.mem_append]; exact .inr (.inl hn)
        split at h
        · split at h
          · split at h
            · split at h
              · rename_i ok ys sta hs'
                have a1 := frm_source (bs := hitsB C st (.call ⟨.builtin .append, args, ts⟩)) hy hs'
                split at h
                · rename_i n
                  split at h
                  · split at h
                    · cases h; exact a1.trans (frm_set (hx n (by simp [ownC])) _)
                    · cases h
                  · cases h
                · exact a1.trans (frm_adds_map (x := (ok && decide (ys.length ≤ lim), .own (nm s 0))) h)
                · cases h
              · cases h
            · cases h
          · cases h
        · cases h
      · cases h
    · exact frm_callFn (hitsIn_of (fun n hn => hn) fun n hn => hn) h
    · cases h
  all_goals (simp [heavy] at h)
end Go.Den
