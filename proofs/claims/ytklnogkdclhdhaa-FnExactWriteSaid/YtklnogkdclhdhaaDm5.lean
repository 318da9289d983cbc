/- The evaluator of Go code over plain data, and its soundness: part 5 of 7. -/
import Derived.Test.YtklnogkdclhdhaaDm4
import Derived.Orders
set_option linter.unusedVariables false
set_option linter.unusedSimpArgs false
/- One operation after the other. -/
namespace Go.Den
open Go
variable {C : Ctx} {R : Rt} {G G0 G1 : Gh} {st st1 st2 : St} {a : Act} {w w' : World} {o : Oper} {v : SV}

/-! the slots that a region has filled so far are told by their names -/
def SameL (st st1 : St) : Prop := ∀ t, (lk st1.l t).isSome = (lk st.l t).isSome
theorem SameL.refl (st : St) : SameL st st := fun _ => rfl
theorem SameL.trans {a b c : St} (h : SameL a b) (k : SameL b c) : SameL a c := fun t => (k t).trans (h t)
theorem sameL_kill (st : St) (n : Nat) (h : List (Nat × Blk)) : SameL st { kill st n with h := h } := fun t => by simp [kill, lk_killL]
theorem sameL_adds : ∀ {xs : List (Nat × Blk)} {st st1 : St}, adds st xs = some st1 → SameL st st1
  | [], st, st1, h => by simp [adds] at h; rw [h]; exact .refl _
  | (n, b) :: r, st, st1, h => by
    simp only [adds] at h
    split at h
    · cases h
    · have := sameL_adds h; exact this
theorem sameL_take1 {x : SV} {d : D} (h : take1 st x = some (d, st1)) : SameL st st1 := by
  unfold take1 at h
  split at h
  · split at h
    · cases h; exact .refl _
    · cases h
  · cases h; exact .refl _
  · split at h
    · cases h; exact sameL_kill _ _ _
    · cases h
  · cases h
theorem sameL_takes : ∀ {vs : List SV} {ds : List D} {st st1 : St}, takes st vs = some (ds, st1) → SameL st st1
  | [], ds, st, st1, h => by simp [takes] at h; rw [h.2]; exact .refl _
  | v :: vs, ds, st, st1, h => by
    simp only [takes] at h
    split at h
    · rename_i h1
      split at h
      · rename_i h2; cases h; exact (sameL_take1 h1).trans (sameL_takes h2)
      · cases h
    · cases h
theorem sameL_takeK : ∀ {ks : List (Option (Nat × Nat))} {vs : List SV} {ds : List D} {st st1 : St}, takeK st ks vs = some (ds, st1) → SameL st st1
  | [], vs, ds, st, st1, h => by cases vs <;> simp [takeK] at h; rw [h.2]; exact .refl _
  | none :: ks, vs, ds, st, st1, h => by
    cases vs with
    | nil => simp [takeK] at h
    | cons v vs =>
      cases v <;> simp only [takeK] at h
      case d x =>
        split at h
        · rename_i h2; cases h; exact sameL_takeK h2
        · cases h
      all_goals cases h
  | some (e, sz) :: ks, vs, ds, st, st1, h => by
    cases vs with
    | nil => simp [takeK] at h
    | cons v vs =>
      simp only [takeK] at h
      split at h
      · split at h
        · rename_i h2; cases h; exact sameL_takeK h2
        · cases h
      · split at h
        · split at h
          · split at h
            · rename_i h2; cases h; exact (sameL_kill _ _ _).trans (sameL_takeK h2)
            · cases h
          · cases h
        · cases h
      · cases h
theorem sameL_given : ∀ {ms : List Mode} {xs : List SV} {r : List (Option DV)} {st st1 : St}, given st ms xs = some (r, st1) → SameL st st1
  | [], xs, r, st, st1, h => by cases xs <;> simp [given] at h; rw [h.2]; exact .refl _
  | m :: ms, [], r, st, st1, h => by cases m <;> simp [given] at h
  | m :: ms, x :: xs, r, st, st1, h => by
    unfold given at h
    split at h
    · rename_i heq; cases heq
    · rename_i heq1 heq2
      cases heq1; cases heq2
      split at h
      · rename_i h1
        split at h
        · rename_i h2
          split at h
          · cases h; exact (sameL_takeK h1).trans (sameL_given h2)
          · cases h; exact (sameL_takeK h1).trans (sameL_given h2)
          · cases h
        · cases h
      · cases h
    · rename_i heq1 heq2
      cases heq1; cases heq2
      split at h
      · split at h
        · split at h
          · rename_i h1
            split at h
            · rename_i h2
              cases h
              have a1 := sameL_takeK h1
              exact fun t => ((sameL_given h2) t).trans (a1 t)
            · cases h
          · cases h
        · cases h
      · cases h
    · rename_i heq1 heq2
      cases heq1; cases heq2
      split at h
      · rename_i h2; cases h; exact sameL_given h2
      · cases h
    · cases h
theorem sameL_backs {h0 : List (Nat × Blk)} {ns sus : List Nat} : ∀ {ms : List Mode} {xs : List SV} {os : List (List D)} {st st1 : St}, backs h0 ns sus st ms xs os = some st1 → SameL st st1
  | [], xs, os, st, st1, h => by cases xs <;> cases os <;> simp [backs] at h; rw [h]; exact .refl _
  | m :: ms, [], os, st, st1, h => by cases m <;> cases os <;> simp [backs] at h
  | m :: ms, x :: xs, os, st, st1, h => by
    by_cases hp : ∃ ks, m = .ptr ks
    · obtain ⟨ks, rfl⟩ := hp
      by_cases hx : ∃ n off, x = .ptr n off
      · obtain ⟨n, off, rfl⟩ := hx
        cases os with
        | nil => simp [backs] at h
        | cons o os =>
          simp only [backs] at h
          split at h
          · split at h
            · split at h
              · split at h
                · split at h
                  · rename_i ha; exact (sameL_adds ha).trans (sameL_backs h)
                  · cases h
                · cases h
              · cases h
            · cases h
          · cases h
      · cases x <;> first | exact absurd ⟨_, _, rfl⟩ hx | (simp [backs] at h)
    · by_cases hio : ∃ ks, m = .io ks
      · obtain ⟨ks, rfl⟩ := hio; simp [backs] at h
      · have eq : backs h0 ns sus st (m :: ms) (x :: xs) os = backs h0 ns sus st ms xs os := by
          cases m with
          | ptr ks => exact absurd ⟨ks, rfl⟩ hp
          | io ks => exact absurd ⟨ks, rfl⟩ hio
          | _ => cases os <;> rfl
        rw [eq] at h
        exact sameL_backs h
theorem sameL_source {zs : List D} {x : SV} {ok : Bool} {ys : List (List D)} (h : source zs st x = some (ok, ys, st1)) : SameL st st1 := by
  unfold source at h
  split at h
  · split at h
    · split at h
      · split at h
        · cases h; exact .refl _
        · cases h; exact sameL_kill _ _ _
      · cases h
    · cases h
  · split at h
    · cases h; exact .refl _
    · cases h
  · cases h; exact .refl _
  · cases h
theorem sameL_rowsOf {sz : Nat} : ∀ {parts : List (Nat × Operand)} {k : Nat} {rows : List (List D)} {st st1 : St}, rowsOf C sz parts k st = some (rows, st1) → SameL st st1
  | [], k, rows, st, st1, h => by simp [rowsOf] at h; rw [h.2]; exact .refl _
  | (i, x) :: r, k, rows, st, st1, h => by
    simp only [rowsOf] at h
    split at h
    · split at h
      · rename_i h1
        split at h
        · split at h
          · rename_i h2; cases h; exact (sameL_takes h1).trans (sameL_rowsOf h2)
          · cases h
        · cases h
      · cases h
    · cases h
theorem sameL_store {t : TypeId} {p x : SV} {b : Bool} (h : store C st t p x = some (b, st1)) : SameL st st1 := by
  unfold store at h
  split at h
  · split at h
    · split at h
      · split at h
        · cases h; exact fun _ => rfl
        · cases h
      · cases h
    · split at h
      · rename_i h1
        split at h
        · cases h; exact fun t => (sameL_takes h1) t
        · cases h
      · cases h
    · cases h
  · cases h
theorem sameL_cut {el n : Nat} {ok : List (List D) → Bool} {f : List (List D) → List (List D)} {b : Bool} (h : cut C st el n ok f = some (b, v, st1)) : SameL st st1 := by
  unfold cut at h
  split at h
  · split at h
    · cases h; exact sameL_kill _ _ _
    · cases h
  · cases h
theorem sameL_callFn {s f : Nat} {b : Bool} {xs : List SV} (h : callFn C st s f xs = some (b, v, st1)) : SameL st st1 := by
  unfold callFn at h
  split at h
  · obtain ⟨h2, _, rfl, _⟩ := callIo_st h; exact fun _ => rfl
  split at h
  · rename_i h1
    split at h
    · split at h
      · split at h
        · rename_i h2
          have k := (sameL_given h1).trans (sameL_backs h2)
          split at h
          · cases h; exact k
          · split at h
            · split at h
              · rename_i h3; cases h; exact k.trans (sameL_adds h3)
              · cases h
            · cases h
          · split at h
            · split at h
              · cases h; exact k
              · split at h
                · split at h
                  · rename_i h3; cases h; exact k.trans (sameL_adds h3)
                  · cases h
                · cases h
            · cases h
          · split at h
            · split at h
              · rename_i h3; cases h; exact k.trans (sameL_adds h3)
              · cases h
            · cases h
          · cases h
        · cases h
    · cases h
  · cases h
theorem sameL_heavy {s : Nat} {op : Op} {b : Bool} (h : heavy C st s op = some (b, v, st1)) : SameL st st1 := by
  have adds' : ∀ {st st1 : St} {xs : List (Nat × Blk)} {α : Type} {f : St → α} {g : α}, (adds st xs).map f = some g → ∃ st2, adds st xs = some st2 ∧ f st2 = g := fun h => by
    rw [Option.map_eq_some_iff] at h; exact h
  unfold heavy at h
  split at h
  · split at h
    · obtain ⟨st2, h1, h2⟩ := adds' (st1 := st) h; cases h2; exact sameL_adds h1
    · cases h
  · split at h
    · obtain ⟨st2, h1, h2⟩ := adds' (st1 := st) h; cases h2; exact sameL_adds h1
    · cases h
  · split at h
    · split at h
      · split at h
        · rename_i hr
          split at h
          · obtain ⟨st2, h1, h2⟩ := adds' (st1 := st) h; cases h2; exact (sameL_rowsOf hr).trans (sameL_adds h1)
          · cases h
        · cases h
      · cases h
    · cases h
  · split at h
    · split at h
      · split at h
        · obtain ⟨st2, h1, h2⟩ := adds' (st1 := st) h; cases h2; exact sameL_adds h1
        · cases h
      · cases h
    · cases h
  · rw [Option.map_eq_some_iff] at h
    obtain ⟨⟨b2, st2⟩, h1, h2⟩ := h
    cases h2
    exact sameL_store h1
  · split at h
    · exact sameL_cut h
    · exact sameL_cut h
    · exact sameL_cut h
    · cases h
  · split at h
    · split at h
      · split at h
        · split at h
          · split at h
            · split at h
              · rename_i hs
                split at h
                · split at h
                  · split at h
                    · cases h; exact (sameL_source hs).trans (sameL_kill _ _ _)
                    · cases h
                  · cases h
                · obtain ⟨st2, h1, h2⟩ := adds' (st1 := st) h; cases h2; exact (sameL_source hs).trans (sameL_adds h1)
                · cases h
              · cases h
            · cases h
          · cases h
        · cases h
      · cases h
    · exact sameL_callFn h
    · cases h
  · cases h

theorem heavy_sound {s : Nat} (hC : CtxOk C) (H : Inv C R G st a w) (h : heavy C st s o.op = some (true, v, st1)) : Doing C R G st a w o v st1 := by
  generalize hop : o.op = op at h
  cases op
  case alloc t =>
    simp only [heavy] at h
    split at h
    · rename_i zs hz
      rw [Option.map_eq_some_iff] at h
      obtain ⟨st2, h1, h2⟩ := h
      cases h2
      exact doing_alloc H hop hz h1
    · cases h
  case box t x =>
    simp only [heavy] at h
    split at h
    · rename_i hf
      rw [Option.map_eq_some_iff] at h
      obtain ⟨st2, h1, h2⟩ := h
      cases h2
      exact doing_box H hop (fits_ok hf).1 h1
    · cases h
  case buildSlice t n parts =>
    simp only [heavy] at h
    split at h
    · rename_i el ht
      split at h
      · rename_i zs hz
        split at h
        · rename_i rows st2 hr
          split at h
          · rename_i hn
            rw [Option.map_eq_some_iff] at h
            obtain ⟨st3, h1, h2⟩ := h
            cases h2
            exact doing_buildSlice H hop ht hz hr hn.1 hn.2 h1
          · cases h
        · cases h
      · cases h
    · cases h
  case makeSlice t x y =>
    simp only [heavy] at h
    split at h
    · rename_i el kx k ky k' ht hx hy
      split at h
      · rename_i hsm
        split at h
        · rename_i zs hz
          rw [Option.map_eq_some_iff] at h
          obtain ⟨st2, h1, h2⟩ := h
          simp only [Prod.mk.injEq, decide_eq_true_eq] at h2
          obtain ⟨⟨h3, h4, rfl⟩, rfl, rfl⟩ := h2
          exact doing_make H hop ht hx hy hsm hz h3 h4 h1
        · cases h
      · cases h
    · cases h
  case store t p x =>
    simp only [heavy] at h
    rw [Option.map_eq_some_iff] at h
    obtain ⟨⟨b2, st2⟩, h1, h2⟩ := h
    cases h2
    exact doing_store H hop h1
  case slice t x lo hi mx => exact doing_slice (s := s) H hop (by rw [hop]; exact h)
  case call c =>
    obtain ⟨callee, args, ts⟩ := c
    cases callee with
    | builtin b =>
      by_cases hb : b = .append
      · subst hb
        exact doing_append (s := s) H hop (by rw [hop]; exact h)
      · cases b <;> first | exact absurd rfl hb | (simp [heavy] at h)
    | value f =>
      cases f with
      | func f =>
        simp only [heavy] at h
        exact doing_callFn hC H hop h
      | _ => simp [heavy] at h
    | invoke r m => simp [heavy] at h
  all_goals (simp [heavy] at h)
end Go.Den

/- Regions. -/
namespace Go.Den
open Go
variable {C : Ctx} {R : Rt} {G G0 G1 : Gh} {st st1 st2 : St} {a : Act} {w w' : World} {o : Oper} {v : SV}

theorem lkm_none : ∀ {ks : List Nat} {m : List SV} {t : Nat}, isIn ks t = false → lkm ks m t = .undef
  | [], m, t, _ => by cases m <;> rfl
  | k :: ks, [], t, _ => rfl
  | k :: ks, v :: vs, t, h => by
    simp only [isIn] at h
    split at h
    · cases h
    · rename_i hk; simp only [lkm, if_neg hk]; exact lkm_none h
theorem lkm_stm : ∀ {ks : List Nat} {m : List SV} {t : Nat} {x : SV}, isIn ks t = true → m.length = ks.length → ∀ u, lkm ks (stm ks m t x) u = if u = t then x else lkm ks m u
  | [], m, t, x, h, _, u => by simp [isIn] at h
  | k :: ks, [], t, x, h, hl, u => by simp at hl
  | k :: ks, v :: vs, t, x, h, hl, u => by
    simp only [isIn] at h
    simp only [stm]
    split
    · rename_i hk
      subst hk
      simp only [lkm]
      by_cases hu : k = u
      · simp [hu]
      · simp [hu, Ne.symm hu]
    · rename_i hk
      rw [if_neg hk] at h
      simp only [lkm]
      rw [lkm_stm h (by simpa using hl) u]
      by_cases hu : k = u
      · subst hu; simp [hk]
      · simp [hu]
theorem stm_len : ∀ (ks : List Nat) (m : List SV) (t : Nat) (x : SV), (stm ks m t x).length = m.length
  | [], m, t, x => by cases m <;> rfl
  | k :: ks, [], t, x => rfl
  | k :: ks, v :: vs, t, x => by simp only [stm]; split <;> simp [stm_len ks vs]
theorem getD_put {a : Act} {t u : Nat} {val : Value} (ht : t < a.tmps.size) : (a.put (some t) val).tmps.getD u undef = if u = t then val else a.tmps.getD u undef := by
  simp only [Act.put, Array.getD_eq_getD_getElem?, Array.getElem?_setIfInBounds]
  by_cases h : t = u
  · subst h; simp [ht]
  · simp [h, Ne.symm h]

/-- A slot is filled. -/
theorem put_inv {p : Path} {c : Bool} {dst : Option Nat} {val : Value} (H : Inv C R G st a w) (hv : if c then VRel R G st.h v val else val = undef) (hp : PathC st.l p c) (hc : p = [] → c = true) (hl : ∀ t, dst = some t → lk st.l t = none ∧ t < a.tmps.size) : Inv C R G (pt C st p c dst v) (a.put dst val) w := by
  cases dst with
  | none => exact H
  | some t =>
    obtain ⟨hlk, ht⟩ := hl t rfl
    unfold pt
    dsimp only
    by_cases hk : isIn C.keep t = true
    · rw [if_pos hk]
      have key : ∀ x : SV, VRel R G st.h x val → Inv C R G { st with m := stm C.keep st.m t x } (a.put (some t) val) w := fun x hx =>
        ⟨H.W, H.B, H.all, fun u => by
          have hu := H.slots u
          unfold SlotR at hu ⊢
          rw [getD_put ht]
          dsimp only
          by_cases hut : u = t
          · subst hut
            rw [hlk]
            simp only [if_true]
            rw [lkm_stm hk H.m u, if_pos rfl]
            exact hx
          · rw [if_neg hut]
            cases hlu : lk st.l u with
            | none =>
              rw [hlu] at hu
              dsimp only at hu ⊢
              rw [lkm_stm hk H.m u, if_neg hut]
              exact hu
            | some e => rw [hlu] at hu; exact hu, H.l, by simp only [stm_len]; exact H.m⟩
      split
      · have hc' := hc rfl
        subst hc'
        exact key v hv
      · exact key .undef trivial
    · rw [if_neg hk]
      refine ⟨H.W, H.B, H.all, fun u => ?_, fun u q c' v' h => ?_, H.m⟩
      · have hu := H.slots u
        unfold SlotR at hu ⊢
        rw [getD_put ht]
        simp only [lk]
        by_cases hut : u = t
        · subst hut
          simp only [if_true]
          exact hv
        · rw [if_neg (Ne.symm hut), if_neg hut]
          exact hu
      · have lift : ∀ {q : Path} {c' : Bool}, PathC st.l q c' → PathC ((t, p, c, v) :: st.l) q c' := fun h => by
          rcases h with h | ⟨q', t', b, c'', x, h1, h2, h3⟩
          · exact .inl h
          · refine .inr ⟨q', t', b, c'', x, h1, ?_, h3⟩
            simp only [lk]
            rw [if_neg (fun e => by subst e; rw [hlk] at h2; cases h2)]
            exact h2
        simp only [lk] at h
        split at h
        · cases h; exact lift hp
        · exact lift (H.l u q c' v' h)
theorem pt_l {p : Path} {c : Bool} {dst : Option Nat} {seen : List Nat} (hl : ∀ t, (lk st.l t).isSome = true → t ∈ seen ∧ isIn C.keep t = false) :
    ∀ t, (lk (pt C st p c dst v).l t).isSome = true → t ∈ (match dst with | some d => d :: seen | none => seen) ∧ isIn C.keep t = false := by
  intro t h
  unfold pt at h
  cases dst with
  | none => exact hl t h
  | some d =>
    dsimp only at h ⊢
    split at h
    · have : (lk st.l t).isSome = true := by
        split at h <;> exact h
      exact ⟨List.mem_cons_of_mem _ (hl t this).1, (hl t this).2⟩
    · rename_i hk
      simp only [lk] at h
      split at h
      · rename_i e; subst e; exact ⟨by simp, by simpa using hk⟩
      · exact ⟨List.mem_cons_of_mem _ (hl t h).1, (hl t h).2⟩

theorem okP_ok {p : Path} {c ok : Bool} (h : okP p c ok = true) (hc : c = true) : ok = true := by
  subst hc
  cases p <;> simp_all [okP]
/-- The guard, as the machine finds it. -/
theorem guard_rel {ops : Array Oper} {p : Path} {c : Bool} (H : Inv C R G st a w) (h : guardOf ops st o.guard = some (p, c)) : PathC st.l p c ∧ (p = [] → c = true) ∧ Region.wanted o (yielded ops a.tmps) = c := by
  unfold guardOf at h
  cases hg : o.guard with
  | none =>
    rw [hg] at h
    cases h
    exact ⟨.inl ⟨rfl, rfl⟩, fun _ => rfl, by simp [Region.wanted, hg]⟩
  | some jb =>
    obtain ⟨j, b⟩ := jb
    rw [hg] at h
    dsimp only at h
    split at h
    · rename_i oj hoj
      split at h
      · rename_i t ht
        split at h
        · rename_i q c' x hlk
          cases h
          have hgd : gd b x = (x == b) := by cases b <;> cases x <;> rfl
          rw [hgd]
          refine ⟨.inr ⟨q, t, b, c', x, rfl, hlk, rfl⟩, fun e => by simp at e, ?_⟩
          have hs := H.slots t
          unfold SlotR at hs
          rw [hlk] at hs
          dsimp only at hs
          simp only [Region.wanted, hg, yielded, hoj, Option.bind_some, ht]
          cases c' with
          | true =>
            have hv : a.tmps.getD t undef = .bool x := vrel_b (R := R) (G := G) (h := st.h) hs
            have hget : a.tmps[t]? = some (.bool x) := by
              cases he : a.tmps[t]? with
              | none => rw [Array.getD_eq_getD_getElem?, he] at hv; cases hv
              | some u => rw [Array.getD_eq_getD_getElem?, he] at hv; simp at hv; rw [hv]
            rw [hget]
            cases x <;> cases b <;> rfl
          | false =>
            have hv : a.tmps.getD t undef = undef := hs
            have hget : a.tmps[t]? = none ∨ a.tmps[t]? = some undef := by
              cases he : a.tmps[t]? with
              | none => exact .inl rfl
              | some u => rw [Array.getD_eq_getD_getElem?, he] at hv; simp at hv; rw [hv]; exact .inr rfl
            rcases hget with e | e <;> rw [e] <;> rfl
        · cases h
      · cases h
    · cases h

/-- The slots of a region's operations: each once, and there. -/
def chkOps (n : Nat) : List Nat → List Oper → Bool
  | _, [] => true
  | seen, o :: os => match o.dst with
    | none => chkOps n seen os
    | some t => decide (t < n) && !isIn seen t && chkOps n (t :: seen) os
theorem chk_dst {n : Nat} {seen : List Nat} {os : List Oper} (h : chkOps n seen (o :: os) = true) : (∀ t, o.dst = some t → t < n ∧ t ∉ seen) ∧ chkOps n (match o.dst with | some d => d :: seen | none => seen) os = true := by
  simp only [chkOps] at h
  cases hd : o.dst with
  | none => rw [hd] at h; exact ⟨fun t ht => (by cases ht), h⟩
  | some t =>
    rw [hd] at h
    simp only [Bool.and_eq_true, decide_eq_true_eq, Bool.not_eq_true'] at h
    refine ⟨fun t' ht => ?_, h.2⟩
    cases ht
    exact ⟨h.1.1, fun hm => by rw [isIn_mem.2 hm] at h; simp at h⟩
theorem put_size (a : Act) (dst : Option Nat) (val : Value) : (a.put dst val).tmps.size = a.tmps.size ∧ (a.put dst val).defers = a.defers := by
  cases dst <;> simp [Act.put]
/-- The operations fill none of the slots p. -/
def loOps (p : List Nat) (os : List Oper) : Bool := os.all fun o => match o.dst with | some t => !isIn p t | none => true
theorem loOps_mem {p : List Nat} {os : List Oper} (h : loOps p os = true) : ∀ o ∈ os, ∀ t, o.dst = some t → t ∉ p := fun o ho t ht => by
  have := List.all_eq_true.1 h o ho
  rw [ht] at this
  simp only [Bool.not_eq_true'] at this
  exact fun hm => by rw [isIn_mem.2 hm] at this; cases this
/-- The slots p stand as they stood. -/
def Still (p : List Nat) (a a' : Act) : Prop := a'.defers = a.defers ∧ ∀ i, i ∈ p → a'.tmps[i]? = a.tmps[i]?
theorem Still.refl (p : List Nat) (a : Act) : Still p a a := ⟨rfl, fun _ _ => rfl⟩
theorem Still.trans {p : List Nat} {a b c : Act} (A : Still p a b) (B : Still p b c) : Still p a c := ⟨B.1.trans A.1, fun i hi => (B.2 i hi).trans (A.2 i hi)⟩
theorem put_still {p : List Nat} {a : Act} {dst : Option Nat} {val : Value} (h : ∀ t, dst = some t → t ∉ p) : Still p a (a.put dst val) := by
  cases dst with
  | none => exact Still.refl p a
  | some t =>
    have := h t rfl
    refine ⟨by simp [Act.put], fun i hi => ?_⟩
    have hne : t ≠ i := fun e => this (e ▸ hi)
    simp [Act.put, Array.getElem?_setIfInBounds, hne]
theorem clear_inv (H : Inv C R G st a w) (hl : ∀ t, (lk st.l t).isSome = true → isIn C.keep t = false) : Inv C R G { st with l := [] } a w where
  W := H.W
  B := H.B
  all := H.all
  slots := fun t => by
    have hs := H.slots t
    unfold SlotR at hs ⊢
    dsimp only [lk]
    cases hlk : lk st.l t with
    | none => rw [hlk] at hs; exact hs
    | some e => rw [lkm_none (hl t (by rw [hlk]; rfl))]; trivial
  l := fun t q c v h => by cases h
  m := H.m

theorem strip_pre : ∀ {p q : Path}, pre q p = true → strip p q = []
  | p, [], _ => by cases p <;> simp [strip]
  | [], (b, y) :: q, h => by simp [pre] at h
  | (a, x) :: p, (b, y) :: q, h => by
    simp only [pre] at h
    split at h
    · rename_i e; subst e
      split at h
      · rename_i e; subst e
        simp only [strip, if_true]
        exact strip_pre h
      · cases h
    · cases h
theorem strip_nil : ∀ {p q : Path}, strip p q = [] → pre q p = true
  | p, [], _ => by simp [pre]
  | [], (b, y) :: q, h => by simp [strip] at h
  | (a, x) :: p, (b, y) :: q, h => by
    simp only [strip] at h
    split at h
    · rename_i e; subst e
      split at h
      · rename_i e; subst e
        simp only [pre, if_true]
        exact strip_nil h
      · cases h
    · cases h
theorem strip_snoc : ∀ {p q : Path} {e : Nat × Bool}, pre q p = false → strip p (q ++ [e]) = strip p q ++ [e]
  | p, [], e, h => by simp [pre] at h
  | [], (b, y) :: q, e, h => by simp [strip]
  | (a, x) :: p, (b, y) :: q, e, h => by
    simp only [pre] at h
    simp only [List.cons_append, strip]
    split
    · rename_i e1; subst e1
      split
      · rename_i e2; subst e2
        simp only [if_true] at h
        exact strip_snoc h
      · rfl
    · rfl
theorem strip_last : ∀ {p q : Path} {e : Nat × Bool}, pre q p = true → pre (q ++ [e]) p = false → strip p (q ++ [e]) = [e]
  | [], [], e, _, _ => by simp [strip]
  | (a, x) :: p, [], (b, y), _, h => by
    simp only [List.nil_append, strip]
    split
    · rename_i e1; subst e1
      split
      · rename_i e2; subst e2
        simp [pre] at h
      · rfl
    · rfl
  | [], (b, y) :: q, e, h, _ => by simp [pre] at h
  | (a, x) :: p, (b, y) :: q, e, h, h' => by
    simp only [pre] at h
    split at h
    · rename_i e1; subst e1
      split at h
      · rename_i e2; subst e2
        simp only [List.cons_append, pre, if_true] at h'
        simp only [List.cons_append, strip, if_true]
        exact strip_last h h'
      · cases h
    · cases h
theorem lk_atL (p : Path) : ∀ (l : List (Nat × Path × Bool × SV)) (t : Nat), lk (atL p l) t = (lk l t).map fun e => (strip p e.1, (match strip p e.1 with | [] => true | _ => e.2.1), e.2.2)
  | [], t => rfl
  | (u, q, c, v) :: r, t => by
    simp only [atL, lk, lk_atL p r t]
    split <;> rfl
/-- One who stands at p, where it holds, may forget it. -/
theorem atP_inv {p : Path} (H : Inv C R G st a w) (hp : PathC st.l p true) : Inv C R G (atP p st) a w := by
  have hgood := good_of H.l hp
  refine ⟨H.W, H.B, H.all, fun t => ?_, fun t q c v h => ?_, H.m⟩
  · have hs := H.slots t
    unfold SlotR at hs ⊢
    show match lk (atL p st.l) t with | some (_, c, v) => if c then VRel R G st.h v (a.tmps.getD t undef) else a.tmps.getD t undef = undef | none => VRel R G st.h (lkm C.keep st.m t) (a.tmps.getD t undef)
    rw [lk_atL]
    cases hlk : lk st.l t with
    | none => rw [hlk] at hs; exact hs
    | some e =>
      obtain ⟨q, c, v⟩ := e
      rw [hlk] at hs
      dsimp only [Option.map] at hs ⊢
      cases hr : strip p q with
      | nil =>
        have := hgood t q c v hlk (strip_nil hr)
        subst this
        exact hs
      | cons x r => exact hs
  · show PathC (atL p st.l) q c
    have h' : lk (atL p st.l) t = some (q, c, v) := h
    rw [lk_atL, Option.map_eq_some_iff] at h'
    obtain ⟨⟨q1, c1, v1⟩, h1, h2⟩ := h'
    simp only [Prod.mk.injEq] at h2
    obtain ⟨rfl, rfl, rfl⟩ := h2
    cases hr : strip p q1 with
    | nil => exact .inl ⟨rfl, rfl⟩
    | cons x0 r0 =>
      dsimp only
      have hnp : pre q1 p = false := by
        cases hpp : pre q1 p with
        | false => rfl
        | true => rw [strip_pre hpp] at hr; cases hr
      rcases H.l t q1 c1 _ h1 with ⟨rfl, _⟩ | ⟨q0, t0, b0, c0, y0, rfl, h3, h4⟩
      · simp [pre] at hnp
      · refine .inr ⟨strip p q0, t0, b0, (match strip p q0 with | [] => true | _ => c0), y0, ?_, by rw [lk_atL, h3]; rfl, ?_⟩
        · rw [← hr]
          cases hq : pre q0 p with
          | true => rw [strip_last hq hnp, strip_pre hq]; rfl
          | false => exact strip_snoc hq
        · rw [h4]
          cases hq : strip p q0 with
          | nil =>
            have := hgood t0 q0 c0 _ h3 (strip_nil hq)
            subst this
            rfl
          | cons => rfl
theorem sameL_atP (p : Path) (st : St) : SameL st (atP p st) := fun t => by
  show (lk (atL p st.l) t).isSome = _
  rw [lk_atL]
  cases lk st.l t <;> rfl
theorem runOps_sound (hC : CtxOk C) {ops : Array Oper} {p0 : List Nat} {Q : Exit → Act → World → Prop} : ∀ (os : List Oper) (k : Nat) (seen : List Nat) (st : St) (G : Gh) (a : Act) (w : World), ops.toList.drop k = os → Inv C R G st a w → (∀ t, (lk st.l t).isSome = true → t ∈ seen ∧ isIn C.keep t = false) → chkOps a.tmps.size seen os = true → loOps p0 os = true → runOps C ops os st = some st2 →
    (∀ a' w' G', Inv C R G' st2 a' w' → st2.l = [] → a'.tmps.size = a.tmps.size → Still p0 a a' → Q .normal a' w') → wpOps C.P ops Q (List.range' k os.length) a w
  | [], k, seen, st, G, a, w, hd, H, hl, hchk, hlo, h, hQ => by
    simp only [runOps, Option.some.injEq] at h
    subst h
    exact hQ a w G (clear_inv H fun t ht => (hl t ht).2) rfl rfl (Still.refl _ _)
  | o :: os, k, seen, st, G, a, w, hd, H, hl, hchk, hlo, h, hQ => by
    have hst : ∀ val, Still p0 a (a.put o.dst val) := fun val => put_still (loOps_mem hlo o (by simp))
    have hlo' : loOps p0 os = true := by simp only [loOps, List.all_cons, Bool.and_eq_true] at hlo ⊢; exact hlo.2
    have hk : ops[k]? = some o := by
      have : ops.toList[k]? = some o := by
        have := congrArg (·[0]?) hd
        simpa using this
      simpa using this
    have hd' : ops.toList.drop (k + 1) = os := by
      rw [← List.drop_drop, hd]; rfl
    obtain ⟨hdst, hchk'⟩ := chk_dst hchk
    have hfree : ∀ {l : List (Nat × Path × Bool × SV)}, (∀ t, (lk l t).isSome = (lk st.l t).isSome) → ∀ t, o.dst = some t → lk l t = none ∧ t < a.tmps.size := fun hll t ht => by
      obtain ⟨h1, h2⟩ := hdst t ht
      refine ⟨?_, h1⟩
      cases he : lk _ t with
      | none => rfl
      | some e =>
        have h3 := hll t
        rw [he] at h3
        exact absurd (hl t h3.symm).1 h2
    -- behind the operation
    have next : ∀ {st' : St} {p : Path} {c : Bool} {v : SV} {G' : Gh} {val : Value} {w' : World}, Inv C R G' st' a w' → SameL st st' → (if c then VRel R G' st'.h v val else val = undef) → PathC st'.l p c → (p = [] → c = true) → runOps C ops os (pt C st' p c o.dst v) = some st2 → wpOps C.P ops Q (List.range' (k + 1) os.length) (a.put o.dst val) w' := by
      intro st' p c v G' val w' H' hL hv hp hc hrun
      obtain ⟨z1, z2⟩ := put_size a o.dst val
      refine runOps_sound hC os (k + 1) _ _ _ _ _ hd' (put_inv H' hv hp hc (hfree hL)) (pt_l (fun t ht => hl t (by rw [← hL t]; exact ht))) (by rw [z1]; exact hchk') hlo' hrun (fun a' w' G' h1 h2 h3 h4 => hQ a' w' G' h1 h2 (h3.trans z1) ((hst val).trans h4))
    simp only [List.length_cons, List.range'_succ, wpOps, hk]
    simp only [runOps] at h
    split at h
    · rename_i p c hg
      obtain ⟨hp, hc, hw⟩ := guard_rel H hg
      rw [hw]
      split at h
      · rename_i ok v hlight
        split at h
        · rename_i hok
          cases c with
          | false =>
            simp only [Bool.false_eq_true, if_false]
            exact next (c := false) (v := v) H (.refl _) rfl hp hc h
          | true =>
            simp only [if_true]
            have hok := okP_ok hok rfl
            subst hok
            refine .inl (light_sound hC ⟨H.W, H.bare, H.l, hp⟩ (fun t _ => H.slots t) hlight (fun val w' hext hv => ?_))
            exact next (c := true) (v := v) (inv_ext H hext) (.refl _) hv hp hc h
        · cases h
      · split at h
        · split at h
          · rename_i ok v st1 hheavy
            split at h
            · rename_i hok
              subst hok
              have hc' := hc rfl
              subst hc'
              simp only [if_true]
              refine .inl (heavy_sound hC H hheavy _ _ (fun val w' G' h1 h2 _ => ?_))
              exact next (c := true) (v := v) h1 (sameL_heavy hheavy) h2 (.inl ⟨rfl, rfl⟩) (fun _ => rfl) h
            · cases h
          · cases h
        · rename_i q p'
          split at h
          · rename_i hcc
            subst hcc
            split at h
            · rename_i ok v st1 hheavy
              split at h
              · rename_i hok
                subst hok
                simp only [if_true]
                refine .inl (heavy_sound hC (atP_inv H hp) hheavy _ _ (fun val w' G' h1 h2 _ => ?_))
                exact next (c := true) (v := v) h1 ((sameL_atP _ st).trans (sameL_heavy hheavy)) h2 (.inl ⟨rfl, rfl⟩) (fun _ => rfl) h
              · cases h
            · cases h
          · rename_i hcc
            have : c = false := by simpa using hcc
            subst this
            simp only [Bool.false_eq_true, if_false]
            exact next (c := false) (v := .undef) H (.refl _) rfl hp hc h
    · cases h
end Go.Den

/- What an operation comes to depends on what it reads alone. -/
namespace Go.Den
open Go
variable {C : Ctx} {st st' st1 : St} {p : Path} {op : Op}

theorem evs_congr {xs : List Operand} (h : ∀ x ∈ xs, ev C st' p x = ev C st p x) : evs C st' p xs = evs C st p xs := by
  induction xs with
  | nil => rfl
  | cons x xs ih => simp only [evs, h x (by simp), ih (fun y hy => h y (by simp [hy]))]
theorem load_h (hh : st'.h = st.h) (t : TypeId) (v : SV) : load C st' t v = load C st t v := by cases v <;> simp only [load, hh]
theorem lenOf_h (hh : st'.h = st.h) (t : Ty) (v : SV) : lenOf st' t v = lenOf st t v := by cases t <;> cases v <;> simp only [lenOf, hh]
theorem fillB_congr {fs : List (Nat × Nat)} : ∀ {parts : List (Nat × Operand)} {cs : List SV}, (∀ q ∈ parts, ev C st' p q.2 = ev C st p q.2) → fillB C st' p fs parts cs = fillB C st p fs parts cs
  | [], cs, _ => rfl
  | (i, x) :: r, cs, h => by
    simp only [fillB, h (i, x) (by simp)]
    split
    · split
      · exact fillB_congr (fun q hq => h q (by simp [hq]))
      · rfl
    · rfl
theorem light_congr (hh : st'.h = st.h) (hA : ∀ t, Operand.tmp t ∈ op.operands.toList → ∀ p, gt C st' p t = gt C st p t) : light C st' p op = light C st p op := by
  have hev : ∀ x ∈ op.operands.toList, ∀ p, ev C st' p x = ev C st p x := fun x hx p => by
    cases x with
    | tmp t => exact hA t hx p
    | _ => rfl
  cases op
  case pick c x y =>
    cases c with
    | tmp t => simp only [light, hA t (by simp [Op.operands]), hev x (by simp [Op.operands]), hev y (by simp [Op.operands])]
    | _ => rfl
  case build t parts =>
    simp only [light]
    split
    · rw [fillB_congr (fun q hq => hev q.2 (by simp only [Op.operands, List.mem_map]; exact ⟨q, hq, rfl⟩) p)]
    · rfl
  case call c =>
    obtain ⟨callee, args, ts⟩ := c
    have ha : ∀ x ∈ args.toList, ev C st' p x = ev C st p x := fun x hx => hev x (by simp [Op.operands, Call.operands]; cases callee <;> simp <;> first | exact .inr (by simpa using hx) | simpa using hx) p
    simp only [light]
    split
    · split
      · rename_i t x h1 h2
        rw [ha x (by rw [h2]; simp), lenOf_h hh]
      · rfl
    · split
      · rename_i x y h2; rw [ha x (by rw [h2]; simp), ha y (by rw [h2]; simp)]
      · rfl
    · split
      · rename_i x y h2; rw [ha x (by rw [h2]; simp), ha y (by rw [h2]; simp)]
      · rfl
    · split
      · rw [evs_congr ha, zipArgs_h hh]
      · rfl
    · rfl
  case slice t x lo hi mx =>
    cases mx with
    | some m => rfl
    | none =>
      have h1 : lo.map (ev C st' p) = lo.map (ev C st p) := by cases lo with | none => rfl | some y => simp [hev y (by simp [Op.operands])]
      have h2 : hi.map (ev C st' p) = hi.map (ev C st p) := by cases hi with | none => rfl | some y => simp [hev y (by simp [Op.operands])]
      simp only [light, hev x (by simp [Op.operands]), h1, h2]
  case convert s d x => simp only [light, hev x (by simp [Op.operands]), hh]
  case indexAddr t x y => simp only [light, hev x (by simp [Op.operands]), hev y (by simp [Op.operands]), hh]
  case index t x y => simp only [light, hev x (by simp [Op.operands]), hev y (by simp [Op.operands])]
  case binOp o t x y ty => simp only [light, hev x (by simp [Op.operands]), hev y (by simp [Op.operands])]
  case load t x => simp only [light, hev x (by simp [Op.operands]), load_h hh, hh]
  case unOp u t x => cases u <;> simp only [light, hev x (by simp [Op.operands])]
  case move x => simp only [light, hev x (by simp [Op.operands])]
  case assign x => simp only [light, hev x (by simp [Op.operands])]
  case nilCheck x => simp only [light, hev x (by simp [Op.operands])]
  case fieldAddr t x f => simp only [light, hev x (by simp [Op.operands])]
  case field t x f => simp only [light, hev x (by simp [Op.operands])]
  case extract x i => simp only [light, hev x (by simp [Op.operands])]
  all_goals rfl
end Go.Den

/- Two states with the same memory: a heavy operation does the same to both. -/
namespace Go.Den
open Go
variable {C : Ctx} {st st' st1 st1' st2 st2' : St} {p : Path} {op : Op} {v : SV}

def killsM : List Nat → List SV → List SV | [], m => m | n :: ns, m => killsM ns (killM n m)
def killsL : List Nat → List (Nat × Path × Bool × SV) → List (Nat × Path × Bool × SV) | [], l => l | n :: ns, l => killsL ns (killL n l)
theorem killsM_append : ∀ (a b : List Nat) (m : List SV), killsM (a ++ b) m = killsM b (killsM a m)
  | [], b, m => rfl
  | n :: a, b, m => by simp only [List.cons_append, killsM, killsM_append a b]
theorem killsL_append : ∀ (a b : List Nat) (l : List (Nat × Path × Bool × SV)), killsL (a ++ b) l = killsL b (killsL a l)
  | [], b, l => rfl
  | n :: a, b, l => by simp only [List.cons_append, killsL, killsL_append a b]
/-- From st to st1 as from st' to st1'. -/
def Sim (st st1 st' st1' : St) : Prop := ∃ ns, st1.m = killsM ns st.m ∧ st1.l = killsL ns st.l ∧ st1'.m = killsM ns st'.m ∧ st1'.l = killsL ns st'.l ∧ st1'.h = st1.h
theorem Sim.refl (hh : st'.h = st.h) : Sim st st st' st' := ⟨[], rfl, rfl, rfl, rfl, hh⟩
theorem Sim.trans (A : Sim st st1 st' st1') (B : Sim st1 st2 st1' st2') : Sim st st2 st' st2' := by
  obtain ⟨a, a1, a2, a3, a4, a5⟩ := A
  obtain ⟨b, b1, b2, b3, b4, b5⟩ := B
  exact ⟨a ++ b, by rw [killsM_append, ← a1, b1], by rw [killsL_append, ← a2, b2], by rw [killsM_append, ← a3, b3], by rw [killsL_append, ← a4, b4], b5⟩
theorem Sim.h (A : Sim st st1 st' st1') : st1'.h = st1.h := by obtain ⟨_, _, _, _, _, h⟩ := A; exact h
theorem sim_kill (n : Nat) (h h' : List (Nat × Blk)) (e : h' = h) : Sim st { kill st n with h := h } st' { kill st' n with h := h' } := ⟨[n], rfl, rfl, rfl, rfl, e⟩
theorem sim_h (h h' : List (Nat × Blk)) (e : h' = h) : Sim st { st with h := h } st' { st' with h := h' } := ⟨[], rfl, rfl, rfl, rfl, e⟩

theorem take1_sim {x : SV} {d : D} (hh : st'.h = st.h) (h : take1 st x = some (d, st1)) : ∃ st1', take1 st' x = some (d, st1') ∧ Sim st st1 st' st1' := by
  unfold take1 at h
  split at h
  · split at h
    · rename_i hs; cases h; exact ⟨st', by simp [take1, hs], .refl hh⟩
    · cases h
  · cases h; exact ⟨st', rfl, .refl hh⟩
  · rename_i n
    split at h
    · rename_i hr
      cases h
      exact ⟨{ kill st' n with h := hdel (killH n st'.h) n }, by simp only [take1, hh, hr], sim_kill _ _ _ (by rw [hh])⟩
    · cases h
  · cases h
theorem takes_sim : ∀ {vs : List SV} {ds : List D} {st st1 st' : St}, st'.h = st.h → takes st vs = some (ds, st1) → ∃ st1', takes st' vs = some (ds, st1') ∧ Sim st st1 st' st1'
  | [], ds, st, st1, st', hh, h => by simp only [takes, Option.some.injEq, Prod.mk.injEq] at h; obtain ⟨rfl, rfl⟩ := h; exact ⟨st', rfl, .refl hh⟩
  | v :: vs, ds, st, st1, st', hh, h => by
    simp only [takes] at h
    split at h
    · rename_i x sta h1
      split at h
      · rename_i xs stb h2
        cases h
        obtain ⟨sta', k1, k2⟩ := take1_sim hh h1
        obtain ⟨stb', k3, k4⟩ := takes_sim k2.h h2
        exact ⟨stb', by simp only [takes, k1, k3], k2.trans k4⟩
      · cases h
    · cases h
theorem takeK_sim : ∀ {ks : List (Option (Nat × Nat))} {vs : List SV} {ds : List D} {st st1 st' : St}, st'.h = st.h → takeK st ks vs = some (ds, st1) → ∃ st1', takeK st' ks vs = some (ds, st1') ∧ Sim st st1 st' st1'
  | [], vs, ds, st, st1, st', hh, h => by
    cases vs with
    | nil => simp only [takeK, Option.some.injEq, Prod.mk.injEq] at h; obtain ⟨rfl, rfl⟩ := h; exact ⟨st', rfl, .refl hh⟩
    | cons v vs => simp [takeK] at h
  | none :: ks, vs, ds, st, st1, st', hh, h => by
    cases vs with
    | nil => simp [takeK] at h
    | cons v vs =>
      cases v <;> simp only [takeK] at h
      case d x =>
        split at h
        · rename_i h2; cases h; obtain ⟨s', k1, k2⟩ := takeK_sim hh h2; exact ⟨s', by simp only [takeK, k1], k2⟩
        · cases h
      all_goals cases h
  | some (e, sz) :: ks, vs, ds, st, st1, st', hh, h => by
    cases vs with
    | nil => simp [takeK] at h
    | cons v vs =>
      simp only [takeK] at h
      split at h
      · split at h
        · rename_i h2; cases h; obtain ⟨s', k1, k2⟩ := takeK_sim hh h2; exact ⟨s', by simp only [takeK, k1], k2⟩
        · cases h
      · split at h
        · rename_i hr
          split at h
          · rename_i he
            split at h
            · rename_i h2
              cases h
              obtain ⟨s', k1, k2⟩ := takeK_sim (st' := { kill st' _ with h := hdel (killH _ st'.h) _ }) (by rw [hh]) h2
              exact ⟨s', by simp only [takeK, hh, hr, he, and_self, if_true]; rw [hh] at k1; simp only [k1], (sim_kill _ _ _ (by rw [hh])).trans k2⟩
            · cases h
          · cases h
        · cases h
      · cases h
theorem adds_sim : ∀ {xs : List (Nat × Blk)} {st st1 st' : St}, st'.h = st.h → adds st xs = some st1 → ∃ st1', adds st' xs = some st1' ∧ Sim st st1 st' st1'
  | [], st, st1, st', hh, h => by simp only [adds, Option.some.injEq] at h; subst h; exact ⟨st', rfl, .refl hh⟩
  | (n, b) :: r, st, st1, st', hh, h => by
    simp only [adds] at h
    split at h
    · cases h
    · rename_i hn
      obtain ⟨s', k1, k2⟩ := adds_sim (st' := { st' with h := st'.h ++ [(n, b)] }) (by rw [hh]) h
      exact ⟨s', by simp only [adds, hh, hn]; rw [hh] at k1; exact k1, (sim_h _ _ (by rw [hh])).trans k2⟩
end Go.Den

/- The same for calls, appends, stores. -/
namespace Go.Den
open Go
variable {C : Ctx} {st st' st1 st1' st2 st2' : St} {p : Path} {op : Op} {v : SV}

theorem given_sim : ∀ {ms : List Mode} {xs : List SV} {r : List (Option DV)} {st st1 st' : St}, st'.h = st.h → given st ms xs = some (r, st1) → ∃ st1', given st' ms xs = some (r, st1') ∧ Sim st st1 st' st1'
  | [], xs, r, st, st1, st', hh, h => by
    cases xs with
    | nil => simp only [given, Option.some.injEq, Prod.mk.injEq] at h; obtain ⟨rfl, rfl⟩ := h; exact ⟨st', rfl, .refl hh⟩
    | cons x xs => simp [given] at h
  | m :: ms, [], r, st, st1, st', hh, h => by cases m <;> simp [given] at h
  | m :: ms, x :: xs, r, st, st1, st', hh, h => by
    by_cases ho : ∃ ks, m = .own ks
    · obtain ⟨ks, rfl⟩ := ho
      simp only [given] at h
      split at h
      · rename_i ds sta h1
        split at h
        · rename_i r1 stb h2
          obtain ⟨sta', k1, k2⟩ := takeK_sim hh h1
          obtain ⟨stb', k3, k4⟩ := given_sim k2.h h2
          simp only [given, k1, k3]
          split at h
          · cases h; exact ⟨stb', rfl, k2.trans k4⟩
          · cases h
            refine ⟨stb', ?_, k2.trans k4⟩
            rename_i hna
            cases x <;> first | rfl | exact absurd rfl (hna _)
          · cases h
        · cases h
      · cases h
    · by_cases hp : (∃ ks, m = .ptr ks) ∧ ∃ n off, x = .ptr n off
      · obtain ⟨⟨ks, rfl⟩, n, off, rfl⟩ := hp
        simp only [given] at h
        split at h
        · rename_i cs hb
          split at h
          · rename_i hl
            split at h
            · rename_i ds sta h1
              split at h
              · rename_i r1 stb h2
                cases h
                obtain ⟨sta', k1, k2⟩ := takeK_sim (st' := { st' with h := hdel st'.h n }) (by rw [hh]) h1
                obtain ⟨stb', k3, k4⟩ := given_sim k2.h h2
                refine ⟨stb', ?_, ((sim_h (hdel st.h n) (hdel st'.h n) (by rw [hh])).trans k2).trans k4⟩
                simp only [given, hh, hb, if_pos hl]
                rw [hh] at k1
                simp only [k1, k3]
              · cases h
            · cases h
          · cases h
        · cases h
      · have eq : ∀ s : St, given s (m :: ms) (x :: xs) = match given s ms xs with | some (r, st2) => some (none :: r, st2) | none => none := fun s => by
          cases m with
          | own ks => exact absurd ⟨ks, rfl⟩ ho
          | ptr ks => cases x <;> first | rfl | exact absurd ⟨⟨_, rfl⟩, _, _, rfl⟩ hp
          | _ => rfl
        rw [eq] at h
        split at h
        · rename_i r1 stb h2
          cases h
          obtain ⟨stb', k3, k4⟩ := given_sim hh h2
          exact ⟨stb', by rw [eq, k3], k4⟩
        · cases h
theorem lent_h (hh : st'.h = st.h) : ∀ (ms : List Mode) (xs : List SV) (r : List (Option DV)), lent st' ms xs r = lent st ms xs r
  | [], xs, r => by cases xs <;> cases r <;> rfl
  | m :: ms, [], r => by cases r <;> rfl
  | m :: ms, x :: xs, [] => rfl
  | m :: ms, x :: xs, none :: r => by simp only [lent, argOf_h hh, lent_h hh ms xs r]
  | m :: ms, x :: xs, some d :: r => by simp only [lent, lent_h hh ms xs r]
theorem backs_sim {h0 : List (Nat × Blk)} {ns sus : List Nat} : ∀ {ms : List Mode} {xs : List SV} {os : List (List D)} {st st1 st' : St}, st'.h = st.h → backs h0 ns sus st ms xs os = some st1 → ∃ st1', backs h0 ns sus st' ms xs os = some st1' ∧ Sim st st1 st' st1'
  | [], xs, os, st, st1, st', hh, h => by
    cases xs <;> cases os <;> simp [backs] at h
    subst h
    exact ⟨st', rfl, .refl hh⟩
  | m :: ms, [], os, st, st1, st', hh, h => by cases m <;> cases os <;> simp [backs] at h
  | m :: ms, x :: xs, os, st, st1, st', hh, h => by
    by_cases hp : ∃ ks, m = .ptr ks
    · obtain ⟨ks, rfl⟩ := hp
      by_cases hx : ∃ n off, x = .ptr n off
      · obtain ⟨n, off, rfl⟩ := hx
        cases os with
        | nil => simp [backs] at h
        | cons o os =>
          simp only [backs] at h
          split at h
          · rename_i cs hb
            split at h
            · rename_i hl
              split at h
              · rename_i ws new hy
                split at h
                · rename_i hf
                  split at h
                  · rename_i sta ha
                    obtain ⟨sta', k1, k2⟩ := adds_sim hh ha
                    obtain ⟨stb', k3, k4⟩ := backs_sim k2.h h
                    exact ⟨stb', by simp only [backs, hb, if_pos hl, hy, hf, k1, if_true]; exact k3, k2.trans k4⟩
                  · cases h
                · cases h
              · cases h
            · cases h
          · cases h
      · cases x <;> first | exact absurd ⟨_, _, rfl⟩ hx | (simp [backs] at h)
    · have hio : ¬ ∃ ks, m = .io ks := fun ⟨ks, e⟩ => by subst e; simp [backs] at h
      have eq : ∀ s : St, backs h0 ns sus s (m :: ms) (x :: xs) os = backs h0 ns sus s ms xs os := fun s => by
        cases m with
        | ptr ks => exact absurd ⟨ks, rfl⟩ hp
        | io ks => exact absurd ⟨ks, rfl⟩ hio
        | _ => cases os <;> rfl
      rw [eq] at h
      obtain ⟨s', k1, k2⟩ := backs_sim hh h
      exact ⟨s', by rw [eq, k1], k2⟩
theorem callFn_sim {s f : Nat} {b : Bool} {xs : List SV} (hh : st'.h = st.h) (h : callFn C st s f xs = some (b, v, st1)) : ∃ st1', callFn C st' s f xs = some (b, v, st1') ∧ Sim st st1 st' st1' := by
  unfold callFn at h
  split at h
  · rename_i hio
    obtain ⟨h2, _, rfl, _⟩ := callIo_st h
    exact ⟨{ st' with h := h2 }, by unfold callFn; rw [if_pos hio]; exact callIo_h hh h, sim_h _ _ rfl⟩
  rename_i hio
  split at h
  · rename_i r sta h1
    obtain ⟨sta', a1, a2⟩ := given_sim hh h1
    split at h
    · rename_i ds h2
      split at h
      · rename_i ok rs outs h3
        split at h
        · rename_i stb h4
          obtain ⟨stb', b1, b2⟩ := backs_sim a2.h h4
          have hl := lent_h a2.h (C.sig f).ms xs r
          split at h
          · rename_i hr; cases h; exact ⟨stb', by simp only [callFn, if_neg hio, a1, hl, h2, h3, hh, a2.h, b1, hr], a2.trans b2⟩
          · rename_i hr
            split at h
            · rename_i ht
              split at h
              · rename_i ha
                cases h
                obtain ⟨c', c1, c2⟩ := adds_sim b2.h ha
                exact ⟨c', by simp only [callFn, if_neg hio, a1, hl, h2, h3, hh, a2.h, b1, hr, ht, c1], (a2.trans b2).trans c2⟩
              · cases h
            · cases h
          · rename_i hr
            split at h
            · rename_i bb hlb
              split at h
              · rename_i hin
                cases h
                exact ⟨stb', by simp only [callFn, if_neg hio, a1, hl, h2, h3, hh, a2.h, b1, hr, hlb, hin, if_true], a2.trans b2⟩
              · rename_i hin
                split at h
                · rename_i ht
                  split at h
                  · rename_i ha
                    cases h
                    obtain ⟨c', c1, c2⟩ := adds_sim b2.h ha
                    exact ⟨c', by simp only [callFn, if_neg hio, a1, hl, h2, h3, hh, a2.h, b1, hr, hlb, if_neg hin, ht, c1], (a2.trans b2).trans c2⟩
                  · cases h
                · cases h
            · cases h
          · rename_i hr
            split at h
            · rename_i ht
              split at h
              · rename_i ha
                cases h
                obtain ⟨c', c1, c2⟩ := adds_sim b2.h ha
                exact ⟨c', by simp only [callFn, if_neg hio, a1, hl, h2, h3, hh, a2.h, b1, hr, ht, c1], (a2.trans b2).trans c2⟩
              · cases h
            · cases h
          · cases h
        · cases h
    · cases h
  · cases h
end Go.Den

/- heavy_sim. -/
namespace Go.Den
open Go
variable {C : Ctx} {st st' st1 st1' st2 st2' : St} {p : Path} {op : Op} {v : SV}

theorem gt_kills (C : Ctx) (p : Path) (t : Nat) : ∀ (ns : List Nat) (m m' : List SV) (l l' : List (Nat × Path × Bool × SV)) (h h' k k' : List (Nat × Blk)), gt C ⟨m', l', h'⟩ p t = gt C ⟨m, l, h⟩ p t → gt C ⟨killsM ns m', killsL ns l', k'⟩ p t = gt C ⟨killsM ns m, killsL ns l, k⟩ p t
  | [], m, m', l, l', h, h', k, k', e => e
  | n :: ns, m, m', l, l', h, h', k, k', e => by
    have one : ∀ (m : List SV) (l : List (Nat × Path × Bool × SV)) (h k : List (Nat × Blk)), gt C ⟨killM n m, killL n l, k⟩ p t = killV n (gt C ⟨m, l, h⟩ p t) := fun m l h k => by
      unfold gt
      simp only [lk_killL, lkm_killM]
      cases lk l t with
      | none => rfl
      | some e =>
        obtain ⟨q, c, x⟩ := e
        simp only [Option.map_some]
        split <;> rfl
    exact gt_kills C p t ns _ _ _ _ h h' k k' (by rw [one m' l' h' h', one m l h h, e])
theorem gt_sim {t : Nat} (A : Sim st st1 st' st1') (e : gt C st' p t = gt C st p t) : gt C st1' p t = gt C st1 p t := by
  obtain ⟨ns, a1, a2, a3, a4, _⟩ := A
  have := gt_kills C p t ns st.m st'.m st.l st'.l st.h st'.h st1.h st1'.h e
  rw [← a1, ← a2, ← a3, ← a4] at this
  exact this
theorem ev_of {x : Operand} (hA : ∀ t, x = .tmp t → gt C st' p t = gt C st p t) : ev C st' p x = ev C st p x := by
  cases x with
  | tmp t => exact hA t rfl
  | _ => rfl
theorem source_sim {zs : List D} {x : SV} {ok : Bool} {ys : List (List D)} (hh : st'.h = st.h) (h : source zs st x = some (ok, ys, st1)) : ∃ st1', source zs st' x = some (ok, ys, st1') ∧ Sim st st1 st' st1' := by
  unfold source at h
  split at h
  · rename_i n
    split at h
    · rename_i hr
      split at h
      · rename_i hs
        split at h
        · rename_i hf; cases h; exact ⟨st', by simp only [source, hh, hr, if_pos hs, if_pos hf], .refl hh⟩
        · rename_i hf; cases h; exact ⟨{ kill st' n with h := hdel (killH n st'.h) n }, by simp only [source, hh, hr, if_pos hs, if_neg hf], sim_kill _ _ _ (by rw [hh])⟩
      · cases h
    · cases h
  · split at h
    · rename_i hf; cases h; exact ⟨st', by simp only [source, if_pos hf], .refl hh⟩
    · cases h
  · cases h; exact ⟨st', rfl, .refl hh⟩
  · cases h
theorem rowsOf_sim {sz : Nat} : ∀ {parts : List (Nat × Operand)} {k : Nat} {rows : List (List D)} {st st1 st' : St}, st'.h = st.h → (∀ q ∈ parts, ∀ t, q.2 = .tmp t → gt C st' [] t = gt C st [] t) → rowsOf C sz parts k st = some (rows, st1) → ∃ st1', rowsOf C sz parts k st' = some (rows, st1') ∧ Sim st st1 st' st1'
  | [], k, rows, st, st1, st', hh, hA, h => by simp only [rowsOf, Option.some.injEq, Prod.mk.injEq] at h; obtain ⟨rfl, rfl⟩ := h; exact ⟨st', rfl, .refl hh⟩
  | (i, x) :: r, k, rows, st, st1, st', hh, hA, h => by
    simp only [rowsOf] at h
    split at h
    · rename_i hi
      split at h
      · rename_i c sta h1
        split at h
        · rename_i hc
          split at h
          · rename_i cs stb h2
            cases h
            obtain ⟨sta', k1, k2⟩ := takes_sim hh h1
            obtain ⟨stb', k3, k4⟩ := rowsOf_sim k2.h (fun q hq t ht => gt_sim k2 (hA q (by simp [hq]) t ht)) h2
            refine ⟨stb', ?_, k2.trans k4⟩
            simp only [rowsOf, if_pos hi]
            rw [ev_of (hA (i, x) (by simp)), k1]
            simp only [if_pos hc, k3]
          · cases h
        · cases h
      · cases h
    · cases h
theorem store_sim {t : TypeId} {p x : SV} {b : Bool} (hh : st'.h = st.h) (h : store C st t p x = some (b, st1)) : ∃ st1', store C st' t p x = some (b, st1') ∧ Sim st st1 st' st1' := by
  unfold store at h
  split at h
  · rename_i hf
    split at h
    · rename_i n off
      split at h
      · rename_i cs hb
        split at h
        · rename_i hl
          cases h
          exact ⟨{ st' with h := hset st'.h n (.box (setRange cs off (cellsOf x))) }, by simp only [store, if_pos hf, hh, hb, if_pos hl], sim_h _ _ (by rw [hh])⟩
        · cases h
      · cases h
    · rename_i n i off
      split at h
      · rename_i xs sta h1
        split at h
        · rename_i e sz rs hb
          cases h
          obtain ⟨sta', k1, k2⟩ := takes_sim hh h1
          exact ⟨{ sta' with h := hset sta'.h n (.row e sz (rs.modify i fun r => r.take off ++ xs ++ r.drop (off + xs.length))) }, by simp only [store, if_pos hf, k1, k2.h, hb], k2.trans (sim_h _ _ (by rw [k2.h]))⟩
        · cases h
      · cases h
    · cases h
  · cases h
theorem cut_sim {el n : Nat} {ok : List (List D) → Bool} {f : List (List D) → List (List D)} {b : Bool} (hh : st'.h = st.h) (h : cut C st el n ok f = some (b, v, st1)) : ∃ st1', cut C st' el n ok f = some (b, v, st1') ∧ Sim st st1 st' st1' := by
  unfold cut at h
  split at h
  · rename_i zs e sz xs hz hr
    split at h
    · rename_i hs
      cases h
      exact ⟨{ kill st' n with h := hset (killH n st'.h) n (.row e sz (f xs)) }, by simp only [cut, hz, hh, hr, if_pos hs], sim_kill _ _ _ (by rw [hh])⟩
    · cases h
  · cases h

theorem adds_map_sim {xs : List (Nat × Blk)} {x : Bool × SV} {r : Bool × SV × St} (hh : st'.h = st.h) (h : ((adds st xs).map fun st2 => (x.1, x.2, st2)) = some r) : ∃ st2 st2', r = (x.1, x.2, st2) ∧ adds st xs = some st2 ∧ adds st' xs = some st2' ∧ Sim st st2 st' st2' := by
  rw [Option.map_eq_some_iff] at h
  obtain ⟨st2, h1, h2⟩ := h
  obtain ⟨st2', k1, k2⟩ := adds_sim hh h1
  exact ⟨st2, st2', h2.symm, h1, k1, k2⟩
theorem heavy_sim {s : Nat} {b : Bool} (hh : st'.h = st.h) (hA : ∀ t, Operand.tmp t ∈ op.operands.toList → gt C st' [] t = gt C st [] t) (h : heavy C st s op = some (b, v, st1)) : ∃ st1', heavy C st' s op = some (b, v, st1') ∧ Sim st st1 st' st1' := by
  have hev : ∀ x ∈ op.operands.toList, ev C st' [] x = ev C st [] x := fun x hx => ev_of fun t ht => hA t (ht ▸ hx)
  cases op
  case alloc t =>
    simp only [heavy] at h
    split at h
    · rename_i zs hz
      obtain ⟨st2, st2', e, _, k1, k2⟩ := adds_map_sim (x := (true, .ptr (nm s 0) 0)) hh h
      cases e
      exact ⟨st2', by simp only [heavy, hz, k1, Option.map_some], k2⟩
    · cases h
  case box t x =>
    have hx := hev x (by simp [Op.operands])
    simp only [heavy] at h
    split at h
    · rename_i hf
      obtain ⟨st2, st2', e, _, k1, k2⟩ := adds_map_sim (x := (true, .ptr (nm s 0) 0)) hh h
      cases e
      exact ⟨st2', by simp only [heavy, hx, if_pos hf, k1, Option.map_some], k2⟩
    · cases h
  case buildSlice t n parts =>
    simp only [heavy] at h
    split at h
    · rename_i el ht
      split at h
      · rename_i zs hz
        split at h
        · rename_i rows sta hr
          split at h
          · rename_i hn
            obtain ⟨sta', a1, a2⟩ := rowsOf_sim hh (fun q hq t ht => hA t (by simp only [Op.operands, List.mem_map]; exact ⟨q, hq, ht⟩)) hr
            obtain ⟨st2, st2', e, _, k1, k2⟩ := adds_map_sim (x := (true, .own (nm s 0))) a2.h h
            cases e
            exact ⟨st2', by simp only [heavy, ht, hz, a1, if_pos hn, k1, Option.map_some], a2.trans k2⟩
          · cases h
        · cases h
      · cases h
    · cases h
  case makeSlice t x y =>
    have hx := hev x (by simp [Op.operands])
    have hy := hev y (by simp [Op.operands])
    simp only [heavy] at h
    split at h
    · rename_i el kx k ky k' ht h1 h2
      split at h
      · rename_i hsm
        split at h
        · rename_i zs hz
          obtain ⟨st2, st2', e, _, k1, k2⟩ := adds_map_sim (x := (decide (0 ≤ k ∧ k ≤ lim ∧ k' = k), .own (nm s 0))) hh h
          cases e
          exact ⟨st2', by simp only [heavy, ht, hx, hy, h1, h2, if_pos hsm, hz, k1, Option.map_some], k2⟩
        · cases h
      · cases h
    · cases h
  case store t p x =>
    simp only [heavy] at h
    rw [Option.map_eq_some_iff] at h
    obtain ⟨⟨b2, st2⟩, h1, h2⟩ := h
    cases h2
    obtain ⟨st2', k1, k2⟩ := store_sim hh h1
    exact ⟨st2', by simp only [heavy, hev p (by simp [Op.operands]), hev x (by simp [Op.operands]), k1, Option.map_some], k2⟩
  case slice t x lo hi mx =>
    have hx := hev x (by simp [Op.operands])
    have m1 : lo.map (ev C st' []) = lo.map (ev C st []) := by cases lo with | none => rfl | some y => simp [hev y (by simp [Op.operands])]
    have m2 : hi.map (ev C st' []) = hi.map (ev C st []) := by cases hi with | none => rfl | some y => simp [hev y (by simp [Op.operands])]
    have m3 : mx.map (ev C st' []) = mx.map (ev C st []) := by cases mx with | none => rfl | some y => simp [hev y (by simp [Op.operands])]
    simp only [heavy] at h ⊢
    rw [hx, m1, m2, m3]
    split at h
    · rename_i h1 h2 h3 h4 h5
      obtain ⟨s', k1, k2⟩ := cut_sim hh h
      exact ⟨s', by simp only [h1, h2, h3, h4, h5, k1], k2⟩
    · rename_i h1 h2 h3 h4 h5
      obtain ⟨s', k1, k2⟩ := cut_sim hh h
      exact ⟨s', by simp only [h1, h2, h3, h4, h5, k1], k2⟩
    · rename_i h1 h2 h3 h4 h5
      obtain ⟨s', k1, k2⟩ := cut_sim hh h
      exact ⟨s', by simp only [h1, h2, h3, h4, h5, k1], k2⟩
    · cases h
  case call c =>
    obtain ⟨callee, args, ts⟩ := c
    have he : evs C st' [] args.toList = evs C st [] args.toList := evs_congr fun x hx => hev x (by simp [Op.operands, Call.operands]; cases callee <;> simp <;> first | exact .inr (by simpa using hx) | simpa using hx)
    simp only [heavy] at h ⊢
    split at h
    · rw [he]
      split at h
      · rename_i t t' x y hts hxy
        split at h
        · rename_i el el' ht ht'
          split at h
          · rename_i hsm
            split at h
            · rename_i zs hz
              split at h
              · rename_i ok ys sta hs
                obtain ⟨sta', a1, a2⟩ := source_sim hh hs
                split at h
                · rename_i n
                  split at h
                  · rename_i e sz xs hr
                    split at h
                    · rename_i hes
                      cases h
                      exact ⟨{ kill sta' n with h := hset (killH n sta'.h) n (.row e sz (xs ++ ys)) }, by simp only [hts, hxy, ht, ht', if_pos hsm, hz, a1, a2.h, hr, if_pos hes], a2.trans (sim_kill _ _ _ (by rw [a2.h]))⟩
                    · cases h
                  · cases h
                · obtain ⟨st2, st2', e, _, k1, k2⟩ := adds_map_sim (x := (ok && decide (ys.length ≤ lim), .own (nm s 0))) a2.h h
                  cases e
                  exact ⟨st2', by simp only [hts, hxy, ht, ht', if_pos hsm, hz, a1, k1, Option.map_some], a2.trans k2⟩
                · cases h
              · cases h
            · cases h
          · cases h
        · cases h
      · cases h
    · rw [he]
      obtain ⟨s', k1, k2⟩ := callFn_sim hh h
      exact ⟨s', by simp only [k1], k2⟩
    · cases h
  all_goals (simp [heavy] at h)
end Go.Den

/- What a heavy operation does not touch; what a light one looks at. -/
namespace Go.Den
open Go
variable {C : Ctx} {st st' st1 st2 : St} {p : Path} {op : Op} {v : SV} {hs : List Nat}

def killsB : List Nat → Blk → Blk | [], b => b | n :: ns, b => killsB ns (killB n b)
theorem killsB_append : ∀ (a c : List Nat) (b : Blk), killsB (a ++ c) b = killsB c (killsB a b)
  | [], c, b => rfl
  | n :: a, c, b => by simp only [List.cons_append, killsB, killsB_append a c]
/-- All but hs is as it was, up to what was given away. -/
def Frm (hs : List Nat) (st st1 : St) : Prop := ∃ ns, (∀ n ∈ ns, n ∈ hs) ∧ st1.m = killsM ns st.m ∧ st1.l = killsL ns st.l ∧ ∀ n b, hlk st.h n = some b → n ∉ hs → hlk st1.h n = some (killsB ns b)
theorem Frm.refl (hs : List Nat) (st : St) : Frm hs st st := ⟨[], fun n h => by simp at h, rfl, rfl, fun n b h _ => h⟩
theorem Frm.trans (A : Frm hs st st1) (B : Frm hs st1 st2) : Frm hs st st2 := by
  obtain ⟨a, a1, a2, a3, a4⟩ := A
  obtain ⟨b, b1, b2, b3, b4⟩ := B
  refine ⟨a ++ b, fun n h => by rcases List.mem_append.1 h with h | h; exact a1 n h; exact b1 n h, by rw [killsM_append, ← a2, b2], by rw [killsL_append, ← a3, b3], fun n x h hn => ?_⟩
  rw [killsB_append]
  exact b4 n _ (a4 n x h hn) hn
theorem ne_hs {n k : Nat} (hk : k ∉ hs) (hn : n ∈ hs) : ¬ k = n := fun e => hk (by rw [e]; exact hn)
theorem frm_del {n : Nat} (hn : n ∈ hs) : Frm hs st { kill st n with h := hdel (killH n st.h) n } := ⟨[n], fun k hk => by simp at hk; subst hk; exact hn, rfl, rfl, fun k b h hk => by
  show hlk (hdel (killH n st.h) n) k = _
  rw [hlk_hdel, if_neg (ne_hs hk hn), hlk_killH, h]; rfl⟩
theorem frm_set {n : Nat} (hn : n ∈ hs) (x : Blk) : Frm hs st { kill st n with h := hset (killH n st.h) n x } := ⟨[n], fun k hk => by simp at hk; subst hk; exact hn, rfl, rfl, fun k b h hk => by
  show hlk (hset (killH n st.h) n x) k = _
  rw [hlk_hset, if_neg (ne_hs hk hn), hlk_killH, h]; rfl⟩
theorem frm_put {n : Nat} (hn : n ∈ hs) (x : Blk) : Frm hs st { st with h := hset st.h n x } := ⟨[], fun k hk => by simp at hk, rfl, rfl, fun k b h hk => by
  show hlk (hset st.h n x) k = _
  rw [hlk_hset, if_neg (ne_hs hk hn), h]; rfl⟩
theorem frm_drop {n : Nat} (hn : n ∈ hs) : Frm hs st { st with h := hdel st.h n } := ⟨[], fun k hk => by simp at hk, rfl, rfl, fun k b h hk => by
  show hlk (hdel st.h n) k = _
  rw [hlk_hdel, if_neg (ne_hs hk hn), h]; rfl⟩
theorem frm_adds : ∀ {xs : List (Nat × Blk)} {st st1 : St}, adds st xs = some st1 → Frm hs st st1
  | [], st, st1, h => by simp only [adds, Option.some.injEq] at h; subst h; exact .refl _ _
  | (n, b) :: r, st, st1, h => by
    simp only [adds] at h
    split at h
    · cases h
    · have h1 : Frm hs st { st with h := st.h ++ [(n, b)] } := ⟨[], fun k hk => by simp at hk, rfl, rfl, fun k x hx _ => by
        show hlk (st.h ++ [(n, b)]) k = _
        rw [hlk_append, hx]; rfl⟩
      exact h1.trans (frm_adds h)
theorem frm_adds_map {xs : List (Nat × Blk)} {x : Bool × SV} {r : Bool × SV × St} (h : ((adds st xs).map fun st2 => (x.1, x.2, st2)) = some r) : Frm hs st r.2.2 := by
  rw [Option.map_eq_some_iff] at h
  obtain ⟨st2, h1, h2⟩ := h
  cases h2
  exact frm_adds h1

theorem frm_take1 {x : SV} {d : D} (hx : ∀ n ∈ ownC x, n ∈ hs) (h : take1 st x = some (d, st1)) : Frm hs st st1 := by
  unfold take1 at h
  split at h
  · split at h
    · cases h; exact .refl _ _
    · cases h
  · cases h; exact .refl _ _
  · rename_i n
    split at h
    · cases h; exact frm_del (hx n (by simp [ownC]))
    · cases h
  · cases h
theorem frm_takes : ∀ {vs : List SV} {ds : List D} {st st1 : St}, (∀ n ∈ ownCs vs, n ∈ hs) → takes st vs = some (ds, st1) → Frm hs st st1
  | [], ds, st, st1, _, h => by simp only [takes, Option.some.injEq, Prod.mk.injEq] at h; obtain ⟨rfl, rfl⟩ := h; exact .refl _ _
  | v :: vs, ds, st, st1, hv, h => by
    simp only [takes] at h
    split at h
    · rename_i h1
      split at h
      · rename_i h2
        cases h
        exact (frm_take1 (fun n hn => hv n (by simp [ownCs, hn])) h1).trans (frm_takes (fun n hn => hv n (by simp [ownCs, hn])) h2)
      · cases h
    · cases h
theorem frm_takeK : ∀ {ks : List (Option (Nat × Nat))} {vs : List SV} {ds : List D} {st st1 : St}, (∀ n ∈ ownCs vs, n ∈ hs) → takeK st ks vs = some (ds, st1) → Frm hs st st1
  | [], vs, ds, st, st1, _, h => by
    cases vs with
    | nil => simp only [takeK, Option.some.injEq, Prod.mk.injEq] at h; obtain ⟨rfl, rfl⟩ := h; exact .refl _ _
    | cons v vs => simp [takeK] at h
  | none :: ks, vs, ds, st, st1, hv, h => by
    cases vs with
    | nil => simp [takeK] at h
    | cons v vs =>
      cases v <;> simp only [takeK] at h
      case d x =>
        split at h
        · rename_i h2; cases h; exact frm_takeK (fun n hn => hv n (by simp [ownCs, hn])) h2
        · cases h
      all_goals cases h
  | some (e, sz) :: ks, vs, ds, st, st1, hv, h => by
    cases vs with
    | nil => simp [takeK] at h
    | cons v vs =>
      have hv' : ∀ n ∈ ownCs vs, n ∈ hs := fun n hn => hv n (by simp [ownCs, hn])
      simp only [takeK] at h
      split at h
      · split at h
        · rename_i h2; cases h; exact frm_takeK hv' h2
        · cases h
      · split at h
        · split at h
          · split at h
            · rename_i h2
              cases h
              exact (frm_del (hv _ (by simp [ownCs, ownC]))).trans (frm_takeK hv' h2)
            · cases h
          · cases h
        · cases h
      · cases h
/-- Boxes hold no more own rows than they did. -/
def Shr (st st1 : St) : Prop := ∀ n cs, hlk st1.h n = some (.box cs) → ∃ cs0, hlk st.h n = some (.box cs0) ∧ ∀ k ∈ ownCs cs, k ∈ ownCs cs0
theorem Shr.refl (st : St) : Shr st st := fun n cs h => ⟨cs, h, fun k hk => hk⟩
theorem Shr.trans (A : Shr st st1) (B : Shr st1 st2) : Shr st st2 := fun n cs h => by
  obtain ⟨c1, h1, h2⟩ := B n cs h
  obtain ⟨c2, h3, h4⟩ := A n c1 h1
  exact ⟨c2, h3, fun k hk => h4 k (h2 k hk)⟩
theorem own_killC {k n : Nat} {v : SV} (h : k ∈ ownC (killC n v)) : k ∈ ownC v := by
  cases v <;> simp only [killC] at h <;> first | exact h | (split at h <;> first | exact h | (simp [ownC] at h))
theorem own_killCs {k n : Nat} : ∀ {cs : List SV}, k ∈ ownCs (killCs n cs) → k ∈ ownCs cs
  | [], h => h
  | c :: cs, h => by
    simp only [killCs, ownCs, List.mem_append] at h ⊢
    rcases h with h | h
    · exact .inl (own_killC h)
    · exact .inr (own_killCs h)
theorem shr_del (n : Nat) : Shr st { kill st n with h := hdel (killH n st.h) n } := fun k cs h => by
  have h' : hlk (hdel (killH n st.h) n) k = some (.box cs) := h
  rw [hlk_hdel] at h'
  split at h'
  · cases h'
  · rw [hlk_killH, Option.map_eq_some_iff] at h'
    obtain ⟨b, h1, h2⟩ := h'
    cases b with
    | row e sz xs => cases h2
    | box cs0 => simp only [killB, Blk.box.injEq] at h2; subst h2; exact ⟨cs0, h1, fun k hk => own_killCs hk⟩
theorem shr_drop (n : Nat) : Shr st { st with h := hdel st.h n } := fun k cs h => by
  have h' : hlk (hdel st.h n) k = some (.box cs) := h
  rw [hlk_hdel] at h'
  split at h'
  · cases h'
  · exact ⟨cs, h', fun k hk => hk⟩
theorem shr_takeK : ∀ {ks : List (Option (Nat × Nat))} {vs : List SV} {ds : List D} {st st1 : St}, takeK st ks vs = some (ds, st1) → Shr st st1
  | [], vs, ds, st, st1, h => by
    cases vs with
    | nil => simp only [takeK, Option.some.injEq, Prod.mk.injEq] at h; obtain ⟨rfl, rfl⟩ := h; exact .refl _
    | cons v vs => simp [takeK] at h
  | none :: ks, vs, ds, st, st1, h => by
    cases vs with
    | nil => simp [takeK] at h
    | cons v vs =>
      cases v <;> simp only [takeK] at h
      case d x =>
        split at h
        · rename_i h2; cases h; exact shr_takeK h2
        · cases h
      all_goals cases h
  | some (e, sz) :: ks, vs, ds, st, st1, h => by
    cases vs with
    | nil => simp [takeK] at h
    | cons v vs =>
      simp only [takeK] at h
      split at h
      · split at h
        · rename_i h2; cases h; exact shr_takeK h2
        · cases h
      · split at h
        · split at h
          · split at h
            · rename_i h2; cases h; exact (shr_del _).trans (shr_takeK h2)
            · cases h
          · cases h
        · cases h
      · cases h
theorem own_drop {k : Nat} : ∀ {cs : List SV} {n : Nat}, k ∈ ownCs (cs.drop n) → k ∈ ownCs cs
  | [], n, h => by simpa using h
  | c :: cs, 0, h => h
  | c :: cs, n + 1, h => by simp only [List.drop_succ_cons] at h; simp only [ownCs, List.mem_append]; exact .inr (own_drop h)
theorem own_take {k : Nat} : ∀ {cs : List SV} {n : Nat}, k ∈ ownCs (cs.take n) → k ∈ ownCs cs
  | [], n, h => by simpa using h
  | c :: cs, 0, h => by simp [ownCs] at h
  | c :: cs, n + 1, h => by
    simp only [List.take_succ_cons, ownCs, List.mem_append] at h ⊢
    rcases h with h | h
    · exact .inl h
    · exact .inr (own_take h)
/-- Whoever is handed over is among what may be touched. -/
def HitsIn (hs : List Nat) (st : St) : List Mode → List SV → Prop
  | .own _ :: ms, v :: vs => (∀ n ∈ ownCs (cellsOf v), n ∈ hs) ∧ HitsIn hs st ms vs
  | .io _ :: ms, v :: vs => (∀ n ∈ ownCs (cellsOf v), n ∈ hs) ∧ HitsIn hs st ms vs
  | .ptr _ :: ms, .ptr n _ :: vs => n ∈ hs ∧ (∀ cs, hlk st.h n = some (.box cs) → ∀ k ∈ ownCs cs, k ∈ hs) ∧ HitsIn hs st ms vs
  | _ :: ms, _ :: vs => HitsIn hs st ms vs
  | _, _ => True
theorem hitsIn_of : ∀ {ms : List Mode} {vs : List SV}, (∀ n ∈ hitsCall st ms vs, n ∈ hs) → HitsIn hs st ms vs
  | [], vs, _ => by cases vs <;> trivial
  | m :: ms, [], _ => by cases m <;> trivial
  | m :: ms, v :: vs, h => by
    cases m with
    | own ks => simp only [hitsCall, List.mem_append] at h; exact ⟨fun n hn => h n (.inl hn), hitsIn_of fun n hn => h n (.inr hn)⟩
    | io ks => simp only [hitsCall, List.mem_append] at h; exact ⟨fun n hn => h n (.inl hn), hitsIn_of fun n hn => h n (.inr hn)⟩
    | ptr ks =>
      cases v with
      | ptr n off =>
        simp only [hitsCall, List.mem_cons, List.mem_append] at h
        refine ⟨h n (.inl rfl), fun cs hc k hk => h k (.inr (.inl ?_)), hitsIn_of fun k hk => h k (.inr (.inr hk))⟩
        rw [hc]; exact hk
      | _ => exact hitsIn_of (ms := ms) (vs := vs) h
    | bor => exact hitsIn_of (ms := ms) (vs := vs) (by cases v <;> exact h)
    | rptr sz => exact hitsIn_of (ms := ms) (vs := vs) (by cases v <;> exact h)
theorem HitsIn.shr (S : Shr st st1) : ∀ {ms : List Mode} {vs : List SV}, HitsIn hs st ms vs → HitsIn hs st1 ms vs
  | [], vs, _ => by cases vs <;> trivial
  | m :: ms, [], _ => by cases m <;> trivial
  | m :: ms, v :: vs, h => by
    cases m with
    | own ks => exact ⟨h.1, HitsIn.shr S h.2⟩
    | io ks => exact ⟨h.1, HitsIn.shr S h.2⟩
    | ptr ks =>
      cases v with
      | ptr n off =>
        refine ⟨h.1, fun cs hc k hk => ?_, HitsIn.shr S h.2.2⟩
        obtain ⟨c0, h1, h2⟩ := S n cs hc
        exact h.2.1 c0 h1 k (h2 k hk)
      | _ => exact HitsIn.shr S (ms := ms) (vs := vs) h
    | bor => exact HitsIn.shr S (ms := ms) (vs := vs) (by cases v <;> exact h)
    | rptr sz => exact HitsIn.shr S (ms := ms) (vs := vs) (by cases v <;> exact h)
theorem given_eq {m : Mode} {ms : List Mode} {x : SV} {xs : List SV} (ho : ¬ ∃ ks, m = .own ks) (hp : ¬ ((∃ ks, m = .ptr ks) ∧ ∃ n off, x = .ptr n off)) (s : St) : given s (m :: ms) (x :: xs) = match given s ms xs with | some (r, st2) => some (none :: r, st2) | none => none := by
  cases m with
  | own ks => exact absurd ⟨ks, rfl⟩ ho
  | ptr ks => cases x <;> first | rfl | exact absurd ⟨⟨_, rfl⟩, _, _, rfl⟩ hp
  | _ => rfl
theorem frm_given : ∀ {ms : List Mode} {xs : List SV} {r : List (Option DV)} {st st1 : St}, HitsIn hs st ms xs → given st ms xs = some (r, st1) → Frm hs st st1
  | [], xs, r, st, st1, _, h => by
    cases xs with
    | nil => simp only [given, Option.some.injEq, Prod.mk.injEq] at h; obtain ⟨rfl, rfl⟩ := h; exact .refl _ _
    | cons x xs => simp [given] at h
  | m :: ms, [], r, st, st1, _, h => by cases m <;> simp [given] at h
  | m :: ms, x :: xs, r, st, st1, hh, h => by
    by_cases ho : ∃ ks, m = .own ks
    · obtain ⟨ks, rfl⟩ := ho
      simp only [given] at h
      split at h
      · rename_i h1
        split at h
        · rename_i h2
          have a1 := frm_takeK hh.1 h1
          have a2 := frm_given (hh.2.shr (shr_takeK h1)) h2
          split at h
          · cases h; exact a1.trans a2
          · cases h; exact a1.trans a2
          · cases h
        · cases h
      · cases h
    · by_cases hp : (∃ ks, m = .ptr ks) ∧ ∃ n off, x = .ptr n off
      · obtain ⟨⟨ks, rfl⟩, n, off, rfl⟩ := hp
        simp only [given] at h
        split at h
        · rename_i cs hb
          split at h
          · split at h
            · rename_i h1
              split at h
              · rename_i h2
                cases h
                have a0 : Frm hs st { st with h := hdel st.h n } := frm_drop hh.1
                have a1 := frm_takeK (hs := hs) (fun k hk => hh.2.1 cs hb k (own_drop (own_take hk))) h1
                have a2 := frm_given (hh.2.2.shr ((shr_drop n).trans (shr_takeK h1))) h2
                exact (a0.trans a1).trans a2
              · cases h
            · cases h
          · cases h
        · cases h
      · rw [given_eq ho hp] at h
        split at h
        · rename_i h2
          cases h
          refine frm_given ?_ h2
          cases m with
          | own ks => exact absurd ⟨ks, rfl⟩ ho
          | ptr ks => cases x <;> first | exact hh | exact absurd ⟨⟨_, rfl⟩, _, _, rfl⟩ hp
          | bor => cases x <;> exact hh
          | rptr sz => cases x <;> exact hh
          | io ks => cases x <;> exact hh.2
        · cases h
theorem frm_backs {h0 : List (Nat × Blk)} {ns sus : List Nat} : ∀ {ms : List Mode} {xs : List SV} {os : List (List D)} {st st1 : St}, backs h0 ns sus st ms xs os = some st1 → Frm hs st st1
  | [], xs, os, st, st1, h => by
    cases xs <;> cases os <;> simp [backs] at h
    subst h
    exact .refl _ _
  | m :: ms, [], os, st, st1, h => by cases m <;> cases os <;> simp [backs] at h
  | m :: ms, x :: xs, os, st, st1, h => by
    by_cases hp : ∃ ks, m = .ptr ks
    · obtain ⟨ks, rfl⟩ := hp
      by_cases hx : ∃ n off, x = .ptr n off
      · obtain ⟨n, off, rfl⟩ := hx
        cases os with
        | nil => simp [backs] at h
        | cons o os =>
          simp only [backs] at h
          split at h
          · split at h
            · split at h
              · split at h
                · split at h
                  · rename_i ha; exact (frm_adds ha).trans (frm_backs h)
                  · cases h
                · cases h
              · cases h
            · cases h
          · cases h
      · cases x <;> first | exact absurd ⟨_, _, rfl⟩ hx | (simp [backs] at h)
    · have hio : ¬ ∃ ks, m = .io ks := fun ⟨ks, e⟩ => by subst e; simp [backs] at h
      have eq : backs h0 ns sus st (m :: ms) (x :: xs) os = backs h0 ns sus st ms xs os := by
        cases m with
        | ptr ks => exact absurd ⟨ks, rfl⟩ hp
        | io ks => exact absurd ⟨ks, rfl⟩ hio
        | _ => cases os <;> rfl
      rw [eq] at h
      exact frm_backs h
theorem hits_ioNs : ∀ {ms : List Mode} {xs : List SV}, HitsIn hs st ms xs → ∀ n ∈ ioNs ms xs, n ∈ hs
  | [], xs, _, n, hn => by cases xs <;> simp [ioNs] at hn
  | m :: ms, [], _, n, hn => by cases m <;> simp [ioNs] at hn
  | m :: ms, x :: xs, h, n, hn => by
    cases m with
    | io ks =>
      simp only [ioNs, List.mem_append] at hn
      rcases hn with hn | hn
      · exact h.1 n hn
      · exact hits_ioNs h.2 n hn
    | own ks => exact hits_ioNs h.2 n hn
    | ptr ks =>
      cases x with
      | ptr k off => exact hits_ioNs h.2.2 n hn
      | _ => exact hits_ioNs (ms := ms) (xs := xs) h n hn
    | _ => exact hits_ioNs (ms := ms) (xs := xs) (by cases x <;> exact h) n hn
theorem frm_callFn {s f : Nat} {b : Bool} {xs : List SV} (hh : HitsIn hs st (C.sig f).ms xs) (h : callFn C st s f xs = some (b, v, st1)) : Frm hs st st1 := by
  unfold callFn at h
  split at h
  · obtain ⟨h2, outs, rfl, hp⟩ := callIo_st h
    exact ⟨[], by simp, rfl, rfl, fun n b hb hn => by show hlk h2 n = _; rw [ioPuts_out hp n (fun hm => hn (hits_ioNs hh n hm))]; exact hb⟩
  split at h
  · rename_i h1
    split at h
    · split at h
      · split at h
        · rename_i h2
          have k := (frm_given hh h1).trans (frm_backs h2)
          split at h
          · cases h; exact k
          · split at h
            · split at h
              · rename_i h3; cases h; exact k.trans (frm_adds h3)
              · cases h
            · cases h
          · split at h
            · split at h
              · cases h; exact k
              · split at h
                · split at h
                  · rename_i h3; cases h; exact k.trans (frm_adds h3)
                  · cases h
                · cases h
            · cases h
          · split at h
            · split at h
              · rename_i h3; cases h; exact k.trans (frm_adds h3)
              · cases h
            · cases h
          · cases h
        · cases h
    · cases h
  · cases h
theorem frm_source {zs : List D} {x : SV} {ok : Bool} {ys : List (List D)} (hx : ∀ n ∈ ownC x, n ∈ hs) (h : source zs st x = some (ok, ys, st1)) : Frm hs st st1 := by
  unfold source at h
  split at h
  · rename_i n
    split at h
    · split at h
      · split at h
        · cases h; exact .refl _ _
        · cases h; exact frm_del (hx n (by simp [ownC]))
      · cases h
    · cases h
  · split at h
    · cases h; exact .refl _ _
    · cases h
  · cases h; exact .refl _ _
  · cases h
theorem own_kill1 {n k : Nat} {v : SV} (h : k ∈ ownCs (cellsOf (killV n v))) : k ∈ ownCs (cellsOf v) := by
  have one : ∀ {v : SV}, (∀ cs, v ≠ .agg cs) → (∀ cs, killC n v ≠ .agg cs) → k ∈ ownCs (cellsOf (killC n v)) → k ∈ ownCs (cellsOf v) := fun {v} h1 h2 h => by
    have e1 : cellsOf v = [v] := by cases v <;> first | rfl | exact absurd rfl (h1 _)
    have e2 : cellsOf (killC n v) = [killC n v] := by
      generalize killC n v = u at h2
      cases u <;> first | rfl | exact absurd rfl (h2 _)
    rw [e2] at h
    rw [e1]
    simp only [ownCs, List.append_nil] at h ⊢
    exact own_killC h
  cases v with
  | agg cs => exact own_killCs h
  | tup vs =>
    simp [killV, cellsOf, ownCs, ownC] at h
  | own m => exact one (fun cs e => by cases e) (fun cs e => by simp only [killC] at e; split at e <;> cases e) h
  | rp m i o => exact one (fun cs e => by cases e) (fun cs e => by simp only [killC] at e; split at e <;> cases e) h
  | ptr m o => exact one (fun cs e => by cases e) (fun cs e => by simp only [killC] at e; split at e <;> cases e) h
  | _ => exact h
theorem ev_kills (p : Path) (x : Operand) : ∀ (ns : List Nat) (m : List SV) (l : List (Nat × Path × Bool × SV)) (h h' : List (Nat × Blk)) (k : Nat), k ∈ ownCs (cellsOf (ev C ⟨killsM ns m, killsL ns l, h'⟩ p x)) → k ∈ ownCs (cellsOf (ev C ⟨m, l, h⟩ p x))
  | [], m, l, h, h', k, hk => by cases x <;> exact hk
  | n :: ns, m, l, h, h', k, hk => by
    have h1 := ev_kills p x ns (killM n m) (killL n l) h h' k hk
    cases x with
    | tmp t =>
      have one : gt C ⟨killM n m, killL n l, h⟩ p t = killV n (gt C ⟨m, l, h⟩ p t) := by
        unfold gt
        simp only [lk_killL, lkm_killM]
        cases lk l t with
        | none => rfl
        | some e =>
          obtain ⟨q, c, y⟩ := e
          simp only [Option.map_some]
          split <;> rfl
      simp only [ev] at h1 ⊢
      rw [one] at h1
      exact own_kill1 h1
    | _ => exact h1
theorem Frm.own (A : Frm hs st st1) {p : Path} {x : Operand} {k : Nat} (hk : k ∈ ownCs (cellsOf (ev C st1 p x))) : k ∈ ownCs (cellsOf (ev C st p x)) := by
  obtain ⟨ns, _, a2, a3, _⟩ := A
  have : ev C st1 p x = ev C ⟨killsM ns st.m, killsL ns st.l, st1.h⟩ p x := by rw [← a2, ← a3]
  rw [this] at hk
  exact ev_kills p x ns st.m st.l st.h st1.h k hk
theorem frm_rowsOf {sz : Nat} : ∀ {parts : List (Nat × Operand)} {k : Nat} {rows : List (List D)} {st st1 : St}, (∀ q ∈ parts, ∀ n ∈ ownCs (cellsOf (ev C st [] q.2)), n ∈ hs) → rowsOf C sz parts k st = some (rows, st1) → Frm hs st st1
  | [], k, rows, st, st1, _, h => by simp only [rowsOf, Option.some.injEq, Prod.mk.injEq] at h; obtain ⟨rfl, rfl⟩ := h; exact .refl _ _
  | (i, x) :: r, k, rows, st, st1, hh, h => by
    simp only [rowsOf] at h
    split at h
    · split at h
      · rename_i h1
        split at h
        · split at h
          · rename_i h2
            cases h
            have a1 := frm_takes (hs := hs) (fun n hn => hh (i, x) (by simp) n hn) h1
            exact a1.trans (frm_rowsOf (fun q hq n hn => hh q (by simp [hq]) n (a1.own hn)) h2)
          · cases h
        · cases h
      · cases h
    · cases h
theorem frm_store {t : TypeId} {p x : SV} {b : Bool} (hp : ∀ n ∈ nmV p, n ∈ hs) (hx : ∀ n ∈ ownCs (cellsOf x), n ∈ hs) (h : store C st t p x = some (b, st1)) : Frm hs st st1 := by
  unfold store at h
  split at h
  · split at h
    · rename_i n off
      split at h
      · split at h
        · cases h; exact frm_put (hp n (by simp [nmV, nmA, nmC])) _
        · cases h
      · cases h
    · rename_i n i off
      split at h
      · rename_i h1
        split at h
        · cases h; exact (frm_takes hx h1).trans (frm_put (hp n (by simp [nmV, nmA, nmC])) _)
        · cases h
      · cases h
    · cases h
  · cases h
theorem frm_storeP {t : TypeId} {n off : Nat} {x : SV} {b : Bool} (h : store C st t (.ptr n off) x = some (b, st1)) : Frm [n] st st1 := by
  unfold store at h
  split at h
  · dsimp only at h
    split at h
    · split at h
      · cases h; exact frm_put (by simp) _
      · cases h
    · cases h
  · cases h
theorem frm_cut {el n : Nat} {ok : List (List D) → Bool} {f : List (List D) → List (List D)} {b : Bool} (hn : n ∈ hs) (h : cut C st el n ok f = some (b, v, st1)) : Frm hs st st1 := by
  unfold cut at h
  split at h
  · split at h
    · cases h; exact frm_set hn _
    · cases h
  · cases h
theorem partsV_in : ∀ {parts : List (Nat × Operand)}, (∀ n ∈ partsV C st parts, n ∈ hs) → ∀ q ∈ parts, ∀ n ∈ ownCs (cellsOf (ev C st [] q.2)), n ∈ hs
  | [], _, q, hq => by simp at hq
  | (i, x) :: r, h, q, hq => by
    simp only [partsV, List.mem_append] at h
    rcases List.mem_cons.1 hq with rfl | hq
    · exact fun n hn => h n (.inl hn)
    · exact partsV_in (fun n hn => h n (.inr hn)) q hq
theorem heavy_frm {s : Nat} {b : Bool} (h : heavy C st s op = some (b, v, st1)) : Frm (hits C st op) st st1 := by
  cases op
  case alloc t =>
    simp only [heavy] at h
    split at h
    · exact frm_adds_map (x := (true, .ptr (nm s 0) 0)) h
    · cases h
  case box t x =>
    simp only [heavy] at h
    split at h
    · exact frm_adds_map (x := (true, .ptr (nm s 0) 0)) h
    · cases h
  case buildSlice t n parts =>
    simp only [heavy] at h
    split at h
    · split at h
      · split at h
        · rename_i hr
          split at h
          · exact (frm_rowsOf (partsV_in fun n hn => hn) hr).trans (frm_adds_map (x := (true, .own (nm s 0))) h)
          · cases h
        · cases h
      · cases h
    · cases h
  case makeSlice t x y =>
    simp only [heavy] at h
    split at h
    · rename_i el kx k ky k' ht h1 h2
      split at h
      · split at h
        · exact frm_adds_map (x := (decide (0 ≤ k ∧ k ≤ lim ∧ k' = k), .own (nm s 0))) h
        · cases h
      · cases h
    · cases h
  case store t p x =>
    simp only [heavy] at h
    rw [Option.map_eq_some_iff] at h
    obtain ⟨⟨b2, st2⟩, h1, h2⟩ := h
    cases h2
    by_cases hp : ∃ n off, ev C st [] p = .ptr n off
    · obtain ⟨n, off, hp⟩ := hp
      simp only [hits, hp]
      rw [hp] at h1
      exact frm_storeP h1
    · have e : hits C st (.store t p x) = nmV (ev C st [] p) ++ ownCs (cellsOf (ev C st [] x)) := by
        simp only [hits]
        split
        · rename_i n off hv; exact absurd ⟨n, off, hv⟩ hp
        · rfl
      rw [e]
      exact frm_store (fun n hn => by simp [hn]) (fun n hn => by simp [hn]) h1
  case slice t x lo hi mx =>
    simp only [heavy] at h
    split at h
    · rename_i h1 h2 h3 h4 h5; exact frm_cut (by simp [hits, h2, cellsOf, ownCs, ownC]) h
    · rename_i h1 h2 h3 h4 h5; exact frm_cut (by simp [hits, h2, cellsOf, ownCs, ownC]) h
    · rename_i h1 h2 h3 h4 h5; exact frm_cut (by simp [hits, h2, cellsOf, ownCs, ownC]) h
    · cases h
  case call c =>
    obtain ⟨callee, args, ts⟩ := c
    simp only [heavy] at h
    split at h
    · split at h
      · rename_i t t' x y hts hxy
        have hx : ∀ n ∈ ownC x, n ∈ hits C st (.call ⟨.builtin .append, args, ts⟩) := fun n hn => by simp only [hits, hxy, ownCs, List.mem_append]; exact .inl hn
        have hy : ∀ n ∈ ownC y, n ∈ hits C st (.call ⟨.builtin .append, args, ts⟩) := fun n hn => by simp only [hits, hxy, ownCs, List.mem_append]; exact .inr (.inl hn)
        split at h
        · split at h
          · split at h
            · split at h
              · rename_i ok ys sta hs'
                have a1 := frm_source hy hs'
                split at h
                · rename_i n
                  split at h
                  · split at h
                    · cases h; exact a1.trans (frm_set (hx n (by simp [ownC])) _)
                    · cases h
                  · cases h
                · exact a1.trans (frm_adds_map (x := (ok && decide (ys.length ≤ lim), .own (nm s 0))) h)
                · cases h
              · cases h
            · cases h
          · cases h
        · cases h
      · cases h
    · exact frm_callFn (hitsIn_of fun n hn => hn) h
    · cases h
  all_goals (simp [heavy] at h)
end Go.Den

/- A light operation whose operands lead to nothing that was touched comes to the same. -/
namespace Go.Den
open Go
variable {C : Ctx} {s s1 : St} {p : Path} {op : Op} {hs : List Nat}

def rowOf (h : List (Nat × Blk)) (k : Nat) : Option (List (List D)) := match hlk h k with | some (.row _ _ xs) => some xs | _ => none
/-- What v leads to is the same. -/
def SeeV (s s1 : St) (v : SV) : Prop := ∀ n ∈ nmV v, hlk s1.h n = hlk s.h n ∧ ∀ cs, hlk s.h n = some (.box cs) → ∀ k ∈ nmCs cs, rowOf s1.h k = rowOf s.h k
theorem toD_row (st : St) (n : Nat) : toD st (.own n) = (rowOf st.h n).map .l := by
  simp only [toD, rowOf]
  split <;> simp_all
theorem toD_see {x : SV} (h : ∀ k ∈ nmC x, rowOf s1.h k = rowOf s.h k) : toD s1 x = toD s x := by
  cases x with
  | own n => rw [toD_row, toD_row, h n (by simp [nmC])]
  | _ => rfl
theorem toDs_see : ∀ {xs : List SV}, (∀ k ∈ nmCs xs, rowOf s1.h k = rowOf s.h k) → toDs s1 xs = toDs s xs
  | [], _ => rfl
  | x :: xs, h => by
    have e1 := toD_see (x := x) (fun k hk => h k (by simp [nmCs, hk]))
    have e2 := toDs_see (xs := xs) (fun k hk => h k (by simp [nmCs, hk]))
    simp only [toDs, e1, e2]
theorem nmCs_drop {k : Nat} : ∀ {cs : List SV} {n : Nat}, k ∈ nmCs (cs.drop n) → k ∈ nmCs cs
  | [], n, h => by simpa using h
  | c :: cs, 0, h => h
  | c :: cs, n + 1, h => by simp only [List.drop_succ_cons] at h; simp only [nmCs, List.mem_append]; exact .inr (nmCs_drop h)
theorem nmCs_take {k : Nat} : ∀ {cs : List SV} {n : Nat}, k ∈ nmCs (cs.take n) → k ∈ nmCs cs
  | [], n, h => by simpa using h
  | c :: cs, 0, h => by simp [nmCs] at h
  | c :: cs, n + 1, h => by
    simp only [List.take_succ_cons, nmCs, List.mem_append] at h ⊢
    rcases h with h | h
    · exact .inl h
    · exact .inr (nmCs_take h)
theorem SeeV.row {v : SV} (h : SeeV s s1 v) {k : Nat} (hk : k ∈ nmV v) : rowOf s1.h k = rowOf s.h k := by simp only [rowOf, (h k hk).1]
theorem argOf_see {m : Mode} {v : SV} (h : SeeV s s1 v) : argOf s1 m v = argOf s m v := by
  cases m with
  | bor =>
    cases v with
    | agg cs => simp only [argOf, toDs_see (fun k hk => h.row (v := .agg cs) hk)]
    | tup vs => rfl
    | own n => simp only [argOf, toD_see (x := .own n) (fun k hk => h.row (v := .own n) hk)]
    | _ => rfl
  | rptr sz =>
    cases v with
    | ptr n off =>
      obtain ⟨h1, h2⟩ := h n (by simp [nmV, nmA, nmC])
      simp only [argOf, h1]
      cases hb : hlk s.h n with
      | none => rfl
      | some b =>
        cases b with
        | row e sz xs => rfl
        | box cs => simp only [toDs_see (fun k hk => h2 cs hb k (nmCs_drop (nmCs_take hk)))]
    | _ => rfl
  | _ => cases v <;> rfl
theorem zipArgs_see : ∀ {ms : List Mode} {vs : List SV}, (∀ v ∈ vs, SeeV s s1 v) → zipArgs s1 ms vs = zipArgs s ms vs
  | [], [], _ => rfl
  | [], _ :: _, _ => rfl
  | _ :: _, [], _ => rfl
  | m :: ms, v :: vs, h => by
    have e1 := argOf_see (m := m) (h v (by simp))
    have e2 := zipArgs_see (ms := ms) (vs := vs) (fun x hx => h x (by simp [hx]))
    simp only [zipArgs, e1, e2]
theorem load_see {t : TypeId} {v : SV} (h : SeeV s s1 v) : load C s1 t v = load C s t v := by
  cases v with
  | ptr n off => simp only [load, (h n (by simp [nmV, nmA, nmC])).1]
  | _ => rfl
theorem lenOf_see {t : Ty} {v : SV} (h : SeeV s s1 v) : lenOf s1 t v = lenOf s t v := by
  cases v with
  | own n => cases t <;> simp only [lenOf, (h n (by simp [nmV, nmA, nmC])).1]
  | d x => cases t <;> first | rfl | (cases x <;> rfl)
  | _ => cases t <;> rfl
theorem light_see (hA : ∀ t, Operand.tmp t ∈ op.operands.toList → ∀ p, gt C s1 p t = gt C s p t) (hB : ∀ t, Operand.tmp t ∈ op.operands.toList → ∀ p, SeeV s s1 (gt C s p t)) : light C s1 p op = light C s p op := by
  have hev : ∀ x ∈ op.operands.toList, ∀ p, ev C s1 p x = ev C s p x := fun x hx p => by
    cases x with
    | tmp t => exact hA t hx p
    | _ => rfl
  have none : ∀ v, SeeV s s1 (ofConst v) := fun v n hn => by
    have : nmV (ofConst v) = [] := by unfold ofConst; split <;> rfl
    rw [this] at hn; simp at hn
  have hse : ∀ x ∈ op.operands.toList, ∀ p, SeeV s s1 (ev C s p x) := fun x hx p => by
    cases x with
    | tmp t => exact hB t hx p
    | const v => exact none v
    | func f => intro n hn; simp [ev, nmV, nmA, nmC] at hn
    | _ => intro n hn; simp [ev, nmV, nmA, nmC] at hn
  cases op
  case pick c x y =>
    cases c with
    | tmp t => simp only [light, hA t (by simp [Op.operands]), hev x (by simp [Op.operands]), hev y (by simp [Op.operands])]
    | _ => rfl
  case build t parts =>
    simp only [light]
    split
    · rw [fillB_congr (fun q hq => hev q.2 (by simp only [Op.operands, List.mem_map]; exact ⟨q, hq, rfl⟩) p)]
    · rfl
  case call c =>
    obtain ⟨callee, args, ts⟩ := c
    have hin : ∀ x ∈ args.toList, x ∈ (Op.call ⟨callee, args, ts⟩).operands.toList := fun x hx => by simp [Op.operands, Call.operands]; cases callee <;> simp <;> first | exact .inr (by simpa using hx) | simpa using hx
    have ha : ∀ x ∈ args.toList, ev C s1 p x = ev C s p x := fun x hx => hev x (hin x hx) p
    simp only [light]
    split
    · split
      · rename_i t x h1 h2
        rw [ha x (by rw [h2]; simp), lenOf_see (hse x (hin x (by rw [h2]; simp)) p)]
      · rfl
    · split
      · rename_i x y h2; rw [ha x (by rw [h2]; simp), ha y (by rw [h2]; simp)]
      · rfl
    · split
      · rename_i x y h2; rw [ha x (by rw [h2]; simp), ha y (by rw [h2]; simp)]
      · rfl
    · split
      · rw [evs_congr ha, zipArgs_see (fun v hv => by
          have : ∀ (xs : List Operand), (∀ x ∈ xs, SeeV s s1 (ev C s p x)) → ∀ v ∈ evs C s p xs, SeeV s s1 v := fun xs => by
            induction xs with
            | nil => intro _ v hv; simp [evs] at hv
            | cons x xs ih =>
              intro h v hv
              simp only [evs, List.mem_cons] at hv
              rcases hv with rfl | hv
              · exact h x (by simp)
              · exact ih (fun y hy => h y (by simp [hy])) v hv
          exact this _ (fun x hx => hse x (hin x hx) p) v hv)]
      · rfl
    · rfl
  case slice t x lo hi mx =>
    cases mx with
    | some m => rfl
    | none =>
      have h1 : lo.map (ev C s1 p) = lo.map (ev C s p) := by cases lo with | none => rfl | some y => simp [hev y (by simp [Op.operands])]
      have h2 : hi.map (ev C s1 p) = hi.map (ev C s p) := by cases hi with | none => rfl | some y => simp [hev y (by simp [Op.operands])]
      simp only [light, hev x (by simp [Op.operands]), h1, h2]
  case convert a b x =>
    have hx := hse x (by simp [Op.operands]) p
    simp only [light, hev x (by simp [Op.operands])]
    generalize ev C s p x = v at hx
    generalize tyOf C.P a = A
    generalize tyOf C.P b = B
    cases v with
    | own n =>
      have e := (hx n (by simp [nmV, nmA, nmC])).1
      cases A <;> cases B <;> first | rfl | (dsimp only; rw [e])
    | d y => cases A <;> cases B <;> first | rfl | (cases y <;> rfl)
    | _ => cases A <;> cases B <;> rfl
  case indexAddr t x y =>
    have hx := hse x (by simp [Op.operands]) p
    simp only [light, hev x (by simp [Op.operands]), hev y (by simp [Op.operands])]
    generalize ev C s p x = v at hx
    generalize ev C s p y = u
    generalize tyOf C.P t = A
    cases A with
    | sl el =>
      dsimp only
      generalize (tyOf C.P el).zeros = Z
      cases Z with
      | none => rfl
      | some zs =>
        dsimp only
        cases v with
        | own n =>
          have e := (hx n (by simp [nmV, nmA, nmC])).1
          cases u with
          | d y => cases y <;> first | rfl | (dsimp only; rw [e])
          | _ => rfl
        | d x => cases x <;> (cases u <;> first | rfl | (rename_i d; cases d <;> rfl))
        | _ => rfl
    | _ => rfl
  case index t x y => simp only [light, hev x (by simp [Op.operands]), hev y (by simp [Op.operands])]
  case binOp o t x y ty => simp only [light, hev x (by simp [Op.operands]), hev y (by simp [Op.operands])]
  case load t x =>
    have hx := hse x (by simp [Op.operands]) p
    simp only [light, hev x (by simp [Op.operands])]
    generalize ev C s p x = v at hx
    cases v with
    | rp n i off => simp only [(hx n (by simp [nmV, nmA, nmC])).1]
    | _ => simp only [load_see hx]
  case unOp u t x => cases u <;> simp only [light, hev x (by simp [Op.operands])]
  case move x => simp only [light, hev x (by simp [Op.operands])]
  case assign x => simp only [light, hev x (by simp [Op.operands])]
  case nilCheck x => simp only [light, hev x (by simp [Op.operands])]
  case fieldAddr t x f => simp only [light, hev x (by simp [Op.operands])]
  case field t x f => simp only [light, hev x (by simp [Op.operands])]
  case extract x i => simp only [light, hev x (by simp [Op.operands])]
  all_goals rfl

/-! from 'calm' -/
theorem clear_spec : ∀ {ns : List Nat}, clear hs ns = true → ∀ n ∈ ns, n ∉ hs
  | [], _, n, hn => by simp at hn
  | m :: ns, h, n, hn => by
    simp only [clear] at h
    split at h
    · cases h
    · rename_i hm
      rcases List.mem_cons.1 hn with rfl | hn
      · exact fun h' => hm (isIn_mem.2 h')
      · exact clear_spec h n hn
theorem inH_spec {h : List (Nat × Blk)} : ∀ {ns : List Nat}, inH h ns = true → ∀ n ∈ ns, ∃ b, hlk h n = some b
  | [], _, n, hn => by simp at hn
  | m :: ns, hh, n, hn => by
    simp only [inH, Bool.and_eq_true] at hh
    rcases List.mem_cons.1 hn with rfl | hn
    · exact Option.isSome_iff_exists.1 hh.1
    · exact inH_spec hh.2 n hn
theorem clearH_spec {h : List (Nat × Blk)} : ∀ {ns : List Nat}, clearH hs h ns = true → ∀ n ∈ ns, ∃ b, hlk h n = some b ∧ ∀ cs, b = .box cs → clear hs (nmCs cs) = true ∧ inH h (nmCs cs) = true
  | [], _, n, hn => by simp at hn
  | m :: ns, hh, n, hn => by
    simp only [clearH, Bool.and_eq_true] at hh
    rcases List.mem_cons.1 hn with rfl | hn
    · have h1 := hh.1
      split at h1
      · rename_i cs hb
        simp only [Bool.and_eq_true] at h1
        exact ⟨_, hb, fun cs' e => by cases e; exact h1⟩
      · rename_i b hne hb
        exact ⟨b, hb, fun cs e => absurd e (hne cs)⟩
      · cases h1
    · exact clearH_spec hh.2 n hn
theorem killC_clear {n : Nat} {v : SV} (h : n ∉ nmC v) : killC n v = v := by
  cases v <;> first | rfl | (simp only [nmC, List.mem_singleton] at h; simp only [killC, if_neg (Ne.symm h)])
theorem killCs_clear {n : Nat} : ∀ {cs : List SV}, n ∉ nmCs cs → killCs n cs = cs
  | [], _ => rfl
  | c :: cs, h => by
    simp only [nmCs, List.mem_append, not_or] at h
    simp only [killCs, killC_clear h.1, killCs_clear h.2]
theorem killA_clear {n : Nat} {v : SV} (h : n ∉ nmA v) : killA n v = v := by
  cases v with
  | agg cs => simp only [killA, killCs_clear (show n ∉ nmCs cs from h)]
  | own m => exact killC_clear (v := .own m) h
  | ptr m o => exact killC_clear (v := .ptr m o) h
  | rp m i o => exact killC_clear (v := .rp m i o) h
  | _ => rfl
theorem killAs_clear {n : Nat} : ∀ {vs : List SV}, n ∉ nmAs vs → killAs n vs = vs
  | [], _ => rfl
  | c :: cs, h => by
    simp only [nmAs, List.mem_append, not_or] at h
    simp only [killAs, killA_clear h.1, killAs_clear h.2]
theorem killV_clear {n : Nat} {v : SV} (h : n ∉ nmV v) : killV n v = v := by
  cases v with
  | tup vs => simp only [killV, killAs_clear h]
  | agg cs => exact killA_clear (v := .agg cs) h
  | own m => exact killC_clear (v := .own m) h
  | ptr m o => exact killC_clear (v := .ptr m o) h
  | rp m i o => exact killC_clear (v := .rp m i o) h
  | _ => rfl
theorem killsB_clear : ∀ {ns : List Nat} {cs : List SV}, (∀ n ∈ ns, n ∉ nmCs cs) → killsB ns (.box cs) = .box cs
  | [], cs, _ => rfl
  | n :: ns, cs, h => by simp only [killsB, killB, killCs_clear (h n (by simp))]; exact killsB_clear (fun k hk => h k (by simp [hk]))
theorem killsB_row : ∀ {ns : List Nat} {e sz : Nat} {xs : List (List D)}, killsB ns (.row e sz xs) = .row e sz xs
  | [], _, _, _ => rfl
  | n :: ns, _, _, _ => by simp only [killsB, killB, killsB_row]
def killsV : List Nat → SV → SV | [], v => v | n :: ns, v => killsV ns (killV n v)
theorem killsV_clear : ∀ {ns : List Nat} {v : SV}, (∀ n ∈ ns, n ∉ nmV v) → killsV ns v = v
  | [], v, _ => rfl
  | n :: ns, v, h => by simp only [killsV, killV_clear (h n (by simp))]; exact killsV_clear (fun k hk => h k (by simp [hk]))
theorem lk_killsV (t : Nat) : ∀ (ns : List Nat) (l : List (Nat × Path × Bool × SV)), lk (killsL ns l) t = (lk l t).map fun e => (e.1, e.2.1, killsV ns e.2.2)
  | [], l => by cases h : lk l t <;> simp [killsL, killsV, h]
  | n :: ns, l => by
    rw [killsL, lk_killsV t ns, lk_killL]
    cases lk l t <;> rfl
theorem lkm_killsV (ks : List Nat) (t : Nat) : ∀ (ns : List Nat) (m : List SV), lkm ks (killsM ns m) t = killsV ns (lkm ks m t)
  | [], m => rfl
  | n :: ns, m => by rw [killsM, lkm_killsV ks t ns, lkm_killM]; rfl
theorem light_dry (hd : dry op = true) (hA : ∀ t, Operand.tmp t ∈ op.operands.toList → ∀ p, gt C s1 p t = gt C s p t) (p : Path) : light C s1 p op = light C s p op := by
  have hev : ∀ x ∈ op.operands.toList, ∀ p, ev C s1 p x = ev C s p x := fun x hx p => by
    cases x with
    | tmp t => exact hA t hx p
    | _ => rfl
  cases op <;> simp only [dry, Bool.false_eq_true] at hd
  case nilCheck x => simp only [light, hev x (by simp [Op.operands])]
  case fieldAddr t x f => simp only [light, hev x (by simp [Op.operands])]
  case field t x f => simp only [light, hev x (by simp [Op.operands])]
  case extract x i => simp only [light, hev x (by simp [Op.operands])]
  case move x => simp only [light, hev x (by simp [Op.operands])]
  case assign x => simp only [light, hev x (by simp [Op.operands])]
/-- A quiet slot is left as it is. -/
theorem quiet_spec {t : Nat} (h : quiet C s hs t = true) (A : Frm hs s s1) : lk s1.l t = lk s.l t ∧ lkm C.keep s1.m t = (match lk s.l t with | some _ => lkm C.keep s1.m t | none => lkm C.keep s.m t) ∧ ∀ p, gt C s1 p t = gt C s p t := by
  obtain ⟨ns, a1, a2, a3, a4⟩ := A
  have hc := clear_spec h
  have hk : killsV ns (raw C s t) = raw C s t := killsV_clear fun n hn hm => hc n hm (a1 n hn)
  have hlk : lk s1.l t = lk s.l t := by
    rw [a3, lk_killsV]
    cases hl : lk s.l t with
    | none => rfl
    | some e =>
      obtain ⟨q, c, v⟩ := e
      have : raw C s t = v := by unfold raw; rw [hl]
      rw [this] at hk
      simp only [Option.map_some, hk]
  have hlm : lk s.l t = none → lkm C.keep s1.m t = lkm C.keep s.m t := fun hl => by
    have : raw C s t = lkm C.keep s.m t := by unfold raw; rw [hl]
    rw [this] at hk
    rw [a2, lkm_killsV, hk]
  refine ⟨hlk, ?_, fun p => ?_⟩
  · cases hl : lk s.l t with
    | some e => rfl
    | none => exact hlm hl
  · unfold gt
    rw [hlk]
    cases hl : lk s.l t with
    | none => exact hlm hl
    | some e => rfl
/-- A calm slot is left as it is, and what it leads to. -/
theorem calm_spec {t : Nat} (h : calm C s hs t = true) (A : Frm hs s s1) : lk s1.l t = lk s.l t ∧ lkm C.keep s1.m t = (match lk s.l t with | some _ => lkm C.keep s1.m t | none => lkm C.keep s.m t) ∧ ∀ p, gt C s1 p t = gt C s p t ∧ SeeV s s1 (gt C s p t) := by
  simp only [calm, Bool.and_eq_true] at h
  obtain ⟨h1, h2⟩ := h
  obtain ⟨ns, a1, a2, a3, a4⟩ := A
  have hc := clear_spec h1
  have hH := clearH_spec h2
  have hk : killsV ns (raw C s t) = raw C s t := killsV_clear fun n hn hm => hc n hm (a1 n hn)
  have hlk : lk s1.l t = lk s.l t := by
    rw [a3, lk_killsV]
    cases hl : lk s.l t with
    | none => rfl
    | some e =>
      obtain ⟨q, c, v⟩ := e
      have : raw C s t = v := by unfold raw; rw [hl]
      rw [this] at hk
      simp only [Option.map_some, hk]
  have hsee : SeeV s s1 (raw C s t) := fun n hn => by
    obtain ⟨b, hb, hbc⟩ := hH n hn
    have hn' := hc n hn
    have h3 := a4 n b hb hn'
    cases b with
    | row e sz xs => rw [killsB_row] at h3; exact ⟨by rw [h3, hb], fun cs hcs => by rw [hb] at hcs; cases hcs⟩
    | box cs =>
      obtain ⟨c1, c2⟩ := hbc cs rfl
      have c1' := clear_spec c1
      rw [killsB_clear fun k hk hm => c1' k hm (a1 k hk)] at h3
      refine ⟨by rw [h3, hb], fun cs' hcs k hk => ?_⟩
      rw [hb] at hcs; cases hcs
      obtain ⟨b', hb'⟩ := inH_spec c2 k hk
      have h4 := a4 k b' hb' (c1' k hk)
      simp only [rowOf, hb', h4]
      cases b' with
      | row e sz xs => rw [killsB_row]
      | box cs' =>
        have : ∀ (ns : List Nat) (cs : List SV), ∃ cs', killsB ns (.box cs) = .box cs' := fun ns => by
          induction ns with
          | nil => intro cs; exact ⟨cs, rfl⟩
          | cons n ns ih => intro cs; simp only [killsB, killB]; exact ih _
        obtain ⟨c'', hc''⟩ := this ns cs'
        rw [hc'']
  refine ⟨hlk, ?_, fun p => ?_⟩
  · cases hl : lk s.l t with
    | some e => rfl
    | none =>
      dsimp only
      have : raw C s t = lkm C.keep s.m t := by unfold raw; rw [hl]
      rw [this] at hk
      rw [a2, lkm_killsV, hk]
  · have hlm : lk s.l t = none → lkm C.keep s1.m t = lkm C.keep s.m t := fun hl => by
      have : raw C s t = lkm C.keep s.m t := by unfold raw; rw [hl]
      rw [this] at hk
      rw [a2, lkm_killsV, hk]
    unfold gt
    rw [hlk]
    cases hl : lk s.l t with
    | none =>
      have hr : raw C s t = lkm C.keep s.m t := by unfold raw; rw [hl]
      exact ⟨hlm hl, by rw [hr] at hsee; exact hsee⟩
    | some e =>
      obtain ⟨q, c, v⟩ := e
      have hr : raw C s t = v := by unfold raw; rw [hl]
      dsimp only
      refine ⟨rfl, ?_⟩
      split
      · rw [hr] at hsee; exact hsee
      · intro n hn; simp [nmV, nmA, nmC] at hn
end Go.Den

/- Draw regions, first part: an alloc whose box stands already in the memory's list; what the kernel looks at. -/
namespace Go.Den
open Go
variable {C : Ctx} {R : Rt} {G G0 G1 : Gh} {st st1 st2 : St} {a : Act} {w w' : World} {o : Oper} {v : SV}

theorem same_born {h : List (Nat × Blk)} {n : Nat} (hn : ¬ G.live n) (b : Nat × Nat) (v : Value) (ψ : Nat → Prop) : ∀ k, Same G h (G.add n b v ψ) h k := fun k hk => by
  have hkn : k ≠ n := fun e => hn (e ▸ hk)
  exact ⟨.inl hk, by simp [Gh.add, hkn], by simp [Gh.add, hkn], fun e sz xs hx => ⟨xs, hx⟩⟩
/-- An alloc, where its box stands already. -/
theorem born_inv {n : Nat} {cs : List SV} {cur : Array Value} {e : TypeId} (H : Inv C R G st a w) (hu : Unborn G st.h n (.box cs)) (he : Ext w w') (hg : w'.heap[w.heap.size]? = some (.cells cur e (0, 0))) (hs : w'.heap.size = w.heap.size + 1) (hl : cs.length ≤ cur.size)
    (hc : ∀ (j : Nat) x, cs[j]? = some x → ∃ u, cur[j]? = some u ∧ u.oneCell' = true ∧ CRel R G st.h x u) :
    Inv C R (G.add n (w.heap.size, 0) undef (· = w.heap.size)) st a w' ∧ VRel R (G.add n (w.heap.size, 0) undef (· = w.heap.size)) st.h (.ptr n 0) (.pointer (some ⟨w.heap.size, 0, none⟩)) ∧ ∀ m ds, m ≠ n → Unborn G st.h m ds → Unborn (G.add n (w.heap.size, 0) undef (· = w.heap.size)) st.h m ds := by
  obtain ⟨hnl, hb, hfl⟩ := hu
  have H' := inv_ext H he
  have hsm := same_born (G := G) (h := st.h) hnl (w.heap.size, 0) undef (· = w.heap.size)
  have e1 : ∀ k, k ≠ n → (G.add n (w.heap.size, 0) undef (· = w.heap.size)).φ k = G.φ k := fun k h => by simp [Gh.add, h]
  have e2 : (G.add n (w.heap.size, 0) undef (· = w.heap.size)).φ n = (· = w.heap.size) := by simp [Gh.add]
  refine ⟨⟨H'.W, ⟨fun k hk _ => ?_, fun k m hk _ hm _ hkm j hj1 hj2 => ?_, fun k hk _ j hj => ?_, fun k b hf => ?_⟩, fun _ _ _ => id, fun t => ?_, H'.l, H'.m⟩, ⟨.inr rfl, by simp [Gh.add]⟩, fun m ds hmn ⟨h1, h2, h3⟩ => ⟨fun h => ?_, h2, h3⟩⟩
  · rcases hk with hk | rfl
    · obtain ⟨y, h1, h2⟩ := H'.B.rel k hk id
      have hkn : k ≠ n := fun e => hnl (e ▸ hk)
      exact ⟨y, h1, brel_same hsm (by simp [Gh.add, hkn]) (by simp [Gh.add, hkn]) (by simp [Gh.add, hkn]) h2⟩
    · refine ⟨.box cs, hb, cur, e, by simp [Gh.add, hg], by simp [Gh.add], fun lo hi hlb => ?_, by simpa [Gh.add] using hl, fun j x hj => ?_⟩
      · simp only [Gh.add, if_true] at hlb
        have := lb_old H.W hlb
        have := H.W.size
        omega
      · obtain ⟨u, h1, h2, h3⟩ := hc j x hj
        exact ⟨u, by simpa [Gh.add] using h1, h2, crel_same (fun k _ => hsm k) h3⟩
  · have old : ∀ m, G.live m → G.φ m w.heap.size → False := fun m hm h => by have := (H.B.mine m hm id _ h).1; omega
    rcases hk with hk | rfl <;> rcases hm with hm | rfl
    · rw [e1 k (fun e => hnl (e ▸ hk))] at hj1
      rw [e1 m (fun e => hnl (e ▸ hm))] at hj2
      exact H.B.disj k m hk id hm id hkm j hj1 hj2
    · rw [e1 k hkm] at hj1
      rw [e2] at hj2
      exact old k hk (hj2 ▸ hj1)
    · rw [e2] at hj1
      rw [e1 m (Ne.symm hkm)] at hj2
      exact old m hm (hj1 ▸ hj2)
    · exact hkm rfl
  · rcases hk with hk | rfl
    · rw [e1 k (fun e => hnl (e ▸ hk))] at hj
      exact H'.B.mine k hk id j hj
    · rw [e2] at hj
      exact ⟨by rw [hj, hs]; omega, .inr (by rw [hj]; exact H.W.size)⟩
  · obtain ⟨h1, h2, h3⟩ := H'.B.fix k b hf
    have hkn : k ≠ n := fun e => hnl (e ▸ h1)
    exact ⟨.inl h1, by simp [Gh.add, hkn, h2], h3⟩
  · have := slot_same (st := st) (h' := st.h) hsm (H'.slots t)
    exact this
  · rcases h with h | h
    · exact h1 h
    · exact hmn h
/-- An empty slice that is made, where its row stands already. -/
theorem born_row {n e sz : Nat} {cur : Array Value} (H : Inv C R G st a w) (hu : Unborn G st.h n (.row e sz [])) (he : Ext w w') (hg : w'.heap[w.heap.size]? = some (.cells cur e (0, 0))) (hs : w'.heap.size = w.heap.size + 1) (hE : EOk C.P e sz) :
    Inv C R (G.add n (0, 0) (.slice (some ⟨w.heap.size, 0, none⟩) 0 0) (· = w.heap.size)) st a w' ∧ VRel R (G.add n (0, 0) (.slice (some ⟨w.heap.size, 0, none⟩) 0 0) (· = w.heap.size)) st.h (.own n) (.slice (some ⟨w.heap.size, 0, none⟩) 0 0) ∧ ∀ m ds, m ≠ n → Unborn G st.h m ds → Unborn (G.add n (0, 0) (.slice (some ⟨w.heap.size, 0, none⟩) 0 0) (· = w.heap.size)) st.h m ds := by
  obtain ⟨hnl, hb, hfl⟩ := hu
  have H' := inv_ext H he
  have hsm := same_born (G := G) (h := st.h) hnl (0, 0) (.slice (some ⟨w.heap.size, 0, none⟩) 0 0) (· = w.heap.size)
  have e1 : ∀ k, k ≠ n → (G.add n (0, 0) (.slice (some ⟨w.heap.size, 0, none⟩) 0 0) (· = w.heap.size)).φ k = G.φ k := fun k h => by simp [Gh.add, h]
  have e2 : (G.add n (0, 0) (.slice (some ⟨w.heap.size, 0, none⟩) 0 0) (· = w.heap.size)).φ n = (· = w.heap.size) := by simp [Gh.add]
  have hrow : RowR w' e sz (· = w.heap.size) [] (.slice (some ⟨w.heap.size, 0, none⟩) 0 0) :=
    .inr ⟨w.heap.size, 0, 0, cur, fun _ _ => undef, fun _ _ _ => False, rfl, hg, rfl, Nat.le_refl _, by simp, by simp, fun i r j d h => by simp at h, fun _ _ _ h => h.elim, fun _ _ _ _ _ h => h.elim, fun i r j d h => by simp at h⟩
  refine ⟨⟨H'.W, ⟨fun k hk _ => ?_, fun k m hk _ hm _ hkm j hj1 hj2 => ?_, fun k hk _ j hj => ?_, fun k b hf => ?_⟩, fun _ _ _ => id, fun t => ?_, H'.l, H'.m⟩, ⟨.inr rfl, by simp [Gh.add], rfl⟩, fun m ds hmn ⟨h1, h2, h3⟩ => ⟨fun h => ?_, h2, h3⟩⟩
  · rcases hk with hk | rfl
    · obtain ⟨y, h1, h2⟩ := H'.B.rel k hk id
      have hkn : k ≠ n := fun e => hnl (e ▸ hk)
      exact ⟨y, h1, brel_same hsm (by simp [Gh.add, hkn]) (by simp [Gh.add, hkn]) (by simp [Gh.add, hkn]) h2⟩
    · refine ⟨.row e sz [], hb, by simpa [Gh.add] using hrow, hE.1, hE.2, fun j lo hi hj hlb => ?_⟩
      simp only [Gh.add, if_true] at hj
      subst hj
      have := lb_old H.W hlb
      have := H.W.size
      omega
  · have old : ∀ m, G.live m → G.φ m w.heap.size → False := fun m hm h => by have := (H.B.mine m hm id _ h).1; omega
    rcases hk with hk | rfl <;> rcases hm with hm | rfl
    · rw [e1 k (fun e => hnl (e ▸ hk))] at hj1
      rw [e1 m (fun e => hnl (e ▸ hm))] at hj2
      exact H.B.disj k m hk id hm id hkm j hj1 hj2
    · rw [e1 k hkm] at hj1
      rw [e2] at hj2
      exact old k hk (hj2 ▸ hj1)
    · rw [e2] at hj1
      rw [e1 m (Ne.symm hkm)] at hj2
      exact old m hm (hj1 ▸ hj2)
    · exact hkm rfl
  · rcases hk with hk | rfl
    · rw [e1 k (fun e => hnl (e ▸ hk))] at hj
      exact H'.B.mine k hk id j hj
    · rw [e2] at hj
      exact ⟨by rw [hj, hs]; omega, .inr (by rw [hj]; exact H.W.size)⟩
  · obtain ⟨h1, h2, h3⟩ := H'.B.fix k b hf
    have hkn : k ≠ n := fun e => hnl (e ▸ h1)
    exact ⟨.inl h1, by simp [Gh.add, hkn, h2], h3⟩
  · have := slot_same (st := st) (h' := st.h) hsm (H'.slots t)
    exact this
  · rcases h with h | h
    · exact h1 h
    · exact hmn h
end Go.Den

/- Draw regions, second part: the machine's own state beside den's. -/
namespace Go.Den
open Go
variable {C : Ctx} {R : Rt} {G G0 G1 : Gh} {st st1 st2 σ σ1 s s1 : St} {a : Act} {w w' : World} {o : Oper} {v : SV} {hid hid' : Nat → Prop}

/-- σ has what s has, but for the hidden slots. -/
structure Rel (C : Ctx) (hid : Nat → Prop) (σ s : St) : Prop where
  h : σ.h = s.h
  eq : ∀ t, ¬ hid t → lk σ.l t = lk s.l t ∧ lkm C.keep σ.m t = lkm C.keep s.m t
  no : ∀ t, hid t → lk σ.l t = none
theorem Rel.gt (H : Rel C hid σ s) {t : Nat} (ht : ¬ hid t) (p : Path) : Den.gt C σ p t = Den.gt C s p t := by
  obtain ⟨h1, h2⟩ := H.eq t ht
  unfold Den.gt
  rw [h1, h2]
theorem lk_killsL (t : Nat) : ∀ (ns : List Nat) (l l' : List (Nat × Path × Bool × SV)), lk l' t = lk l t → lk (killsL ns l') t = lk (killsL ns l) t
  | [], l, l', e => e
  | n :: ns, l, l', e => lk_killsL t ns _ _ (by rw [lk_killL, lk_killL, e])
theorem lk_killsL_none (t : Nat) : ∀ (ns : List Nat) (l : List (Nat × Path × Bool × SV)), lk l t = none → lk (killsL ns l) t = none
  | [], l, e => e
  | n :: ns, l, e => lk_killsL_none t ns _ (by rw [lk_killL, e]; rfl)
theorem lkm_killsM (ks : List Nat) (t : Nat) : ∀ (ns : List Nat) (m m' : List SV), lkm ks m' t = lkm ks m t → lkm ks (killsM ns m') t = lkm ks (killsM ns m) t
  | [], m, m', e => e
  | n :: ns, m, m', e => lkm_killsM ks t ns _ _ (by rw [lkm_killM, lkm_killM, e])
theorem Rel.sim (H : Rel C hid σ s) (A : Sim s s1 σ σ1) : Rel C hid σ1 s1 := by
  obtain ⟨ns, a1, a2, a3, a4, a5⟩ := A
  refine ⟨a5, fun t ht => ⟨?_, ?_⟩, fun t ht => ?_⟩
  · rw [a2, a4]; exact lk_killsL t ns _ _ (H.eq t ht).1
  · rw [a1, a3]; exact lkm_killsM _ t ns _ _ (H.eq t ht).2
  · rw [a4]; exact lk_killsL_none t ns _ (H.no t ht)
theorem Rel.guard {ops : Array Oper} (H : Rel C hid σ s) {g : Option (Nat × Bool)} (hg : ∀ j b oj t, g = some (j, b) → ops[j]? = some oj → oj.dst = some t → ¬ hid t) : guardOf ops σ g = guardOf ops s g := by
  cases g with
  | none => rfl
  | some jb =>
    obtain ⟨j, b⟩ := jb
    unfold guardOf
    dsimp only
    cases hj : ops[j]? with
    | none => rfl
    | some oj =>
      dsimp only
      cases ht : oj.dst with
      | none => rfl
      | some t => dsimp only; rw [(H.eq t (hg j b oj t rfl hj ht)).1]
/-- Both fill a slot with the same. -/
theorem Rel.pt (H : Rel C hid σ s) {p : Path} {c : Bool} {d : Option Nat} (hd : ∀ t, d = some t → ¬ hid t) (hσ : σ.m.length = C.keep.length) (hs : s.m.length = C.keep.length) : Rel C hid (pt C σ p c d v) (Den.pt C s p c d v) := by
  cases d with
  | none => exact H
  | some t =>
    have ht := hd t rfl
    unfold Den.pt
    dsimp only
    by_cases hk : isIn C.keep t = true
    · rw [if_pos hk, if_pos hk]
      have key : ∀ x, Rel C hid { σ with m := stm C.keep σ.m t x } { s with m := stm C.keep s.m t x } := fun x => ⟨H.h, fun u hu => ⟨(H.eq u hu).1, by
        show lkm C.keep (stm C.keep σ.m t x) u = lkm C.keep (stm C.keep s.m t x) u
        rw [lkm_stm hk hσ u, lkm_stm hk hs u, (H.eq u hu).2]⟩, H.no⟩
      split <;> exact key _
    · rw [if_neg hk, if_neg hk]
      refine ⟨H.h, fun u hu => ⟨?_, (H.eq u hu).2⟩, fun u hu => ?_⟩
      · simp only [lk]; rw [(H.eq u hu).1]
      · simp only [lk]
        rw [if_neg (fun e => ht (by rw [e]; exact hu))]
        exact H.no u hu
/-- den goes ahead: the slot is hidden from then on. -/
theorem Rel.ahead (H : Rel C hid σ s) {p : Path} {c : Bool} {t : Nat} (hn : lk σ.l t = none) (hs : s.m.length = C.keep.length) : Rel C (fun u => hid u ∨ u = t) σ (Den.pt C s p c (some t) v) := by
  unfold Den.pt
  dsimp only
  by_cases hk : isIn C.keep t = true
  · rw [if_pos hk]
    have key : ∀ x, Rel C (fun u => hid u ∨ u = t) σ { s with m := stm C.keep s.m t x } := fun x => ⟨H.h, fun u hu => ⟨(H.eq u (fun h => hu (.inl h))).1, by
      show _ = lkm C.keep (stm C.keep s.m t x) u
      rw [lkm_stm hk hs u, if_neg (fun e => hu (.inr e))]
      exact (H.eq u (fun h => hu (.inl h))).2⟩, fun u hu => by rcases hu with hu | rfl; exact H.no u hu; exact hn⟩
    split <;> exact key _
  · rw [if_neg hk]
    refine ⟨H.h, fun u hu => ⟨?_, (H.eq u (fun h => hu (.inl h))).2⟩, fun u hu => by rcases hu with hu | rfl; exact H.no u hu; exact hn⟩
    simp only [lk]
    rw [if_neg (fun e => hu (.inr e.symm)), (H.eq u (fun h => hu (.inl h))).1]
/-- What the slot of an operation holds in s. -/
def Holds (C : Ctx) (s : St) (t : Nat) (p : Path) (c : Bool) (x : SV) : Prop :=
  (isIn C.keep t = false ∧ lk s.l t = some (p, c, x)) ∨ (isIn C.keep t = true ∧ lk s.l t = none ∧ lkm C.keep s.m t = x ∧ (p ≠ [] → x = .undef))
/-- The machine catches up. -/
theorem Rel.catch_up (H : Rel C hid σ s) {p : Path} {c : Bool} {t : Nat} {x : SV} (hx : Holds C s t p c x) (hn : lk σ.l t = none) (hσ : σ.m.length = C.keep.length) (hk2 : isIn C.keep t = false → lkm C.keep s.m t = .undef) : Rel C (fun u => hid u ∧ u ≠ t) (Den.pt C σ p c (some t) x) s := by
  unfold Den.pt
  dsimp only
  have other : ∀ u, ¬ (hid u ∧ u ≠ t) → u ≠ t → ¬ hid u := fun u h1 h2 h3 => h1 ⟨h3, h2⟩
  rcases hx with ⟨hk, hl⟩ | ⟨hk, hl, hm, hp⟩
  · rw [if_neg (by rw [hk]; simp)]
    refine ⟨H.h, fun u hu => ?_, fun u hu => ?_⟩
    · simp only [lk]
      by_cases hut : u = t
      · subst hut
        rw [if_pos rfl]
        exact ⟨hl.symm, by rw [lkm_none hk, lkm_none hk]⟩
      · rw [if_neg (Ne.symm hut)]
        exact H.eq u (other u hu hut)
    · simp only [lk]
      rw [if_neg (Ne.symm hu.2)]
      exact H.no u hu.1
  · rw [if_pos hk]
    have key : Rel C (fun u => hid u ∧ u ≠ t) { σ with m := stm C.keep σ.m t x } s := ⟨H.h, fun u hu => by
      show lk σ.l u = _ ∧ lkm C.keep (stm C.keep σ.m t x) u = _
      rw [lkm_stm hk hσ u]
      by_cases hut : u = t
      · subst hut; rw [if_pos rfl]; exact ⟨by rw [hn, hl], hm.symm⟩
      · rw [if_neg hut]; exact H.eq u (other u hu hut), fun u hu => H.no u hu.1⟩
    split
    · exact key
    · rename_i hne
      have := hp (fun e => hne e)
      rw [this] at key
      exact key
end Go.Den

/- Draw regions, third part: what the kernel looks at. -/
namespace Go.Den
open Go

def maskE (ms : List Nat) : List Edge → Nat
  | [] => 0
  | e :: es => if Region.binds .any e then (2 ^ e.on ||| ms.getD e.on 0) ||| maskE ms es else maskE ms es
/-- Of each operation, the operations that come before it: bit masks. -/
def befores : List Nat → List Oper → List Nat
  | ms, [] => ms
  | ms, o :: os => befores (ms ++ [maskE ms o.after.toList]) os
def bef (ms : List Nat) (i j : Nat) : Bool := (ms.getD i 0).testBit j
theorem maskE_bit {ms : List Nat} : ∀ {es : List Edge} {j : Nat}, (maskE ms es).testBit j = true ↔ ∃ e ∈ es, Region.binds .any e = true ∧ (j = e.on ∨ (ms.getD e.on 0).testBit j = true)
  | [], j => by simp [maskE]
  | e :: es, j => by
    simp only [maskE, List.mem_cons]
    split
    · rename_i hb
      rw [Nat.testBit_or, Nat.testBit_or, Nat.testBit_two_pow, Bool.or_eq_true, Bool.or_eq_true, maskE_bit]
      constructor
      · rintro ((h | h) | ⟨e', h1, h2⟩)
        · exact ⟨e, .inl rfl, hb, .inl (of_decide_eq_true h).symm⟩
        · exact ⟨e, .inl rfl, hb, .inr h⟩
        · exact ⟨e', .inr h1, h2⟩
      · rintro ⟨e', rfl | h1, h2, h3⟩
        · rcases h3 with h3 | h3
          · exact .inl (.inl (by simp [h3]))
          · exact .inl (.inr h3)
        · exact .inr ⟨e', h1, h2, h3⟩
    · rename_i hb
      rw [maskE_bit]
      constructor
      · rintro ⟨e', h1, h2⟩; exact ⟨e', .inr h1, h2⟩
      · rintro ⟨e', rfl | h1, h2, h3⟩
        · exact absurd h2 hb
        · exact ⟨e', h1, h2, h3⟩
theorem befores_spec : ∀ (os : List Oper) (ms : List Nat), ∃ r, befores ms os = ms ++ r ∧ r.length = os.length ∧ ∀ (i : Nat) o, os[i]? = some o → r[i]? = some (maskE (ms ++ r.take i) o.after.toList)
  | [], ms => ⟨[], by simp [befores], rfl, fun i o h => by simp at h⟩
  | o :: os, ms => by
    obtain ⟨r, h1, h2, h3⟩ := befores_spec os (ms ++ [maskE ms o.after.toList])
    refine ⟨maskE ms o.after.toList :: r, by simp [befores, h1], by simp [h2], fun i q hq => ?_⟩
    cases i with
    | zero => simp at hq; subst hq; simp
    | succ i => simp at hq; have := h3 i q hq; simpa using this
/-- A set that is closed under the edges is closed under 'before'. -/
theorem bef_closed {ops : List Oper} {X : Nat → Prop} (hX : ∀ i o, X i → ops[i]? = some o → ∀ e ∈ o.after.toList, Region.binds .any e = true → X e.on) : ∀ (i j : Nat), X i → bef (befores [] ops) i j = true → X j := by
  obtain ⟨r, h1, h2, h3⟩ := befores_spec ops []
  simp only [List.nil_append] at h1 h3
  intro i
  induction i using Nat.strongRecOn with
  | _ i ih =>
    intro j hi hb
    unfold bef at hb
    rw [h1] at hb
    cases ho : ops[i]? with
    | none =>
      have : r[i]? = none := by rw [List.getElem?_eq_none]; rw [List.getElem?_eq_none_iff] at ho; omega
      rw [List.getD_eq_getElem?_getD, this] at hb
      simp at hb
    | some o =>
      rw [List.getD_eq_getElem?_getD, h3 i o ho] at hb
      simp only [Option.getD_some, maskE_bit] at hb
      obtain ⟨e, he, hbind, hj⟩ := hb
      have hon := hX i o hi ho e he hbind
      rcases hj with rfl | hj
      · exact hon
      · by_cases hlt : e.on < i
        · refine ih e.on hlt j hon ?_
          unfold bef
          rw [h1]
          rw [List.getD_eq_getElem?_getD, List.getElem?_take, if_pos hlt] at hj
          rw [List.getD_eq_getElem?_getD]
          exact hj
        · rw [List.getD_eq_getElem?_getD, List.getElem?_take, if_neg hlt] at hj
          simp at hj
theorem bef_edge {ops : List Oper} {i : Nat} {o : Oper} (ho : ops[i]? = some o) {e : Edge} (he : e ∈ o.after.toList) (hb : Region.binds .any e = true) : bef (befores [] ops) i e.on = true := by
  obtain ⟨r, h1, h2, h3⟩ := befores_spec ops []
  simp only [List.nil_append] at h1 h3
  unfold bef
  rw [h1, List.getD_eq_getElem?_getD, h3 i o ho]
  simp only [Option.getD_some, maskE_bit]
  exact ⟨e, he, hb, .inl rfl⟩

/-- Is j among the operations done, with class k? -/
def hasD : List (Nat × Nat) → Nat → Nat → Bool
  | [], _, _ => false
  | (i, c) :: r, j, k => if i = j then (if c = k then true else hasD r j k) else hasD r j k
def anyD : List (Nat × Nat) → Nat → Bool
  | [], _ => false
  | (i, _) :: r, j => if i = j then true else anyD r j
def allD (p : Nat → Nat → Bool) : List (Nat × Nat) → Bool
  | [] => true
  | (i, c) :: r => p i c && allD p r
/-- Among the operations still to come: j, a turn. -/
def turnIn : List (Nat × Nat × List Nat) → Nat → Bool
  | [], _ => false
  | (i, c, _) :: r, j => if i = j then (if c = 1 then true else turnIn r j) else turnIn r j
/-- Whoever fills slot t, of those from number j on, comes before i, or is a turn that comes behind. -/
def readOk (ms : List Nat) (i k : Nat) (rest : List (Nat × Nat × List Nat)) (t : Nat) : Nat → List Oper → Bool
  | _, [] => true
  | j, o :: os => (match o.dst with
    | some d => if d = t then (bef ms i j || (bef ms j i && turnIn rest j) || (decide (i = j) && decide (k = 1))) else true
    | none => true) && readOk ms i k rest t (j + 1) os
def readsOk (ms : List Nat) (i k : Nat) (rest : List (Nat × Nat × List Nat)) (ops : List Oper) : List Nat → Bool
  | [] => true
  | t :: ts => readOk ms i k rest t 0 ops && readsOk ms i k rest ops ts
def subD (m : Nat) (done : List (Nat × Nat)) : Nat → Bool
  | 0 => true
  | j + 1 => (if m.testBit j then anyD done j else true) && subD m done j
def isAlloc (o : Oper) : Bool := match o.op, o.guard, o.dst with | .alloc _, none, some _ => true | .buildSlice _ 0 parts, none, some _ => parts.isEmpty | _, _, _ => false
def chkD (ops : Array Oper) (ms : List Nat) : List (Nat × Nat) → List (Nat × Nat × List Nat) → Bool
  | done, [] => (List.range ops.size).all (anyD done)
  | done, (i, k, js) :: r => (match ops[i]? with
    | none => false
    | some o => !anyD done i && subD (ms.getD i 0) done ops.size && readsOk ms i k r ops.toList (o.looksAt ops) &&
      (match k with
       | 0 => allD (fun j c => decide (c ≠ 1) || bef ms i j) done
       | 1 => allD (fun j c => decide (c ≠ 1) || bef ms i j) done && allD (fun j c => decide (c ≠ 0) || bef ms i j || isIn js j) done && js.all (fun j => hasD done j 0)
       | 2 => isAlloc o && decide (ms.getD i 0 = 0) && allD (fun _ c => decide (c = 2)) done
       | _ => false) && chkD ops ms ((i, k) :: done) r)
def edgesIn (n : Nat) : List Edge → Bool
  | [] => true
  | e :: es => (!Region.binds .any e || decide (e.on < n)) && edgesIn n es
def edgesAll (n : Nat) : List Oper → Bool
  | [] => true
  | o :: os => edgesIn n o.after.toList && edgesAll n os
theorem edgesIn_spec {n : Nat} : ∀ {es : List Edge}, edgesIn n es = true → ∀ e ∈ es, Region.binds .any e = true → e.on < n
  | [], _, e, he, _ => by simp at he
  | x :: es, h, e, he, hb => by
    simp only [edgesIn, Bool.and_eq_true] at h
    rcases List.mem_cons.1 he with rfl | he
    · have := h.1; rw [hb] at this; simpa using this
    · exact edgesIn_spec h.2 e he hb
theorem edgesAll_spec {n : Nat} : ∀ {os : List Oper}, edgesAll n os = true → ∀ (i : Nat) o, os[i]? = some o → ∀ e ∈ o.after.toList, Region.binds .any e = true → e.on < n
  | [], _, i, o, h => by simp at h
  | x :: os, h, i, o, ho => by
    simp only [edgesAll, Bool.and_eq_true] at h
    cases i with
    | zero => simp at ho; subst ho; exact edgesIn_spec h.1
    | succ i => exact edgesAll_spec h.2 i o (by simpa using ho)
def chkDraw (n : Nat) (ops : Array Oper) (order : List (Nat × Nat × List Nat)) : Bool := chkOps n [] ops.toList && edgesAll ops.size ops.toList && chkD ops (befores [] ops.toList) [] order
end Go.Den
