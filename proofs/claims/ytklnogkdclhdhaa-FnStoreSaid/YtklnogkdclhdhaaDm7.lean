/- The evaluator of Go code over plain data, and its soundness: part 7 of 8. -/
import Derived.Test.YtklnogkdclhdhaaDm6
import Derived.LoopN
set_option linter.unusedVariables false
set_option linter.unusedSimpArgs false
/- Draw regions, last part: every order comes to what den says. -/
namespace Go.Den
open Go
variable {C : Ctx} {R : Rt} {G G' G0 G1 : Gh} {st st1 st2 σ σ1 σ2 s s1 s2 : St} {a a' : Act} {w w' : World} {o : Oper} {v x : SV} {ops : Array Oper} {ms : List Nat} {X : Nat → Prop} {n : Nat} {done : List (Nat × Nat)} {suf : List (Nat × Nat × List Nat)}

theorem frames_mem {hs bs : List Nat} : ∀ {js : List Nat}, frames C ops st hs bs js = true → ∀ j ∈ js, frame1 C ops st hs bs j = true
  | [], _, j, hj => by simp at hj
  | i :: js, h, j, hj => by
    simp only [frames, Bool.and_eq_true] at h
    rcases List.mem_cons.1 hj with rfl | hj
    · exact h.1
    · exact frames_mem h.2 j hj
theorem calms_mem {hs : List Nat} : ∀ {ts : List Nat}, calms C st hs ts = true → ∀ t ∈ ts, calm C st hs t = true
  | [], _, t, ht => by simp at ht
  | x :: ts, h, t, ht => by
    simp only [calms, Bool.and_eq_true] at h
    rcases List.mem_cons.1 ht with rfl | ht
    · exact h.1
    · exact calms_mem h.2 t ht
theorem quiets_mem {hs : List Nat} : ∀ {ts : List Nat}, quiets C st hs ts = true → ∀ t ∈ ts, quiet C st hs t = true
  | [], _, t, ht => by simp at ht
  | x :: ts, h, t, ht => by
    simp only [quiets, Bool.and_eq_true] at h
    rcases List.mem_cons.1 ht with rfl | ht
    · exact h.1
    · exact quiets_mem h.2 t ht
/-- 'again' stands where nothing is touched that it looks at. -/
theorem again_frame {i : Nat} {hs bs : List Nat} (A : Frm hs bs s s1) (hf : frame1 C ops s hs bs i = true) (H : again C ops s i) : again C ops s1 i := by
  unfold frame1 at hf
  unfold again at H ⊢
  cases ho : ops[i]? with
  | none => rw [ho] at H; exact H
  | some o =>
    rw [ho] at H hf
    dsimp only at H hf ⊢
    rw [Bool.and_eq_true] at hf
    have both : (∀ t ∈ o.looksAt ops, lk s1.l t = lk s.l t) ∧ ∀ p, light C s1 p o.op = light C s p o.op := by
      by_cases hd : dry o.op = true
      · have hf1 := hf.1
        rw [if_pos hd] at hf1
        have look : ∀ t ∈ o.looksAt ops, lk s1.l t = lk s.l t ∧ ∀ p, gt C s1 p t = gt C s p t := fun t ht => by
          obtain ⟨h1, _, h3⟩ := quiet_spec (quiets_mem hf1 t ht) A
          exact ⟨h1, h3⟩
        exact ⟨fun t ht => (look t ht).1, fun p => light_dry hd (fun t ht p => (look t (looks_tmp ht)).2 p) p⟩
      · have hf1 := hf.1
        rw [if_neg hd] at hf1
        have look : ∀ t ∈ o.looksAt ops, lk s1.l t = lk s.l t ∧ ∀ p, gt C s1 p t = gt C s p t ∧ SeeV s s1 (gt C s p t) := fun t ht => by
          obtain ⟨h1, _, h3⟩ := calm_spec (calms_mem hf1 t ht) A
          exact ⟨h1, h3⟩
        exact ⟨fun t ht => (look t ht).1, fun p => light_see (fun t ht p => ((look t (looks_tmp ht)).2 p).1) (fun t ht p => ((look t (looks_tmp ht)).2 p).2)⟩
    have e1 : guardOf ops s1 o.guard = guardOf ops s o.guard := guard_of_eq fun j b oj t hg hj ht => both.1 t (looks_guard hg hj ht)
    have e2 := both.2
    rw [e1]
    cases hg : guardOf ops s o.guard with
    | none => rw [hg] at H; exact H
    | some pc =>
      obtain ⟨p, c⟩ := pc
      rw [hg] at H
      dsimp only at H ⊢
      rw [e2]
      cases hd : o.dst with
      | none => rw [hd] at H; exact H
      | some t =>
        rw [hd] at H hf
        dsimp only at H hf ⊢
        obtain ⟨e3, e4, _⟩ := quiet_spec hf.2 A
        have e5 : holdsV C s1 t p c = holdsV C s t p c := by
          unfold holdsV
          rw [e3]
          cases hl : lk s.l t with
          | some e => rfl
          | none => rw [hl] at e4; dsimp only at e4; rw [e4]
        rw [e5]
        exact H

def PtrOr (x0 : SV) (x : SV) : Prop := (∃ n, x0 = .ptr n 0 ∨ x0 = .own n) ∧ (x = x0 ∨ x = .undef)
theorem ptrOr_kill {x0 : SV} {n : Nat} (h : PtrOr x0 x) : PtrOr x0 (killV n x) := by
  obtain ⟨⟨k, hk⟩, h⟩ := h
  refine ⟨⟨k, hk⟩, ?_⟩
  rcases h with rfl | rfl
  · rcases hk with rfl | rfl
    all_goals
      simp only [killV, killA, killC]
      split
      · exact .inr rfl
      · exact .inl rfl
  · exact .inr rfl
theorem NewK.or {d : Nat} {b : Blk} {x0 : SV} (h : NewK C o d b x0) : ∃ n, x0 = .ptr n 0 ∨ x0 = .own n := by
  cases h
  · exact ⟨_, .inl rfl⟩
  · exact ⟨_, .inr rfl⟩
theorem holds_kill {d n : Nat} {x0 : SV} {m : List SV} {l : List (Nat × Path × Bool × SV)} {h h' : List (Nat × Blk)} (e : ∃ x, holdsV C ⟨m, l, h⟩ d [] true = some x ∧ PtrOr x0 x) : ∃ x, holdsV C ⟨killM n m, killL n l, h'⟩ d [] true = some x ∧ PtrOr x0 x := by
  obtain ⟨x, h1, h2⟩ := e
  unfold holdsV at h1 ⊢
  dsimp only at h1 ⊢
  rw [lk_killL, lkm_killM]
  by_cases hk : isIn C.keep d = true
  · rw [if_pos hk] at h1 ⊢
    cases hl : lk l d with
    | none => rw [hl] at h1; simp at h1; subst h1; exact ⟨_, rfl, ptrOr_kill h2⟩
    | some q => rw [hl] at h1; cases h1
  · rw [if_neg hk] at h1 ⊢
    cases hl : lk l d with
    | none => rw [hl] at h1; cases h1
    | some q =>
      obtain ⟨q, c, y⟩ := q
      rw [hl] at h1
      dsimp only [Option.map] at h1 ⊢
      split at h1
      · rename_i hc; rw [if_pos hc]; cases h1; exact ⟨_, rfl, ptrOr_kill h2⟩
      · cases h1
theorem holds_kills {d : Nat} {x0 : SV} : ∀ (ns : List Nat) {m : List SV} {l : List (Nat × Path × Bool × SV)} {h h' : List (Nat × Blk)}, (∃ x, holdsV C ⟨m, l, h⟩ d [] true = some x ∧ PtrOr x0 x) → ∃ x, holdsV C ⟨killsM ns m, killsL ns l, h'⟩ d [] true = some x ∧ PtrOr x0 x
  | [], m, l, h, h', e => e
  | n :: ns, m, l, h, h', e => holds_kills ns (h := h) (holds_kill (h' := h) e)
theorem holds_sim {d : Nat} {x0 : SV} (A : Sim s s2 σ σ2) (e : ∃ x, holdsV C s d [] true = some x ∧ PtrOr x0 x) : ∃ x, holdsV C s2 d [] true = some x ∧ PtrOr x0 x := by
  obtain ⟨ns, a1, a2, _, _, _⟩ := A
  have := holds_kills (C := C) (d := d) (x0 := x0) ns (m := s.m) (l := s.l) (h := s.h) (h' := s2.h) e
  rw [← a1, ← a2] at this
  exact this
theorem killsM_len : ∀ (ns : List Nat) (m : List SV), (killsM ns m).length = m.length
  | [], m => rfl
  | n :: ns, m => by rw [killsM, killsM_len ns, killM_len]
theorem killsL_some (t : Nat) : ∀ (ns : List Nat) (l : List (Nat × Path × Bool × SV)), (lk (killsL ns l) t).isSome = (lk l t).isSome
  | [], l => rfl
  | n :: ns, l => by rw [killsL, killsL_some t ns, lk_killL]; cases lk l t <;> rfl

/-- A turn. -/
theorem Mid.turn {p : Path} {c : Bool} {i : Nat} {js : List Nat} {r : List (Nat × Nat × List Nat)} (M : Mid C R ops ms n X done ((i, 1, js) :: r) s σ G a w) (K : Chk ops ms done i 1 js r o) (hr : ∀ j, bef ms i j = true → X j) (A : Sim s s2 σ σ2) (hF2 : Frm (hitsOf hits C ops s o) (hitsOf hitsB C ops s o) s s2) (hag : frames C ops s (hitsOf hits C ops s o) (hitsOf hitsB C ops s o) js = true)
    (hinv : Inv C R G' (pt C σ2 p c o.dst v) a' w') (hm : σ2.m.length = C.keep.length) (hsz : a'.tmps.size = a.tmps.size) (hF : Fr G σ.h G' σ2.h) : Mid C R ops ms n (fun j => X j ∨ j = i) ((i, 1) :: done) r (pt C s2 p c o.dst v) (pt C σ2 p c o.dst v) G' a' w' := by
  have hX : ¬ X i := M.notX K.new
  have hsm : s2.m.length = C.keep.length := by obtain ⟨ns, a1, _⟩ := A; rw [a1, killsM_len]; exact M.sm
  have hs2l : ∀ t, (lk s2.l t).isSome = (lk s.l t).isSome := fun t => by obtain ⟨ns, _, a2, _⟩ := A; rw [a2, killsL_some]
  have hσ2l : ∀ t, (lk σ2.l t).isSome = (lk σ.l t).isSome := fun t => by obtain ⟨ns, _, _, _, a4, _⟩ := A; rw [a4, killsL_some]
  have hnh : ∀ t, o.dst = some t → ¬ Hid ops X done t := fun t ht ⟨j, oj, h1, h2, h3, h4⟩ => by
    have := M.one K.ho h3 ht h4; subst this; rw [K.new] at h1; cases h1
  have R2 := (M.rel.sim A).pt (v := v) (p := p) (c := c) hnh hm hsm
  have hjs : ∀ j, hasD done j 0 = true → ¬ (X j ∨ j = i) → again C ops (pt C s2 p c o.dst v) j := fun j hj hxj => by
    rcases K.again rfl j hj with h | h
    · exact absurd (.inl (hr j h)) hxj
    · have h2 := again_frame hF2 (frames_mem hag j h) (M.ag j hj (fun hx => hxj (.inl hx)))
      refine again_of_eq (pt_h _ _ _ _ _) (fun o' t ho' ht => pt_other (fun hd => ?_) hsm) h2
      rcases ht with ht | ht
      · rcases M.rd j o' t i o (hasD_any hj) (fun hx => hxj (.inl hx)) ho' ht K.ho hd with hb | ⟨hb, _⟩
        · have := M.wf.closed j i (hasD_any hj) (lt_of_get K.ho) hb
          rw [K.new] at this; cases this
        · exact hxj (.inl (hr j hb))
      · have := M.one ho' K.ho ht hd
        exact hxj (.inr this)
  refine { dst := M.dst, chk := K.next, wf := ⟨fun j hj hb => K.sub j hj hb, M.wf⟩, dx := fun j hj => ?_, cl := fun j k hj hb => ?_, tx := fun j hj => ?_, kk := fun j hj => ?_, rd := fun j o' t k oj h1 h2 ho' ht hk hd => ?_, rel := ?_, ag := fun j hj hxj => ?_, al := fun j hj hxj => ?_, inv := hinv, sm := by rw [pt_m]; exact hsm, lx := ?_, ls := fun t ht => ?_, sz := hsz.trans M.sz }
  · rw [anyD_cons]
    rcases hj with hj | rfl
    · exact .inr (M.dx j hj)
    · exact .inl rfl
  · rcases hj with hj | rfl
    · exact .inl (M.cl j k hj hb)
    · exact .inl (hr k hb)
  · rw [hasD_cons] at hj
    rcases hj with ⟨rfl, _⟩ | hj
    · exact .inr rfl
    · exact .inl (M.tx j hj)
  · rw [anyD_cons] at hj
    simp only [hasD_cons]
    rcases hj with rfl | hj
    · exact .inr (.inl (by simp))
    · rcases M.kk j hj with h | h | h
      · exact .inl (.inr h)
      · exact .inr (.inl (.inr h))
      · exact .inr (.inr (.inr h))
  · rw [anyD_cons] at h1
    rcases h1 with rfl | h1
    · exact absurd (.inr rfl) h2
    · rcases M.rd j o' t k oj h1 (fun h => h2 (.inl h)) ho' ht hk hd with h | ⟨h, h'⟩
      · exact .inl h
      · simp only [turnIn] at h'
        by_cases e : i = k
        · subst e
          exact absurd (.inl (hr j h)) h2
        · rw [if_neg e] at h'
          exact .inr ⟨h, h'⟩
  · refine R2.congr fun t => ⟨fun ⟨j, oj, h1, h2, h3, h4⟩ => ?_, fun ⟨j, oj, h1, h2, h3, h4⟩ => ⟨j, oj, (anyD_cons _ _ _ _).2 (.inr h1), fun h => ?_, h3, h4⟩⟩
    · rw [anyD_cons] at h1
      rcases h1 with rfl | h1
      · exact absurd (.inr rfl) h2
      · exact ⟨j, oj, h1, fun h => h2 (.inl h), h3, h4⟩
    · rcases h with h | rfl
      · exact h2 h
      · rw [K.new] at h1; cases h1
  · rw [hasD_cons] at hj
    rcases hj with ⟨_, h⟩ | hj
    · cases h
    · exact hjs j hj hxj
  · rw [hasD_cons] at hj
    rcases hj with ⟨_, h⟩ | hj
    · cases h
    · obtain ⟨o', d, b, y0, h1, h3, h4, h5, h6, y, h7, h8⟩ := M.al j hj (fun h => hxj (.inl h))
      obtain ⟨z, h9, h10⟩ := holds_sim (C := C) (d := d) (x0 := y0) A ⟨y, h7, h5.or, h8⟩
      have hne : o.dst ≠ some d := fun e => by
        have := M.one h1 K.ho h4 e
        exact hxj (.inr this)
      obtain ⟨e3, e4⟩ := pt_other (C := C) (st := s2) (p := p) (c := c) (v := v) hne hsm
      exact ⟨o', d, b, y0, h1, h3, h4, h5, by rw [pt_h]; exact hF _ _ h6, z, by rw [holdsV_of_eq e3 e4]; exact h9, h10.2⟩
  · exact lx_pt (fun t ht => M.lx t (by rw [← hσ2l t]; exact ht)) K.ho rfl
  · unfold pt at ht
    cases hd : o.dst with
    | none => rw [hd] at ht; exact M.ls t (by rw [← hs2l t]; exact ht)
    | some d =>
      rw [hd] at ht
      dsimp only at ht
      split at ht
      · exact M.ls t (by rw [← hs2l t]; cases p <;> exact ht)
      · rename_i hk
        simp only [lk] at ht
        split at ht
        · rename_i e; subst e; simpa using hk
        · exact M.ls t (by rw [← hs2l t]; exact ht)

theorem Mid.hereOf {p : Path} (M : Mid C R ops ms n X done suf s σ G a w) (hp : PathC σ.l p true) : Here C R G σ a w p := ⟨M.inv.W, M.inv.bare, M.inv.l, hp⟩
theorem Rel.atP {hid : Nat → Prop} (H : Rel C hid σ s) (p : Path) : Rel C hid (atP p σ) (atP p s) :=
  ⟨H.h, fun t ht => ⟨by show lk (atL p σ.l) t = lk (atL p s.l) t; rw [lk_atL, lk_atL, (H.eq t ht).1], (H.eq t ht).2⟩, fun t ht => by show lk (atL p σ.l) t = none; rw [lk_atL, H.no t ht]; rfl⟩
theorem killsV_d (d : D) : ∀ ns : List Nat, killsV ns (.d d) = .d d
  | [] => rfl
  | n :: ns => killsV_d d ns
theorem killsL_cons (t : Nat) (q : Path) (c : Bool) (v : SV) (r : List (Nat × Path × Bool × SV)) : ∀ ns : List Nat, ∀ v : SV, killsL ns ((t, q, c, v) :: r) = (t, q, c, killsV ns v) :: killsL ns r := by
  intro ns
  induction ns generalizing r with
  | nil => intro v; rfl
  | cons n ns ih => intro v; exact ih (killL n r) (killV n v)
theorem killsL_nil : ∀ ns : List Nat, killsL ns [] = []
  | [] => rfl
  | _ :: ns => killsL_nil ns
theorem zipL_kills (p : Path) (ns : List Nat) : ∀ l : List (Nat × Path × Bool × SV), zipL l (killsL ns (atL p l)) = killsL ns l
  | [] => by rw [atL, killsL_nil]; rfl
  | (t, q, c, v) :: r => by
    rw [atL, killsL_cons t _ _ v _ ns v, killsL_cons t _ _ v _ ns v, zipL, zipL_kills p ns r]
theorem pathC_kills {l : List (Nat × Path × Bool × SV)} {p : Path} {c : Bool} (ns : List Nat) (h : PathC l p c) : PathC (killsL ns l) p c := by
  rcases h with h | ⟨q, t, b, c', x, h1, h2, h3⟩
  · exact .inl h
  · exact .inr ⟨q, t, b, c', x, h1, by rw [lk_killsV, h2]; simp [killsV_d], h3⟩
/-- One who stood at p goes back; what is gone is gone. -/
theorem unatK_inv {p : Path} {st1 : St} {G' : Gh} {ns : List Nat} (H0 : Inv C R G σ a w) (H1 : Inv C R G' st1 a w') (el : st1.l = killsL ns (atP p σ).l) : Inv C R G' ⟨st1.m, killsL ns σ.l, st1.h⟩ a w' := by
  refine ⟨H1.W, H1.B, H1.all, fun t => ?_, fun t q c v h => ?_, H1.m⟩
  · have h0 := H0.slots t
    have h1 := H1.slots t
    unfold SlotR at h0 h1 ⊢
    dsimp only
    rw [el, lk_killsV, show lk (atP p σ).l t = _ from lk_atL p σ.l t] at h1
    rw [lk_killsV]
    cases hl : lk σ.l t with
    | none => rw [hl] at h1; exact h1
    | some e =>
      obtain ⟨q, c, v⟩ := e
      rw [hl] at h0 h1
      dsimp only [Option.map] at h0 h1 ⊢
      cases c with
      | false => exact h0
      | true =>
        simp only [if_true]
        cases hs : strip p q with
        | nil => rw [hs] at h1; exact h1
        | cons x r => rw [hs] at h1; exact h1
  · dsimp only at h
    rw [lk_killsV] at h
    cases hl : lk σ.l t with
    | none => rw [hl] at h; cases h
    | some e =>
      obtain ⟨q', c', v'⟩ := e
      rw [hl] at h
      cases h
      exact pathC_kills ns (H0.l _ _ _ _ hl)
/-- One operation of the machine. -/
theorem Mid.step {Q : Exit → Act → World → Prop} {i : Nat} {p0 : List Nat} (hlo : loOps p0 ops.toList = true) (hC : CtxOk C) (M : Mid C R ops ms n X done suf s σ G a w) (hsuf : suf = [] ∨ ∃ i js r, suf = (i, 1, js) :: r) (hrun : runDraw C ops suf s = some st2) (hi : i < ops.size) (hX : ¬ X i) (hr : ∀ j, bef ms i j = true → X j) (K : Act → World → Prop)
    (hK : ∀ done' suf' s' σ' G' a' w', Mid C R ops ms n (fun j => X j ∨ j = i) done' suf' s' σ' G' a' w' → runDraw C ops suf' s' = some st2 → (suf' = [] ∨ ∃ i js r, suf' = (i, 1, js) :: r) → Still p0 a a' → K a' w') : wpOp C.P ops Q i K a w := by
  obtain ⟨o, ho⟩ : ∃ o, ops[i]? = some o := ⟨ops[i], by simp [hi]⟩
  have hst : ∀ val, Still p0 a (a.put o.dst val) := fun val => put_still (loOps_mem hlo o (by rw [← Array.getElem?_toList] at ho; exact List.mem_of_getElem? ho))
  unfold wpOp
  rw [ho]
  dsimp only
  have hfree : ∀ t, o.dst = some t → lk σ.l t = none ∧ t < a.tmps.size := fun t hd => by
    refine ⟨?_, M.lt ho hd⟩
    cases he : lk σ.l t with
    | none => rfl
    | some e =>
      obtain ⟨⟨j, oj, h1, h2, h3⟩, _⟩ := M.lx t (by rw [he]; rfl)
      have := M.one ho h2 hd h3
      subst this
      exact absurd h1 hX
  by_cases hdone : anyD done i = true
  · have hv := M.vis ho hdone hX hr
    rcases M.kk i hdone with h0 | h1 | h2
    · -- changes nothing
      have hag := M.ag i h0 hX
      unfold again at hag
      rw [ho] at hag
      dsimp only at hag
      cases hg : guardOf ops s o.guard with
      | none => rw [hg] at hag; exact hag.elim
      | some pc =>
        obtain ⟨p, c⟩ := pc
        rw [hg] at hag
        dsimp only at hag
        obtain ⟨hp, hpc, hw⟩ := guard_rel M.inv (M.guard hv hg)
        rw [hw]
        have lc : ∀ p, Den.light C σ p o.op = Den.light C s p o.op := fun p => light_congr M.rel.h fun t ht q => M.rel.gt (hv t (looks_tmp ht)) q
        -- the slot's value
        have hag' : ∃ x, (∀ t, o.dst = some t → holdsV C s t p c = some x) ∧ (c = false ∨ ∃ v, Den.light C s p o.op = some (true, v) ∧ (x = .undef ∨ v = x)) := by
          cases hd : o.dst with
          | none =>
            rw [hd] at hag
            refine ⟨.undef, fun t h => (by cases h), ?_⟩
            rcases hag with h | ⟨v, h⟩
            · exact .inl h
            · exact .inr ⟨v, h, .inl rfl⟩
          | some t =>
            rw [hd] at hag
            dsimp only at hag
            cases hh : holdsV C s t p c with
            | none => rw [hh] at hag; exact hag.elim
            | some x => rw [hh] at hag; exact ⟨x, fun t' h => by cases h; exact hh, hag⟩
        obtain ⟨x, hx, hcv⟩ := hag'
        cases c with
        | false =>
          simp only [Bool.false_eq_true, if_false]
          refine hK done suf s _ G _ w (M.caught (p := p) (c := false) (x := x) ho hdone hX hr (put_inv M.inv rfl hp hpc hfree) (put_size _ _ _).1 hx (fun _ _ _ h => h)) hrun hsuf (hst _)
        | true =>
          simp only [if_true]
          rcases hcv with hcv | ⟨v, hl, hxv⟩
          · cases hcv
          · refine .inl (light_sound hC (M.hereOf hp) (fun t _ => M.inv.slots t) ((lc p).trans hl) (fun val w' hext hval => ?_))
            have hval' : VRel R G σ.h x val := by
              rcases hxv with rfl | rfl
              · trivial
              · exact hval
            refine hK done suf s _ G _ w' (M.caught (p := p) (c := true) (x := x) ho hdone hX hr (put_inv (inv_ext M.inv hext) hval' hp hpc hfree) (put_size _ _ _).1 hx (fun _ _ _ h => h)) hrun hsuf (hst _)
    · exact absurd (M.tx i h1) hX
    · -- an alloc
      obtain ⟨o', d, b, x0, e1, e3, e4, e5, e6, x, e7, e8⟩ := M.al i h2 hX
      rw [ho] at e1
      cases e1
      have hw : Region.wanted o (yielded ops a.tmps) = true := by simp [Region.wanted, e3]
      rw [hw]
      simp only [if_true]
      refine .inl ?_
      cases e5 with
      | al t zs e2 e5 =>
        obtain ⟨ti, z, h1, h2, h3, h4, h5, h6⟩ := ty_zero e5
        have hcl := cellsR_svZs (R := R) (G := G) (h := σ.h) (zs := zs) (vs := z.cells.toList) (by simpa using h4.symm) h6
        have hrn : (execOp a.eval o).run C.P w = .ok (.value (.pointer (some ⟨w.heap.size, 0, none⟩))) (w.alloc (.cells z.cells t)) := by
          simp [execOp, e2, Instr.alloc, zeroValue, typeInfo, h1, h2, newVar, newRow]
        unfold Oper.wp
        rw [hrn]
        obtain ⟨i1, i2, i3⟩ := born_inv (cur := z.cells) (e := t) M.inv e6 (ext_alloc w _) (heap_alloc_new w _) (size_alloc w _) (by rw [svZs_len, h4]; exact Nat.le_refl _) (fun j y hj => by obtain ⟨u, k1, k2, k3⟩ := hcl.2 j y hj; exact ⟨u, by simpa using k1, k2, k3⟩)
        have hval : VRel R (G.add (nm d 0) (w.heap.size, 0) undef (· = w.heap.size)) σ.h x (.pointer (some ⟨w.heap.size, 0, none⟩)) := by
          rcases e8 with rfl | rfl
          · exact i2
          · trivial
        refine hK done suf s _ _ _ _ (M.caught (p := []) (c := true) (x := x) ho hdone hX hr (put_inv i1 hval (.inl ⟨rfl, rfl⟩) (fun _ => rfl) hfree) (put_size _ _ _).1 (fun t' ht' => by rw [e4] at ht'; cases ht'; exact e7) (fun d' cs hne h => i3 _ _ (fun e => hne d e4 (by have e' : d' * 64 + 0 = d * 64 + 0 := e; exact Nat.eq_of_mul_eq_mul_right (by decide : 0 < 64) e')) h)) hrun hsuf (hst _)
      | bs t el zs e2 ht hz =>
        obtain ⟨hz1, hpos, hE⟩ := elz_ok hz
        obtain ⟨ti, z, h1, h2, h3, h4, h5, h6⟩ := ty_zero hz1
        obtain ⟨_, _, hu, _⟩ := ty_sl ht
        have hrn : (execOp a.eval o).run C.P w = .ok (.value (.slice (some ⟨w.heap.size, 0, none⟩) 0 0)) (w.alloc (.cells #[] el)) := by
          have key : (Instr.buildSlice t 0 #[]).run C.P w = .ok (.slice (some ⟨w.heap.size, 0, none⟩) 0 0) (w.alloc (.cells #[] el)) := by
            simp [Instr.buildSlice, run_underlying hu, sizeOf, typeInfo, h1, h3, Instr.fill, newRow, Array.range_zero']
          simp only [execOp, e2]
          simp [key]
        unfold Oper.wp
        rw [hrn]
        obtain ⟨i1, i2, i3⟩ := born_row (cur := #[]) (e := el) M.inv e6 (ext_alloc w _) (heap_alloc_new w _) (size_alloc w _) hE
        have hval : VRel R (G.add (nm d 0) (0, 0) (.slice (some ⟨w.heap.size, 0, none⟩) 0 0) (· = w.heap.size)) σ.h x (.slice (some ⟨w.heap.size, 0, none⟩) 0 0) := by
          rcases e8 with rfl | rfl
          · exact i2
          · trivial
        refine hK done suf s _ _ _ _ (M.caught (p := []) (c := true) (x := x) ho hdone hX hr (put_inv i1 hval (.inl ⟨rfl, rfl⟩) (fun _ => rfl) hfree) (put_size _ _ _).1 (fun t' ht' => by rw [e4] at ht'; cases ht'; exact e7) (fun d' cs hne h => i3 _ _ (fun e => hne d e4 (by have e' : d' * 64 + 0 = d * 64 + 0 := e; exact Nat.eq_of_mul_eq_mul_right (by decide : 0 < 64) e')) h)) hrun hsuf (hst _)
  · -- the next turn
    have hdone' : anyD done i = false := by simpa using hdone
    rcases hsuf with rfl | ⟨i0, js, r, rfl⟩
    · have hc := M.chk
      simp only [chkD, List.all_eq_true, List.mem_range] at hc
      exact absurd (hc i hi) hdone
    · obtain ⟨o', Kc⟩ := chkD_cons M.chk
      by_cases e : i = i0
      · subst e
        rw [Kc.ho] at ho
        cases ho
        obtain ⟨s1, hs1, hag, hnext⟩ := runDraw_cons hrun Kc.ho
        obtain ⟨p, c, hg, hs1⟩ := stepD_turn hs1
        have hv := M.vis_turn Kc hr
        obtain ⟨hp, hpc, hw⟩ := guard_rel M.inv (M.guard hv hg)
        rcases hs1 with ⟨rfl, hs1⟩ | ⟨hpn, hs1⟩
        · have hc := hpc rfl
          subst hc
          rw [hw]
          simp only [if_true]
          refine .inl ?_
          rcases hs1 with ⟨v, hl, rfl⟩ | ⟨hln, v, s2, hh, rfl⟩
          · have lc : Den.light C σ [] o.op = Den.light C s [] o.op := light_congr M.rel.h fun t ht q => M.rel.gt (hv t (looks_tmp ht)) q
            refine light_sound hC (M.hereOf hp) (fun t _ => M.inv.slots t) (lc.trans hl) (fun val w' hext hval => ?_)
            have M1 := M.turn (v := v) (s2 := s) (σ2 := σ) Kc hr (.refl M.rel.h) (.refl _ _ _) hag (put_inv (inv_ext M.inv hext) (c := true) hval hp hpc hfree) M.inv.m (put_size _ _ _).1 (Fr.refl _ _)
            obtain ⟨done', suf', s', σ', M2, h1, h2⟩ := M1.advance hnext
            exact hK done' suf' s' σ' _ _ _ M2 h1 h2 (hst _)
          · obtain ⟨σ2, k1, k2⟩ := heavy_sim (st' := σ) M.rel.h (fun t ht => M.rel.gt (hv t (looks_tmp ht)) []) hh
            refine heavy_sound hC M.inv k1 _ _ (fun val w' G' j1 j2 j3 => ?_)
            have hfree' : ∀ t, o.dst = some t → lk σ2.l t = none ∧ t < a.tmps.size := fun t ht => by
              refine ⟨?_, (hfree t ht).2⟩
              have := sameL_heavy k1 t
              rw [(hfree t ht).1] at this
              cases he : lk σ2.l t with
              | none => rfl
              | some q => rw [he] at this; cases this
            have M1 := M.turn (v := v) (s2 := s2) (σ2 := σ2) Kc hr k2 (by unfold hitsOf; rw [hg]; dsimp only; rw [hln]; exact heavy_frm hh) hag (put_inv j1 (c := true) j2 (.inl ⟨rfl, rfl⟩) (fun _ => rfl) hfree') j1.m (put_size _ _ _).1 j3
            obtain ⟨done', suf', s', σ', M2, h1, h2⟩ := M1.advance hnext
            exact hK done' suf' s' σ' _ _ _ M2 h1 h2 (hst _)
        · rw [hw]
          rcases hs1 with ⟨rfl, rfl⟩ | ⟨rfl, hemp, v, s2, hh, rfl⟩
          · simp only [Bool.false_eq_true, if_false]
            have M1 := M.turn (p := p) (c := false) (v := .undef) (s2 := s) (σ2 := σ) Kc hr (.refl M.rel.h) (.refl _ _ _) hag (put_inv M.inv rfl hp hpc hfree) M.inv.m (put_size _ _ _).1 (Fr.refl _ _)
            obtain ⟨done', suf', s', σ', M2, h1, h2⟩ := M1.advance hnext
            exact hK done' suf' s' σ' _ _ _ M2 h1 h2 (hst _)
          · simp only [if_true]
            refine .inl ?_
            have hA : ∀ t, Operand.tmp t ∈ o.op.operands.toList → Den.gt C (atP p σ) [] t = Den.gt C (atP p s) [] t := fun t ht => (M.rel.atP p).gt (hv t (looks_tmp ht)) []
            obtain ⟨σ2, k1, k2⟩ := heavy_sim (st' := atP p σ) (show (atP p σ).h = (atP p s).h from M.rel.h) hA hh
            obtain ⟨ns, a1, a2, a3, a4, a5⟩ := k2
            have z1 : zipL s.l s2.l = killsL ns s.l := by rw [a2]; exact zipL_kills p ns s.l
            have z2 : zipL σ.l σ2.l = killsL ns σ.l := by rw [a4]; exact zipL_kills p ns σ.l
            obtain ⟨nf, f1, f2, f3, f4⟩ := heavy_frm hh
            have f3' : zipL s.l s2.l = killsL nf s.l := by rw [f3]; exact zipL_kills p nf s.l
            refine heavy_sound hC (atP_inv M.inv hp) k1 _ _ (fun val w' G' j1 j2 j3 => ?_)
            have hi : Inv C R G' ⟨σ2.m, zipL σ.l σ2.l, σ2.h⟩ a w' := by rw [z2]; exact unatK_inv M.inv j1 a4
            have hp' : PathC (zipL σ.l σ2.l) p true := by rw [z2]; exact pathC_kills ns hp
            have hfree' : ∀ t, o.dst = some t → lk (zipL σ.l σ2.l) t = none ∧ t < a.tmps.size := fun t ht => by
              refine ⟨?_, (hfree t ht).2⟩
              rw [z2]; exact lk_killsL_none t ns _ (hfree t ht).1
            have M1 := M.turn (p := p) (c := true) (v := v) (s2 := ⟨s2.m, zipL s.l s2.l, s2.h⟩) (σ2 := ⟨σ2.m, zipL σ.l σ2.l, σ2.h⟩) Kc hr ⟨ns, a1, z1, a3, z2, a5⟩ ⟨nf, fun n h => by rw [hemp]; exact f1 n h, f2, f3', fun n b hb hn hm => f4 n b hb (fun h => hn (by rw [hemp]; exact h)) (fun h => hm (by rw [hemp]; exact h))⟩ hag (put_inv hi j2 hp' hpc hfree') hi.m (put_size _ _ _).1 j3
            obtain ⟨done', suf', s', σ', M2, h1, h2⟩ := M1.advance hnext
            exact hK done' suf' s' σ' _ _ _ M2 h1 h2 (hst _)
      · have hb := behind_turn Kc.next ((hasD_cons _ _ _ _ _).2 (.inl ⟨rfl, rfl⟩)) hi (by
          cases he : anyD ((i0, 1) :: done) i with
          | false => rfl
          | true =>
            rw [anyD_cons] at he
            rcases he with he | he
            · exact absurd he.symm e
            · exact absurd he hdone)
        have := M.dx i0 (hr i0 hb)
        rw [Kc.new] at this; cases this
/-- All are listed: the state is den's. -/
theorem Mid.fin (M : Mid C R ops ms n X done suf s σ G a w) (hsuf : suf = [] ∨ ∃ i js r, suf = (i, 1, js) :: r) (hrun : runDraw C ops suf s = some st2) (hall : ∀ i, i < ops.size → X i) : Inv C R G st2 a w ∧ st2.l = [] := by
  have hs : suf = [] := by
    rcases hsuf with h | ⟨i, js, r, rfl⟩
    · exact h
    · obtain ⟨o, K⟩ := chkD_cons M.chk
      have := M.dx i (hall i (lt_of_get K.ho))
      rw [K.new] at this; cases this
  subst hs
  simp only [runDraw, Option.some.injEq] at hrun
  subst hrun
  have hnh : ∀ t, ¬ Hid ops X done t := fun t ⟨j, oj, _, h2, h3, _⟩ => h2 (hall j (lt_of_get h3))
  have H := clear_inv M.inv (fun t ht => (M.lx t ht).2)
  refine ⟨⟨H.W, ?_, ?_, fun t => ?_, fun t q c v h => (by cases h), M.sm⟩, rfl⟩
  · have := H.B; rw [show ({ σ with l := [] } : St).h = s.h from M.rel.h] at this; exact this
  · have := H.all; rw [show ({ σ with l := [] } : St).h = s.h from M.rel.h] at this; exact this
  · have hx := H.slots t
    unfold SlotR at hx ⊢
    dsimp only [lk] at hx ⊢
    rw [M.rel.h, (M.rel.eq t (hnh t)).2] at hx
    exact hx
theorem countP_lt {p q : Nat → Bool} (h : ∀ i, q i = true → p i = true) : ∀ {l : List Nat} {i : Nat}, i ∈ l → p i = true → q i = false → l.countP q < l.countP p
  | [], i, hi, _, _ => by simp at hi
  | x :: l, i, hi, hp, hq => by
    have le : l.countP q ≤ l.countP p := List.countP_mono_left fun y _ => h y
    rcases List.mem_cons.1 hi with rfl | hi
    · rw [List.countP_cons_of_pos (l := l) hp, List.countP_cons_of_neg (by rw [hq]; simp)]; omega
    · have := countP_lt h hi hp hq
      by_cases hx : q x = true
      · rw [List.countP_cons_of_pos hx, List.countP_cons_of_pos (h x hx)]; omega
      · rw [List.countP_cons_of_neg hx]
        have := List.countP_le_length (p := p) (l := l)
        by_cases hpx : p x = true
        · rw [List.countP_cons_of_pos hpx]; omega
        · rw [List.countP_cons_of_neg hpx]; omega
theorem ready_mem {ops : Array Oper} {listed : Array Bool} {i : Nat} : i ∈ Region.ready .any ops listed ↔ i < ops.size ∧ listed.getD i true = false ∧ ∃ o, ops[i]? = some o ∧ ∀ e ∈ o.after.toList, Region.binds .any e = true → listed.getD e.on false = true := by
  unfold Region.ready
  rw [List.mem_filter, List.mem_range]
  constructor
  · rintro ⟨h1, h2⟩
    rw [Bool.and_eq_true, Bool.not_eq_true'] at h2
    refine ⟨h1, h2.1, ops[i], by simp [h1], fun e he hb => ?_⟩
    have h3 := h2.2
    simp only [h1, getElem?_pos, Option.map_some, Option.getD_some, Array.all_eq_true_iff_forall_mem] at h3
    have := h3 e (by simpa using he)
    rw [hb] at this
    simpa using this
  · rintro ⟨h1, h2, o, h3, h4⟩
    refine ⟨h1, ?_⟩
    rw [Bool.and_eq_true, Bool.not_eq_true']
    refine ⟨h2, ?_⟩
    rw [h3]
    simp only [Option.map_some, Option.getD_some, Array.all_eq_true_iff_forall_mem]
    intro e he
    cases hb : Region.binds .any e with
    | false => rfl
    | true => simpa using h4 e (by simpa using he) hb
/-- What is asked of the world behind a piece of code. -/
def After (C : Ctx) (R : Rt) (n : Nat) (p : List Nat) (a0 : Act) (st : St) (a : Act) (w : World) : Prop := ∃ G, Inv C R G st a w ∧ st.l = [] ∧ a.tmps.size = n ∧ Still p a0 a
theorem draw_any {Q : Exit → Act → World → Prop} (hC : CtxOk C) (hE : ∀ (i : Nat) o, ops[i]? = some o → ∀ e ∈ o.after.toList, Region.binds .any e = true → e.on < ops.size) {p0 : List Nat} {a0 : Act} (hlo : loOps p0 ops.toList = true) (hQ : ∀ a' w', After C R n p0 a0 st2 a' w' → Q .normal a' w') : ∀ (fuel : Nat) (listed : Array Bool) (X : Nat → Prop) (done : List (Nat × Nat)) (suf : List (Nat × Nat × List Nat)) (s σ : St) (G : Gh) (a : Act) (w : World), listed.size = ops.size → (∀ i, X i ↔ listed.getD i false = true) → (List.range ops.size).countP (fun i => !listed.getD i false) ≤ fuel →
    Mid C R ops (befores [] ops.toList) n X done suf s σ G a w → (suf = [] ∨ ∃ i js r, suf = (i, 1, js) :: r) → runDraw C ops suf s = some st2 → Still p0 a0 a → wpAny C.P .any ops Q fuel listed a w := by
  intro fuel
  induction fuel with
  | zero =>
    intro listed X done suf s σ G a w hsz hX hcnt M hsuf hrun hds
    have hall : ∀ i, i < ops.size → X i := fun i hi => by
      rw [hX]
      have h0 : (List.range ops.size).countP (fun i => !listed.getD i false) = 0 := by omega
      rw [List.countP_eq_zero] at h0
      have := h0 i (by simpa using hi)
      simpa using this
    obtain ⟨h1, h2⟩ := M.fin hsuf hrun hall
    refine ⟨?_, hQ a w ⟨G, h1, h2, M.sz, hds⟩⟩
    rw [List.eq_nil_iff_forall_not_mem]
    intro i hi
    obtain ⟨h3, h4, _⟩ := ready_mem.1 hi
    have := (hX i).1 (hall i h3)
    simp [Array.getD_eq_getD_getElem?, hsz, h3] at h4 this
    rw [h4] at this; cases this
  | succ fuel ih =>
    intro listed X done suf s σ G a w hsz hX hcnt M hsuf hrun hds
    have hun : ∀ i, i < ops.size → (listed.getD i true = false ↔ ¬ X i) := fun i hi => by
      rw [hX]
      simp [Array.getD_eq_getD_getElem?, hsz, hi]
    refine ⟨fun hnil => ?_, fun i hi => ?_⟩
    · -- nothing can be listed: all are
      have hall : ∀ i, i < ops.size → X i := by
        have no : ∀ i, i < ops.size → ¬ X i → (∀ j, j < ops.size → bef (befores [] ops.toList) i j = true → X j) → False := fun i hi hx hb => by
          obtain ⟨o, ho⟩ : ∃ o, ops[i]? = some o := ⟨ops[i], by simp [hi]⟩
          have : i ∈ Region.ready .any ops listed := ready_mem.2 ⟨hi, (hun i hi).2 hx, o, ho, fun e he hbind => (hX _).1 (hb _ (hE i o ho e he hbind) (bef_edge (ops := ops.toList) (i := i) (o := o) (by simpa using ho) he hbind))⟩
          rw [hnil] at this
          simp at this
        have hdone : ∀ i, anyD done i = true → i < ops.size → X i := fun i hi hlt => Classical.byContradiction fun hx => by
          obtain ⟨j, j1, j2, j3⟩ := M.wf.first (X := fun j => X j ∨ ¬ j < ops.size) ⟨i, hi, fun h => by rcases h with h | h; exact hx h; exact h hlt⟩
          refine no j (Classical.byContradiction fun h => j2 (.inr h)) (fun h => j2 (.inl h)) (fun k hk hb => ?_)
          rcases j3 k hk hb with h | h
          · exact h
          · exact absurd hk h
        intro i hi
        refine Classical.byContradiction fun hx => ?_
        have hn : ¬ anyD done i = true := fun h => hx (hdone i h hi)
        rcases hsuf with rfl | ⟨i0, js, r, rfl⟩
        · have hc := M.chk
          simp only [chkD, List.all_eq_true, List.mem_range] at hc
          exact hn (hc i hi)
        · obtain ⟨o, K⟩ := chkD_cons M.chk
          exact no i0 (lt_of_get K.ho) (M.notX K.new) (fun j hj hb => hdone j (K.sub j hj hb) hj)
      obtain ⟨h1, h2⟩ := M.fin hsuf hrun hall
      exact hQ a w ⟨G, h1, h2, M.sz, hds⟩
    · obtain ⟨h1, h2, o, h3, h4⟩ := ready_mem.1 hi
      have hx := (hun i h1).1 h2
      refine M.step hlo hC hsuf hrun h1 hx (fun j hb => ?_) _ (fun done' suf' s' σ' G' a' w' M' hrun' hsuf' hd' => ?_)
      · obtain ⟨e, he, hbind, hj⟩ := bef_split (ops := ops.toList) (by simpa using h3) hb
        have hon := (hX _).2 (h4 e he hbind)
        rcases hj with rfl | hj
        · exact hon
        · exact M.cl _ _ hon hj
      · refine ih _ _ done' suf' s' σ' G' a' w' (by simpa using hsz) (fun j => ?_) ?_ M' hsuf' hrun' (hds.trans hd')
        · rw [hX]
          simp only [Array.getD_eq_getD_getElem?, Array.getElem?_setIfInBounds]
          by_cases e : i = j
          · subst e; simp [hsz, h1]
          · simp [e, Ne.symm e]
        · have := countP_lt (p := fun i => !listed.getD i false) (q := fun j => !(listed.setIfInBounds i true).getD j false) (fun j hj => by
            simp only [Array.getD_eq_getD_getElem?, Array.getElem?_setIfInBounds] at hj ⊢
            by_cases e : i = j
            · subst e; simp [hsz, h1] at hj
            · simpa [e] using hj) (l := List.range ops.size) (i := i) (by simpa using h1) (by
              have := hX i
              cases hg : listed.getD i false with
              | false => rfl
              | true => exact absurd (this.2 hg) hx) (by simp [Array.getD_eq_getD_getElem?, hsz, h1])
          omega
theorem draw_sound {Q : Exit → Act → World → Prop} {p0 : List Nat} {a0 : Act} {order : List (Nat × Nat × List Nat)} (hC : CtxOk C) (H : After C R n p0 a0 st a w) (hlo : loOps p0 ops.toList = true) (hc : chkDraw n ops order = true) (hrun : runDraw C ops order st = some st2) (hQ : ∀ a' w', After C R n p0 a0 st2 a' w' → Q .normal a' w') :
    wpAny C.P .any ops Q ops.size (Array.replicate ops.size false) a w := by
  obtain ⟨G, H, hl, hs, hd⟩ := H
  simp only [chkDraw, Bool.and_eq_true] at hc
  obtain ⟨⟨h1, h2⟩, h3⟩ := hc
  have nol : ∀ t, (lk st.l t).isSome = true → False := fun t ht => by rw [hl] at ht; simp [lk] at ht
  have noD : ∀ i, anyD [] i = true → False := fun i h => by simp [anyD] at h
  have noH : ∀ i k, hasD [] i k = true → False := fun i k h => by simp [hasD] at h
  have M : Mid C R ops (befores [] ops.toList) n (fun _ => False) [] order st st G a w := { dst := h1, chk := h3, wf := trivial, dx := fun i h => h.elim, cl := fun i j h => h.elim, tx := fun i h => (noH i 1 h).elim, kk := fun i h => (noD i h).elim, rd := fun i o t j oj h => (noD i h).elim, rel := ⟨rfl, fun t _ => ⟨rfl, rfl⟩, fun t ⟨i, o, h, _⟩ => (noD i h).elim⟩, ag := fun i h => (noH i 0 h).elim, al := fun i h => (noH i 2 h).elim, inv := H, sm := H.m, lx := fun t h => (nol t h).elim, ls := fun t h => (nol t h).elim, sz := hs }
  obtain ⟨done', suf', s', σ', M', hrun', hsuf'⟩ := M.advance hrun
  refine draw_any hC (fun i o ho => edgesAll_spec h2 i o (by simpa using ho)) hlo hQ _ _ (fun _ => False) done' suf' s' σ' G a w (by simp) (fun i => ?_) ?_ M' hsuf' hrun' hd
  · simp only [Array.getD_eq_getD_getElem?, Array.getElem?_replicate, false_iff]
    split <;> simp
  · have := List.countP_le_length (p := fun i => !(Array.replicate ops.size false).getD i false) (l := List.range ops.size)
    simpa using this
end Go.Den

/- Code. -/
namespace Go.Den
open Go
variable {C : Ctx} {R : Rt} {G G0 G1 : Gh} {st st1 st2 : St} {a : Act} {w w' : World} {o : Oper} {v : SV}

/-- What the regions must be (the kernel looks). -/
def chkCode (ord : List (Nat × List (Nat × Nat × List Nat))) (n : Nat) (p : List Nat) : Code → Bool
  | .region i ops d => (if d then chkDraw n ops (lkO ord i) else chkOps n [] ops.toList) && loOps p ops.toList
  | .seq a b => chkCode ord n p a && chkCode ord n p b
  | .cond _ a b => chkCode ord n p a && chkCode ord n p b
  | .block _ a => chkCode ord n p a
  | .loop a => chkCode ord n p a
  | _ => true
def exOf : Ex → Exit | .normal => .normal | .exit i => .exit i | .ret => .ret

/-! what a round leaves behind -/
def Gh.keep (G : Gh) (ns : List Nat) : Gh := { G with live := fun k => G.live k ∧ k ∈ ns }
theorem hlk_keepH (ns : List Nat) (h : List (Nat × Blk)) : ∀ (l : List Nat) (n : Nat), hlk (keepH ns h l) n = if n ∈ l then (hlk h n).map (keepB ns) else none
  | [], n => by simp [keepH, hlk]
  | k :: r, n => by
    simp only [keepH]
    cases hb : hlk h k with
    | none =>
      simp only [hlk_keepH ns h r n]
      by_cases hkn : n = k
      · subst hkn; simp [hb]
      · simp [hkn]
    | some b =>
      simp only [hlk, hlk_keepH ns h r n]
      by_cases hkn : k = n
      · subst hkn; simp [hb]
      · rw [if_neg hkn]; simp [Ne.symm hkn]
theorem keepC_in {ns : List Nat} {h h' : List (Nat × Blk)} {G' : Gh} {x : SV} {u : Value} (hs : ∀ n ∈ ns, Same G h G' h' n) (hx : CRel R G h x u) : CRel R G' h' (keepC ns x) u := keepC_rel (fun n hn _ => hs n hn) hx
theorem keepV_in {ns : List Nat} {h h' : List (Nat × Blk)} {G' : Gh} {x : SV} {u : Value} (hs : ∀ n ∈ ns, Same G h G' h' n) (hx : VRel R G h x u) : VRel R G' h' (keepV ns x) u := by
  cases x with
  | agg cs =>
    obtain ⟨vs, h1, h2, h3⟩ := hx
    refine ⟨vs, h1, by rw [keepCs_len]; exact h2, fun j y hj => ?_⟩
    rw [keepCs_get, Option.map_eq_some_iff] at hj
    obtain ⟨y', hy, rfl⟩ := hj
    obtain ⟨z, h4, h5, h6⟩ := h3 j y' hy
    exact ⟨z, h4, h5, keepC_in hs h6⟩
  | tup vs => trivial
  | own n => simp only [keepV]; exact arel_one (keepC_in hs (x := .own n) hx)
  | rp n i q => simp only [keepV]; exact arel_one (keepC_in hs (x := .rp n i q) hx)
  | ptr n q => simp only [keepV]; exact arel_one (keepC_in hs (x := .ptr n q) hx)
  | fp f n q => simp only [keepV]; exact arel_one (keepC_in hs (x := .fp f n q) hx)
  | op b cs => exact hx
  | fb f cs => exact hx
  | bx n j x => exact hx
  | d x => exact hx
  | nils => exact hx
  | nilp => exact hx
  | pv cs o => exact hx
  | fn f => exact hx
  | undef => trivial
theorem lkm_keepM (ns : List Nat) : ∀ (ks : List Nat) (m : List SV) (t : Nat), lkm ks (keepM ns m) t = keepV ns (lkm ks m t)
  | [], m, t => by cases m <;> rfl
  | k :: ks, [], t => rfl
  | k :: ks, v :: vs, t => by simp only [keepM, lkm, lkm_keepM ns ks vs t]; split <;> rfl
theorem keepM_len (ns : List Nat) : ∀ (m : List SV), (keepM ns m).length = m.length
  | [] => rfl
  | v :: vs => by simp [keepM, keepM_len ns vs]
theorem trim_inv {ns : List Nat} (H : Inv C R G st a w) (hl : st.l = []) (hfix : ∀ n b, R.fix n = some b → n ∈ ns) : Inv C R (G.keep ns) (trim ns st) a w := by
  have hs : ∀ n ∈ ns, Same G st.h (G.keep ns) (trim ns st).h n := fun n hn hlive => ⟨⟨hlive, hn⟩, rfl, rfl, fun e sz xs hx => ⟨xs, by
    show hlk (keepH ns st.h ns) n = _
    rw [hlk_keepH, if_pos hn, hx]; rfl⟩⟩
  refine ⟨H.W, ⟨fun n hn _ => ?_, fun n m hn _ hm _ => H.B.disj n m hn.1 id hm.1 id, fun n hn _ => H.B.mine n hn.1 id, fun n b hf => ?_⟩, fun _ _ _ => id, fun t => ?_, fun t q c v h => (by cases h), by simp only [trim, keepM_len]; exact H.m⟩
  · obtain ⟨b, h1, h2⟩ := H.B.rel n hn.1 id
    cases b with
    | row e sz xs =>
      refine ⟨.row e sz xs, ?_, h2⟩
      show hlk (keepH ns st.h ns) n = _
      rw [hlk_keepH, if_pos hn.2, h1]; rfl
    | box cs =>
      obtain ⟨cur, e, r1, r2, r3, r4, r5⟩ := h2
      refine ⟨.box (keepCs ns cs), ?_, cur, e, r1, r2, by rw [keepCs_len]; exact r3, by rw [keepCs_len]; exact r4, fun j x hj => ?_⟩
      · show hlk (keepH ns st.h ns) n = _
        rw [hlk_keepH, if_pos hn.2, h1]; rfl
      · rw [keepCs_get, Option.map_eq_some_iff] at hj
        obtain ⟨y, hy, rfl⟩ := hj
        obtain ⟨u, k1, k2, k3⟩ := r5 j y hy
        exact ⟨u, k1, k2, keepC_in hs k3⟩
  · obtain ⟨h1, h2, h3⟩ := H.B.fix n b hf
    obtain ⟨cs, hc⟩ := h3 id
    refine ⟨⟨h1, hfix n b hf⟩, h2, fun _ => ⟨keepCs ns cs, ?_⟩⟩
    show hlk (keepH ns st.h ns) n = _
    rw [hlk_keepH, if_pos (hfix n b hf), hc]; rfl
  · have hx := H.slots t
    unfold SlotR at hx ⊢
    rw [hl] at hx
    simp only [trim, lk] at hx ⊢
    rw [lkm_keepM]
    exact keepV_in hs hx
/-! names of own rows -/
def Gh.ren (G : Gh) (k k' : Nat) : Gh := { live := fun n => if n = k' then G.live k else if n = k then False else G.live n, base := fun n => if n = k' then G.base k else G.base n, hv := fun n => if n = k' then G.hv k else G.hv n, φ := fun n => if n = k' then G.φ k else G.φ n }
theorem hlk_renH (k k' : Nat) (hne : k ≠ k') : ∀ (h : List (Nat × Blk)) (n : Nat), hlk h k' = none → hlk (renH k k' h) n = if n = k' then (hlk h k).map (renB k k') else if n = k then none else (hlk h n).map (renB k k')
  | [], n, _ => by simp [renH, hlk]
  | (b, v) :: r, n, hk' => by
    simp only [hlk] at hk'
    by_cases hb : b = k'
    · rw [if_pos hb] at hk'; cases hk'
    · rw [if_neg hb] at hk'
      simp only [renH, hlk, hlk_renH k k' hne r n hk']
      by_cases hbk : b = k
      · subst hbk
        simp only [if_true]
        by_cases hn : n = k'
        · simp [hn]
        · rw [if_neg (Ne.symm hn), if_neg hn, if_neg hn]
          by_cases hnb : n = b
          · simp [hnb]
          · simp [hnb, Ne.symm hnb]
      · simp only [if_neg hbk]
        by_cases hn : n = k'
        · subst hn; simp [hb]
        · simp only [if_neg hn]
          by_cases hnk : n = k
          · subst hnk; simp [hbk]
          · by_cases hbn : b = n
            · simp [hbn, hnk]
            · simp [hbn, hnk]
theorem renCs_len (k k' : Nat) : ∀ (cs : List SV), (renCs k k' cs).length = cs.length
  | [] => rfl
  | c :: cs => by simp [renCs, renCs_len k k' cs]
theorem renCs_get (k k' : Nat) : ∀ (cs : List SV) (j : Nat), (renCs k k' cs)[j]? = (cs[j]?).map (renC k k')
  | [], j => by simp [renCs]
  | c :: cs, 0 => by simp [renCs]
  | c :: cs, j + 1 => by simp [renCs, renCs_get k k' cs]
theorem renAs_len (k k' : Nat) : ∀ (cs : List SV), (renAs k k' cs).length = cs.length
  | [] => rfl
  | c :: cs => by simp [renAs, renAs_len k k' cs]
theorem renAs_get (k k' : Nat) : ∀ (cs : List SV) (j : Nat), (renAs k k' cs)[j]? = (cs[j]?).map (renA k k')
  | [], j => by simp [renAs]
  | c :: cs, 0 => by simp [renAs]
  | c :: cs, j + 1 => by simp [renAs, renAs_get k k' cs]
theorem renM_len (k k' : Nat) : ∀ (m : List SV), (renM k k' m).length = m.length
  | [] => rfl
  | v :: vs => by simp [renM, renM_len k k' vs]
theorem lkm_renM (k k' : Nat) : ∀ (ks : List Nat) (m : List SV) (t : Nat), lkm ks (renM k k' m) t = renV k k' (lkm ks m t)
  | [], m, t => by cases m <;> rfl
  | a :: ks, [], t => rfl
  | a :: ks, v :: vs, t => by simp only [renM, lkm, lkm_renM k k' ks vs t]; split <;> rfl
section
variable {k k' : Nat}
theorem crel_ren (hne : k ≠ k') (hlv : ∀ n, G.live n → n ≠ k') (hk' : hlk st.h k' = none) {x : SV} {u : Value} (hx : CRel R G st.h x u) : CRel R (G.ren k k') (renH k k' st.h) (renC k k' x) u := by
  have nm : ∀ n, G.live n → (G.ren k k').live (if n = k then k' else n) ∧ (G.ren k k').base (if n = k then k' else n) = G.base n ∧ (G.ren k k').hv (if n = k then k' else n) = G.hv n := fun n hn => by
    have h1 := hlv n hn
    by_cases e : n = k
    · subst e; simp [Gh.ren, hn]
    · simp [Gh.ren, e, h1, hn]
  cases x with
  | own n => obtain ⟨h1, h2, h3⟩ := hx; obtain ⟨a1, _, a3⟩ := nm n h1; exact ⟨a1, by rw [a3]; exact h2, h3⟩
  | ptr n o => obtain ⟨h1, h2⟩ := hx; obtain ⟨a1, a2, _⟩ := nm n h1; exact ⟨a1, by rw [a2]; exact h2⟩
  | fp f n o => obtain ⟨h1, h2⟩ := hx; obtain ⟨a1, a2, _⟩ := nm n h1; exact ⟨a1, by rw [a2]; exact h2⟩
  | rp n i o =>
    obtain ⟨h1, e, sz, xs, h2, g, b, len, cap, h3, h4⟩ := hx
    obtain ⟨a1, _, a3⟩ := nm n h1
    refine ⟨a1, e, sz, xs, ?_, g, b, len, cap, by rw [a3]; exact h3, h4⟩
    rw [hlk_renH k k' hne _ _ hk']
    have h5 := hlv n h1
    by_cases en : n = k
    · subst en; simp [h2, renB]
    · simp [en, h5, h2, renB]
  | _ => exact hx
theorem arel_ren (hne : k ≠ k') (hlv : ∀ n, G.live n → n ≠ k') (hk' : hlk st.h k' = none) {x : SV} {u : Value} (hx : ARel R G st.h x u) : ARel R (G.ren k k') (renH k k' st.h) (renA k k' x) u := by
  by_cases hc : ∃ cs, x = .agg cs
  · obtain ⟨cs, rfl⟩ := hc
    obtain ⟨vs, h1, h2, h3⟩ := hx
    refine ⟨vs, h1, by rw [renCs_len]; exact h2, fun j y hj => ?_⟩
    rw [renCs_get, Option.map_eq_some_iff] at hj
    obtain ⟨y', hy, rfl⟩ := hj
    obtain ⟨z, h4, h5, h6⟩ := h3 j y' hy
    exact ⟨z, h4, h5, crel_ren hne hlv hk' h6⟩
  · have hc' : ∀ cs, x ≠ .agg cs := fun cs e => hc ⟨cs, e⟩
    rw [arel_c hc'] at hx
    have e1 : renA k k' x = renC k k' x := by cases x <;> first | rfl | exact absurd rfl (hc' _)
    rw [e1]
    have hc2 : ∀ cs, renC k k' x ≠ .agg cs := fun cs e => by cases x <;> simp [renC] at e; exact hc' _ rfl
    rw [arel_c hc2]
    exact crel_ren hne hlv hk' hx
theorem vrel_ren (hne : k ≠ k') (hlv : ∀ n, G.live n → n ≠ k') (hk' : hlk st.h k' = none) {x : SV} {u : Value} (hx : VRel R G st.h x u) : VRel R (G.ren k k') (renH k k' st.h) (renV k k' x) u := by
  by_cases hc : ∃ cs, x = .tup cs
  · obtain ⟨cs, rfl⟩ := hc
    obtain ⟨vs, h1, h2, h3⟩ := hx
    refine ⟨vs, h1, by rw [renAs_len]; exact h2, fun j y hj => ?_⟩
    rw [renAs_get, Option.map_eq_some_iff] at hj
    obtain ⟨y', hy, rfl⟩ := hj
    obtain ⟨z, h4, h5⟩ := h3 j y' hy
    exact ⟨z, h4, arel_ren hne hlv hk' h5⟩
  · have hc' : ∀ cs, x ≠ .tup cs := fun cs e => hc ⟨cs, e⟩
    rw [vrel_a hc'] at hx
    have e1 : renV k k' x = renA k k' x := by cases x <;> first | rfl | exact absurd rfl (hc' _)
    rw [e1]
    have hc2 : ∀ cs, renA k k' x ≠ .tup cs := fun cs e => by cases x <;> simp [renA, renC] at e; exact hc' _ rfl
    rw [vrel_a hc2]
    exact arel_ren hne hlv hk' hx
theorem ren_inv (H : Inv C R G st a w) (hl : st.l = []) (hk : ∃ e sz xs, hlk st.h k = some (.row e sz xs)) (hk' : hlk st.h k' = none) (hne : k ≠ k') : Inv C R (G.ren k k') (ren k k' st) a w := by
  have hlv : ∀ n, G.live n → n ≠ k' := fun n hn e => by
    subst e
    obtain ⟨b, hb, _⟩ := H.B.rel n hn id
    rw [hk'] at hb; cases hb
  have hh : ∀ n, hlk (ren k k' st).h n = if n = k' then (hlk st.h k).map (renB k k') else if n = k then none else (hlk st.h n).map (renB k k') := fun n => hlk_renH k k' hne st.h n hk'
  have old : ∀ n, (G.ren k k').live n → ∃ n0, G.live n0 ∧ n = (if n0 = k then k' else n0) ∧ (G.ren k k').base n = G.base n0 ∧ (G.ren k k').hv n = G.hv n0 ∧ (G.ren k k').φ n = G.φ n0 ∧ hlk (ren k k' st).h n = (hlk st.h n0).map (renB k k') := fun n hn => by
    rw [hh]
    simp only [Gh.ren] at hn
    by_cases e : n = k'
    · subst e
      rw [if_pos rfl] at hn
      exact ⟨k, hn, by simp, by simp [Gh.ren], by simp [Gh.ren], by simp [Gh.ren], by simp⟩
    · rw [if_neg e] at hn
      by_cases e2 : n = k
      · rw [if_pos e2] at hn; exact hn.elim
      · rw [if_neg e2] at hn
        exact ⟨n, hn, by simp [e2], by simp [Gh.ren, e], by simp [Gh.ren, e], by simp [Gh.ren, e], by simp [e, e2]⟩
  refine ⟨H.W, ⟨fun n hn _ => ?_, fun n m hn _ hm _ hnm j hj1 hj2 => ?_, fun n hn _ j hj => ?_, fun n b hf => ?_⟩, fun _ _ _ => id, fun t => ?_, by show PI st.l; exact H.l, by show (renM k k' st.m).length = _; rw [renM_len]; exact H.m⟩
  · obtain ⟨n0, h1, h2, h3, h4, h5, h6⟩ := old n hn
    obtain ⟨b, hb, hbr⟩ := H.B.rel n0 h1 id
    refine ⟨renB k k' b, by rw [h6, hb]; rfl, ?_⟩
    cases b with
    | row e sz xs =>
      show RowX w e sz ((G.ren k k').φ n) xs ((G.ren k k').hv n) ∧ _
      rw [h4, h5]; exact hbr
    | box cs =>
      obtain ⟨cur, e, r1, r2, r3, r4, r5⟩ := hbr
      refine ⟨cur, e, by rw [h3]; exact r1, by rw [h3, h5]; exact r2, by rw [h3, renCs_len]; exact r3, by rw [h3, renCs_len]; exact r4, fun j x hj => ?_⟩
      rw [renCs_get, Option.map_eq_some_iff] at hj
      obtain ⟨y, hy, rfl⟩ := hj
      obtain ⟨u, k1, k2, k3⟩ := r5 j y hy
      exact ⟨u, by rw [h3]; exact k1, k2, crel_ren hne hlv hk' k3⟩
  · obtain ⟨n0, h1, h2, _, _, h5, _⟩ := old n hn
    obtain ⟨m0, g1, g2, _, _, g5, _⟩ := old m hm
    rw [h5] at hj1; rw [g5] at hj2
    exact H.B.disj n0 m0 h1 id g1 id (fun e => hnm (by rw [h2, g2, e])) j hj1 hj2
  · obtain ⟨n0, h1, _, _, _, h5, _⟩ := old n hn
    rw [h5] at hj
    exact H.B.mine n0 h1 id j hj
  · obtain ⟨h1, h2, h3⟩ := H.B.fix n b hf
    obtain ⟨cs, hc⟩ := h3 id
    obtain ⟨e, sz, xs, hrow⟩ := hk
    have e1 : n ≠ k := fun e => by subst e; rw [hrow] at hc; cases hc
    have e2 := hlv n h1
    exact ⟨by simp [Gh.ren, e1, e2, h1], by simp [Gh.ren, e2, h2], fun _ => ⟨renCs k k' cs, by rw [hh]; simp [e1, e2, hc, renB]⟩⟩
  · have hx := H.slots t
    unfold SlotR at hx ⊢
    rw [hl] at hx
    rw [show (ren k k' st).l = [] from hl]
    simp only [lk] at hx ⊢
    rw [show (ren k k' st).m = renM k k' st.m from rfl, lkm_renM]
    exact vrel_ren hne hlv hk' hx
end
theorem canonC_inv (n : Nat) : ∀ (cs : List SV) (j : Nat) (sn : List Nat) (st : St) (G : Gh), Inv C R G st a w → st.l = [] → ∃ G', Inv C R G' (canonC n j cs sn st).1 a w ∧ (canonC n j cs sn st).1.l = []
  | [], j, sn, st, G, H, hl => ⟨G, H, hl⟩
  | c :: cs, j, sn, st, G, H, hl => by
    cases c with
    | own k =>
      simp only [canonC]
      split
      · exact canonC_inv n cs (j + 1) sn st G H hl
      · split
        · exact canonC_inv n cs (j + 1) _ st G H hl
        · rename_i hne
          split
          · rename_i e sz xs h1 h2
            exact canonC_inv n cs (j + 1) _ _ _ (ren_inv H hl ⟨e, sz, xs, h1⟩ h2 hne) hl
          · exact canonC_inv n cs (j + 1) _ st G H hl
    | _ => exact canonC_inv n cs (j + 1) sn st G H hl
theorem canonH_inv : ∀ (h : List (Nat × Blk)) (sn : List Nat) (st : St) (G : Gh), Inv C R G st a w → st.l = [] → ∃ G', Inv C R G' (canonH h sn st) a w ∧ (canonH h sn st).l = []
  | [], sn, st, G, H, hl => ⟨G, H, hl⟩
  | (n, b) :: r, sn, st, G, H, hl => by
    cases b with
    | row e sz xs => exact canonH_inv r sn st G H hl
    | box cs =>
      obtain ⟨G1, H1, hl1⟩ := canonC_inv n cs 0 sn st G H hl
      exact canonH_inv r _ _ G1 H1 hl1
theorem canon_after {n : Nat} {p : List Nat} {a0 : Act} (H : After C R n p a0 st a w) : After C R n p a0 (canonS st) a w := by
  obtain ⟨G, H1, hl, hs, hd⟩ := H
  obtain ⟨G', H2, hl2⟩ := canonH_inv st.h [] st G H1 hl
  exact ⟨G', H2, hl2, hs, hd⟩
theorem row_none {w : World} {e sz : Nat} : RowX w e sz (fun _ => False) [] (.slice none 0 0) := .inl (.inl ⟨rfl, rfl⟩)
theorem eok_of {P : Program} {e sz : Nat} (h : eokB P e sz = true) : EOk P e sz := by
  unfold eokB at h
  rw [Bool.and_eq_true] at h
  obtain ⟨h1, h2⟩ := h
  rw [Bool.or_eq_true] at h1
  rcases h1 with h1 | h1
  · exact ⟨.inl (by simpa using h1), by simpa using h2⟩
  split at h1
  · rename_i i hi; exact ⟨.inr ⟨i, hi, by simpa using h1⟩, by simpa using h2⟩
  · cases h1
theorem wake_row {C : Ctx} {R : Rt} {G : Gh} {st : St} {a : Act} {w : World} {m e sz : Nat} (H : Inv C R G st a w) (hm : hlk st.h m = none) (hE : EOk C.P e sz) : Inv C R (G.add m (0, 0) (.slice none 0 0) (fun _ => False)) { st with h := st.h ++ [(m, .row e sz [])] } a w :=
  add_inv H hm id (fun k hk => hk.elim) (fun k m hk => hk.elim) ⟨by simpa [Gh.add] using row_none, hE.1, hE.2, fun k lo hi hk => by simp [Gh.add] at hk⟩
/-- A variable that is not there may be listed in any way. -/
theorem dead_box {C : Ctx} {R : Rt} {G : Gh} {st : St} {a : Act} {w : World} {n : Nat} {cs cs' : List SV} (H : Inv C R G st a w) (hl : ¬ G.live n) (hb : hlk st.h n = some (.box cs)) : Inv C R G { st with h := hset st.h n (.box cs') } a w := by
  have hs := same_hset (G := G) (cs' := cs') hb
  refine ⟨H.W, ⟨fun k hk _ => ?_, fun k m hk _ hm _ => H.B.disj k m hk id hm id, fun k hk _ => H.B.mine k hk id, fun k b' hf => ?_⟩, fun _ _ _ => id, fun t => slot_same hs (H.slots t), H.l, H.m⟩
  · obtain ⟨b, h1, h2⟩ := H.B.rel k hk id
    have hkn : ¬ k = n := fun e => hl (e ▸ hk)
    exact ⟨b, by simp [hlk_hset, hkn, h1], brel_same hs rfl rfl rfl h2⟩
  · obtain ⟨h1, h2, h3⟩ := H.B.fix k b' hf
    have hkn : ¬ k = n := fun e => hl (e ▸ h1)
    obtain ⟨ds, hc⟩ := h3 id
    exact ⟨h1, h2, fun _ => ⟨ds, by simp [hlk_hset, hkn, hc]⟩⟩
theorem wakeB_inv {C : Ctx} {R : Rt} {G : Gh} {st : St} {a : Act} {w : World} (n j e sz : Nat) (H : Inv C R G st a w) (hl : st.l = []) : ∃ G', Inv C R G' (wakeB C n j e sz st) a w ∧ (wakeB C n j e sz st).l = [] := by
  unfold wakeB
  split
  · rename_i cs hb hm
    split
    · rename_i hc
      split
      · rename_i hE
        have H1 := wake_row H hm (eok_of hE)
        have hne : ¬ nm n (j + 1) = n := fun e => by rw [e, hb] at hm; cases hm
        have hb1 : hlk (st.h ++ [(nm n (j + 1), .row e sz [])]) n = some (.box cs) := by rw [hlk_snoc, hb]
        rw [nth?_eq] at hc
        have hj : j + 1 ≤ cs.length := by have := (List.getElem?_eq_some_iff.1 hc).1; omega
        have hsr := setRange_get cs j [.own (nm n (j + 1))] hj
        by_cases hlv : (G.add (nm n (j + 1)) (0, 0) (.slice none 0 0) (fun _ => False)).live n
        · obtain ⟨b, hb2, hbr⟩ := H1.B.rel n hlv id
          rw [show ({ st with h := st.h ++ [(nm n (j + 1), .row e sz [])] } : St).h = st.h ++ [(nm n (j + 1), .row e sz [])] from rfl, hb1] at hb2
          cases hb2
          obtain ⟨cur, e', r1, r2, r3, r4, r5⟩ := hbr
          refine ⟨_, (set_box (w' := w) (cur' := cur) H1 hlv hb1 ⟨rfl, rfl, rfl, rfl, r1, r1, rfl, fun _ _ => rfl⟩ hsr.1 (fun _ _ => rfl) (fun i x hx => ?_)).1, hl⟩
          rw [hsr.2] at hx
          by_cases hi : j ≤ i ∧ i < j + [SV.own (nm n (j + 1))].length
          · rw [if_pos hi] at hx
            have : i = j := by simp at hi; omega
            subst this
            simp at hx
            subst hx
            obtain ⟨u, k1, k2, k3⟩ := r5 i _ hc
            exact ⟨u, k1, k2, .inr rfl, by rw [show u = .slice none 0 0 from k3]; simp [Gh.add], k2⟩
          · rw [if_neg hi] at hx
            exact r5 i x hx
        · exact ⟨_, dead_box H1 hlv hb1, hl⟩
      · exact ⟨G, H, hl⟩
    · exact ⟨G, H, hl⟩
  · exact ⟨G, H, hl⟩
theorem wakeT_inv {C : Ctx} {R : Rt} {G : Gh} {st : St} {a : Act} {w : World} (t e sz : Nat) (H : Inv C R G st a w) (hl : st.l = []) : ∃ G', Inv C R G' (wakeT C t e sz st) a w ∧ (wakeT C t e sz st).l = [] := by
  unfold wakeT
  split
  · rename_i hc hm
    split
    · rename_i hE
      rw [Bool.and_eq_true] at hE
      have H1 := wake_row H hm (eok_of hE.2)
      refine ⟨_, ⟨H1.W, H1.B, H1.all, fun u => ?_, H1.l, by rw [← H1.m]; exact stm_len _ _ _ _⟩, hl⟩
      have hx := H1.slots u
      unfold SlotR at hx ⊢
      rw [show ({ st with h := st.h ++ [(nm t 60, .row e sz [])] } : St).l = [] from hl] at hx
      rw [show ({ st with m := stm C.keep st.m t (.own (nm t 60)), h := st.h ++ [(nm t 60, .row e sz [])] } : St).l = [] from hl]
      simp only [lk] at hx ⊢
      rw [lkm_stm hE.1 H.m]
      by_cases hu : u = t
      · subst hu
        rw [if_pos rfl]
        rw [hc] at hx
        exact ⟨.inr rfl, by rw [show a.tmps.getD u undef = .slice none 0 0 from hx]; simp [Gh.add], by rw [show a.tmps.getD u undef = .slice none 0 0 from hx]; rfl⟩
      · rw [if_neg hu]; exact hx
    · exact ⟨G, H, hl⟩
  · exact ⟨G, H, hl⟩
theorem dropR_inv {C : Ctx} {R : Rt} {G : Gh} {st : St} {a : Act} {w : World} (n : Nat) (H : Inv C R G st a w) (hl : st.l = []) : ∃ G', Inv C R G' (dropR n st) a w ∧ (dropR n st).l = [] := by
  unfold dropR
  split
  · rename_i e sz xs hr
    exact ⟨_, give_inv H hr, by show killL n st.l = []; rw [hl]; rfl⟩
  · exact ⟨G, H, hl⟩
theorem wakes_inv {C : Ctx} {R : Rt} {a : Act} {w : World} : ∀ (r : List (Nat × Nat × List Nat)) (st : St) (G : Gh), Inv C R G st a w → st.l = [] → ∃ G', Inv C R G' (wakes C r st) a w ∧ (wakes C r st).l = []
  | [], st, G, H, hl => ⟨G, H, hl⟩
  | (n, j, l) :: r, st, G, H, hl => by
    unfold wakes
    split
    · rename_i h; cases h
    · rename_i h
      cases h
      obtain ⟨G1, H1, hl1⟩ := dropR_inv _ H hl
      exact wakes_inv _ _ G1 H1 hl1
    · rename_i h
      cases h
      obtain ⟨G1, H1, hl1⟩ := wakeB_inv _ _ _ _ H hl
      exact wakes_inv _ _ G1 H1 hl1
    · rename_i h
      cases h
      obtain ⟨G1, H1, hl1⟩ := wakeT_inv _ _ _ H hl
      exact wakes_inv _ _ G1 H1 hl1
    · rename_i h
      cases h
      exact wakes_inv _ _ G H hl
theorem hlk_ins (n : Nat) (b : Blk) (k : Nat) : ∀ (r : List (Nat × Blk)), hlk (insH n b r) k = if n = k then some b else hlk r k
  | [] => rfl
  | (j, x) :: r => by
    simp only [insH]
    split
    · rfl
    · simp only [hlk]
      split
      · rename_i h1 h2; subst h2; rw [if_neg (by omega)]
      · exact hlk_ins n b k r
theorem hlk_sort (k : Nat) : ∀ (h : List (Nat × Blk)), hlk (sortH h) k = hlk h k
  | [] => rfl
  | (n, b) :: r => by simp only [sortH, hlk_ins, hlk, hlk_sort k r]
theorem inv_hlk {C : Ctx} {R : Rt} {G : Gh} {st : St} {a : Act} {w : World} {h' : List (Nat × Blk)} (H : Inv C R G st a w) (e : ∀ n, hlk h' n = hlk st.h n) : Inv C R G ⟨st.m, st.l, h'⟩ a w := by
  have hs : ∀ n, Same G st.h G h' n := fun n hl => ⟨hl, rfl, rfl, fun e' sz xs hx => ⟨xs, by rw [e]; exact hx⟩⟩
  refine ⟨H.W, ⟨fun k hk _ => ?_, fun k m hk _ hm _ => H.B.disj k m hk id hm id, fun k hk _ => H.B.mine k hk id, fun k b' hf => ?_⟩, fun _ _ _ => id, fun t => slot_same hs (H.slots t), H.l, H.m⟩
  · obtain ⟨b, h1, h2⟩ := H.B.rel k hk id
    exact ⟨b, by show hlk h' k = _; rw [e, h1], brel_same hs rfl rfl rfl h2⟩
  · obtain ⟨h1, h2, h3⟩ := H.B.fix k b' hf
    obtain ⟨ds, hc⟩ := h3 id
    exact ⟨h1, h2, fun _ => ⟨ds, by show hlk h' k = _; rw [e, hc]⟩⟩
theorem end_after {C : Ctx} {R : Rt} {a : Act} {w : World} {st : St} {n : Nat} {p : List Nat} {a0 : Act} (i : Nat) (H : After C R n p a0 st a w) : After C R n p a0 (endS C i st) a w := by
  obtain ⟨G0, H0, hl0, hs0, hd0⟩ := H
  obtain ⟨Ga, Ha, hla⟩ := wakes_inv (lkO C.ord (i + 3000000)) st G0 H0 hl0
  obtain ⟨G, H1, hl, hs, hd⟩ := canon_after (n := n) (p := p) (a0 := a0) ⟨Ga, Ha, hla, hs0, hd0⟩
  obtain ⟨G', H2, hl2⟩ := wakes_inv _ _ G H1 hl
  exact ⟨G', inv_hlk H2 (fun n => hlk_sort n _), hl2, hs, hd⟩
theorem mem_names : ∀ {h : List (Nat × Blk)} {n : Nat} {b : Blk}, hlk h n = some b → n ∈ names h
  | [], n, b, h => by cases h
  | (k, x) :: r, n, b, h => by
    simp only [hlk] at h
    simp only [names, List.mem_cons]
    split at h
    · rename_i e; exact .inl e.symm
    · exact .inr (mem_names h)

theorem den_sound (hC : CtxOk C) (n : Nat) (p : List Nat) (a0 : Act) (k : Nat) : ∀ (c : Code) (st st' : St) (ex : Ex) (a : Act) (w : World) (Q : Exit → Act → World → Prop), den C k c st = some (ex, st') → After C R n p a0 st a w → chkCode C.ord n p c = true → (∀ a' w', After C R n p a0 st' a' w' → Q (exOf ex) a' w') → c.wp C.P Q a w := by
  intro c
  induction c with
  | skip => intro st st' ex a w Q h H _ hQ; simp only [den] at h; cases h; exact wp_skip (hQ a w H)
  | exit i => intro st st' ex a w Q h H _ hQ; simp only [den] at h; cases h; exact wp_exit (hQ a w H)
  | ret => intro st st' ex a w Q h H _ hQ; simp only [den] at h; cases h; exact wp_ret (hQ a w H)
  | region i ops d =>
    intro st st' ex a w Q h H hc hQ
    cases d with
    | false =>
      simp only [chkCode, Bool.false_eq_true, if_false, Bool.and_eq_true] at hc
      obtain ⟨hc, hlo⟩ := hc
      simp only [den, Bool.false_eq_true, if_false] at h
      rw [Option.map_eq_some_iff] at h
      obtain ⟨st2, h1, h2⟩ := h
      cases h2
      obtain ⟨G, H1, hl, hs, hd⟩ := H
      refine wp_region ?_
      have hlen : ops.size = ops.toList.length := by simp
      rw [List.range_eq_range', hlen]
      exact runReg_sound hC H1 hl (by rw [hs]; exact hc) hlo h1 (fun a' w' G' k1 k2 k3 k4 => hQ a' w' (end_after _ ⟨G', k1, k2, k3.trans hs, hd.trans k4⟩))
    | true =>
      simp only [chkCode, if_true, Bool.and_eq_true] at hc
      obtain ⟨hc, hlo⟩ := hc
      simp only [den, if_true] at h
      rw [Option.map_eq_some_iff] at h
      obtain ⟨st2, h1, h2⟩ := h
      cases h2
      refine wp_region_any hC.mixed ?_
      obtain ⟨G, H1, hl, hs, hd⟩ := H
      exact draw_sound hC ⟨G, inv_ext H1 ⟨rfl, rfl, rfl, Nat.le_refl _, fun _ _ => rfl⟩, hl, hs, hd⟩ hlo hc h1 (fun a' w' hA => hQ a' w' (end_after _ hA))
  | seq x y ihx ihy =>
    intro st st' ex a w Q h H hc hQ
    simp only [chkCode, Bool.and_eq_true] at hc
    simp only [den] at h
    refine wp_seq ?_
    cases hx : den C k x st with
    | none => rw [hx] at h; simp [andThen] at h
    | some r =>
      obtain ⟨e1, st1⟩ := r
      rw [hx] at h
      refine ihx st st1 e1 a w _ hx H hc.1 (fun a' w' H' => ?_)
      cases e1 with
      | normal => exact ihy st1 st' ex a' w' Q h H' hc.2 hQ
      | exit i => simp only [andThen] at h; cases h; exact hQ a' w' H'
      | ret => simp only [andThen] at h; cases h; exact hQ a' w' H'
  | cond c x y ihx ihy =>
    intro st st' ex a w Q h H hc hQ
    simp only [chkCode, Bool.and_eq_true] at hc
    simp only [den] at h
    split at h
    · rename_i b hb
      obtain ⟨G, H1, hl, hs, hd⟩ := H
      have hv : a.eval c = .bool b := vrel_b (H1.evE hb)
      refine wp_cond hv ?_
      cases b with
      | true => exact ihx st st' ex a w Q (by simpa using h) ⟨G, H1, hl, hs, hd⟩ hc.1 hQ
      | false => exact ihy st st' ex a w Q (by simpa using h) ⟨G, H1, hl, hs, hd⟩ hc.2 hQ
    · cases h
  | block i x ih =>
    intro st st' ex a w Q h H hc hQ
    simp only [chkCode] at hc
    simp only [den] at h
    refine wp_block ?_
    cases hx : den C k x st with
    | none => rw [hx] at h; simp [inBlock] at h
    | some r =>
      obtain ⟨e1, st1⟩ := r
      rw [hx] at h
      refine ih st st1 e1 a w _ hx H hc (fun a' w' H' => ?_)
      cases e1 with
      | normal => simp only [inBlock] at h; cases h; exact hQ a' w' H'
      | exit j =>
        simp only [inBlock] at h
        show (if j = i then Q .normal a' w' else Q (.exit j) a' w')
        split at h
        · rename_i e; rw [if_pos e]; cases h; exact hQ a' w' H'
        · rename_i e; rw [if_neg e]; cases h; exact hQ a' w' H'
      | ret => simp only [inBlock] at h; cases h; exact hQ a' w' H'
  | loop x ih =>
    intro st st' ex a w Q h H hc hQ
    simp only [chkCode] at hc
    simp only [den] at h
    refine wp_loop_rounds k ?_
    have hfix : ∀ m b, R.fix m = some b → m ∈ loopN C (names st.h) := fun m b hf => by
      obtain ⟨G, H1, _⟩ := H
      obtain ⟨_, _, h3⟩ := H1.B.fix m b hf
      obtain ⟨cs, hcs⟩ := h3 id
      exact List.mem_append_left _ (mem_names hcs)
    generalize loopN C (names st.h) = ns at h hfix
    have key : ∀ (m : Nat) (st : St) (a : Act) (w : World), iter ns (den C k x) m st = some (ex, st') → After C R n p a0 st a w → Code.rounds C.P x Q m a w := by
      intro m
      induction m with
      | zero => intro st a w h _; simp [iter] at h
      | succ m ihm =>
        intro st a w h H
        simp only [iter] at h
        rw [rounds_succ]
        cases hx : den C k x st with
        | none => rw [hx] at h; cases h
        | some r =>
          obtain ⟨e1, st1⟩ := r
          rw [hx] at h
          refine ih st st1 e1 a w _ hx H hc (fun a' w' H' => ?_)
          obtain ⟨G', H1, hl, hs, hd⟩ := H'
          cases e1 with
          | normal => exact ihm (trim ns st1) a' w' h ⟨_, trim_inv H1 hl hfix, rfl, hs, hd⟩
          | exit j => dsimp only at h; cases h; exact hQ a' w' ⟨_, trim_inv H1 hl hfix, rfl, hs, hd⟩
          | ret => dsimp only at h; cases h; exact hQ a' w' ⟨G', H1, hl, hs, hd⟩
    exact key k st a w h H
  | _ => intro st st' ex a w Q h; simp [den] at h
end Go.Den

/- Results. -/
namespace Go.Den
open Go
variable {C : Ctx} {R : Rt} {G G0 G1 : Gh} {st st1 st2 : St} {a : Act} {w w' : World} {o : Oper} {v : SV}

/-- One result's value. -/
def resSem (tmps : Array Value) : ResultVar → Sem Value
  | .tmp t => pure (tmps.getD t undef)
  | .cell a t => do loadVar t (← asAddr (tmps.getD a undef))
def resRun (P : Program) (tmps : Array Value) (w : World) (r : ResultVar) (v : Value) : Prop := (resSem tmps r).run P w = .ok v w
theorem run_mapM_res {P : Program} {tmps : Array Value} : ∀ (rs : List ResultVar) (vs : List Value), rs.length = vs.length → (∀ (j : Nat) r v, rs[j]? = some r → vs[j]? = some v → resRun P tmps w r v) →
    (rs.mapM (resSem tmps)).run P w = .ok vs w
  | [], [], _, _ => by simp
  | r :: rs, v :: vs, hl, h => by
    have h1 := h 0 r v rfl rfl
    have h2 := run_mapM_res rs vs (by simpa using hl) (fun j r v hr hv => h (j + 1) r v (by simpa using hr) (by simpa using hv))
    unfold resRun at h1
    rw [List.mapM_cons]
    simp only [Sem.run_bind]
    rw [h1]
    simp only [Result.andThen_ok]
    rw [h2]
    simp
  | [], _ :: _, hl, _ => by simp at hl
  | _ :: _, [], hl, _ => by simp at hl
theorem results_eq (fn : Func) (tmps : Array Value) : results fn tmps = (do
    let vs ← fn.results.mapM (resSem tmps)
    pure (if h : vs.size = 1 then vs[0] else .tuple vs)) := by
  unfold results
  congr 1
theorem run_results {P : Program} {fn : Func} {tmps : Array Value} {vs : List Value} (hl : fn.results.toList.length = vs.length) (h : ∀ (j : Nat) r v, fn.results.toList[j]? = some r → vs[j]? = some v → resRun P tmps w r v) : (results fn tmps).run P w = .ok (valOf vs) w := by
  have h1 := run_mapM_res (P := P) (w := w) (tmps := tmps) fn.results.toList vs hl h
  rw [results_eq]
  have e : fn.results.mapM (resSem tmps) = List.toArray <$> fn.results.toList.mapM (resSem tmps) := by
    conv => lhs; rw [← Array.toArray_toList (xs := fn.results)]
    rw [List.mapM_toArray]
  rw [e]
  simp only [Sem.run_bind, Sem.run_map, h1, Result.andThen_ok]
  match vs with
  | [] => rfl
  | [v] => rfl
  | u :: v :: vs => simp [valOf]
theorem resV_sound {r : ResultVar} {x : SV} (H : Inv C R G st a w) (h : resV C st r = some x) : ∃ v, resRun C.P a.tmps w r v ∧ VRel R G st.h x v := by
  cases r with
  | tmp t =>
    simp only [resV, Option.some.injEq] at h
    subst h
    exact ⟨a.tmps.getD t undef, by simp [resRun, resSem], gt_rel H.here.good (H.slots t)⟩
  | cell b t =>
    simp only [resV] at h
    have hd := does_load (o := ⟨none, .load t (.tmp b), 0, "", #[], none⟩) (p := []) (x := .tmp b) (t := t) H.here (fun t _ => H.slots t) rfl h
    obtain ⟨val, h1, h2⟩ := hd
    refine ⟨val, ?_, h2⟩
    have hv := H.ev (.tmp b)
    simp only [resRun]
    simp only [execOp] at h1
    have hp : ∃ ad, a.tmps.getD b undef = .pointer (some ad) := by
      have hv : VRel R G st.h (gt C st [] b) (a.tmps.getD b undef) := gt_rel H.here.good (H.slots b)
      generalize gt C st [] b = sx at h hv
      cases sx <;> simp only [load] at h <;> first | cases h | skip
      · exact ⟨_, hv.2⟩
      · obtain ⟨g, o, e, _⟩ := hv; exact ⟨_, e⟩
    obtain ⟨ad, hp⟩ := hp
    have he : a.eval (.tmp b) = .pointer (some ad) := hp
    rw [he] at h1
    simp only [Sem.run_bind] at h1
    simp only [resSem, hp, asAddr, Sem.run_bind, Sem.run_pure, Result.andThen_ok]
    simp only [Instr.loadAt, Instr.sureAddr, Sem.run_bind, Sem.run_pure, Result.andThen_ok] at h1
    revert h1
    generalize (loadVar t ad).run C.P w = q
    intro h1
    cases q with
    | ok u w1 => simp at h1; rw [h1.1, h1.2]
    | halt x w1 => simp at h1
end Go.Den

/- What a function gives back. -/
namespace Go.Den
open Go
variable {C : Ctx} {R : Rt} {G G0 G1 : Gh} {st st1 st2 : St} {a : Act} {w w' : World} {o : Oper} {v : SV}

theorem scDs_get : ∀ {vs : List SV} {xs : List D}, scDs vs = some xs → xs.length = vs.length ∧ ∀ (j : Nat) x, xs[j]? = some x → vs[j]? = some (.d x) ∧ isSc x = true
  | [], xs, h => by simp [scDs] at h; subst h; simp
  | v :: vs, xs, h => by
    simp only [scDs] at h
    split at h
    · rename_i x ys h1 h2
      cases h
      obtain ⟨h3, h4⟩ := scDs_get h2
      refine ⟨by simp [h3], fun j y hj => ?_⟩
      cases j with
      | zero =>
        simp at hj; subst hj
        cases v <;> simp only [scD] at h1 <;> first | cases h1 | skip
        split at h1
        · rename_i hs; cases h1; exact ⟨rfl, hs⟩
        · cases h1
      | succ j => simpa using h4 j y (by simpa using hj)
    · cases h
theorem resSc_sound : ∀ {vs : List SV} {rs : List DV} {rv : List Value}, resSc vs = some rs → ValsAt R G st.h vs rv → ScsK R rs rv
  | [], rs, rv, h, hv => by
    simp only [resSc, Option.some.injEq] at h
    subst h
    have : rv = [] := List.eq_nil_of_length_eq_zero (by simpa using hv.1)
    subst this
    trivial
  | v :: vs, rs, rv, h, hv => by
    obtain ⟨u, rv', rfl, h1, hv'⟩ := hv.tail
    simp only [resSc] at h
    split at h
    · rename_i xs hxs
      split at h
      · rename_i x r hx hr
        cases h
        obtain ⟨h2, h3⟩ := scDs_get hxs
        refine ⟨?_, resSc_sound hr hv'⟩
        by_cases hag : ∃ cs, v = .agg cs
        · obtain ⟨cs, rfl⟩ := hag
          obtain ⟨us, e1, e2, e3⟩ := h1
          simp only [dvOf, Option.some.injEq] at hx
          subst hx
          refine ⟨us, e1, by rw [e2, h2]; rfl, fun j d hj => ?_⟩
          obtain ⟨k1, k2⟩ := h3 j d hj
          obtain ⟨q, q1, q2, q3⟩ := e3 j _ k1
          exact ⟨k2, q, q1, q3⟩
        · have hc : ∃ d, x = .one d ∧ xs = [d] := by
            cases v <;> first | exact absurd ⟨_, rfl⟩ hag | (simp [dvOf] at hx; done) | skip
            all_goals
              match xs, hx with
              | [d], hx => simp only [dvOf, Option.some.injEq] at hx; exact ⟨d, hx.symm, rfl⟩
          obtain ⟨d, rfl, rfl⟩ := hc
          obtain ⟨k1, k2⟩ := h3 0 d rfl
          have hv : v = .d d := by
            cases v <;> first | exact absurd ⟨_, rfl⟩ hag | (simp [cellsOf] at k1; done) | (simp [cellsOf] at k1; rw [k1])
          subst hv
          exact ⟨k2, h1⟩
      · cases h
    · cases h

/-- What was given back, one value after the other. -/
theorem resFr_sound {h0 : List (Nat × Blk)} : ∀ (kss : List (List (Option (Nat × Nat)))) (vs : List SV) (rv : List Value) (st : St) (G : Gh) (rs : List DV) (st' : St), Inv C R G st a w → Gle G G0 → Has G0 h0 G st.h → (∀ ks ∈ kss, KOk C.P ks) → ValsAt R G0 h0 vs rv → resFr st kss vs = some (rs, st') →
    ∃ G' Ξ, Inv C R G' st' a w ∧ Gle G' G ∧ Has G0 h0 G' st'.h ∧ RetsK C.P R w kss rs rv Ξ ∧ (∀ i j k, Ξ i j k → k < w.heap.size ∧ (R.L k ∨ R.w0.heap.size ≤ k) ∧ ∀ lo hi, ¬ R.LB k lo hi) ∧ Apart3 Ξ ∧ (∀ i j k, Ξ i j k → ∃ n, G.live n ∧ G.φ n k) ∧ (∀ i j k n, Ξ i j k → G'.live n → G'.φ n k → False)
  | [], vs, rv, st, G, rs, st', H, hG, hH, hk, hv, h => by
    cases vs with
    | cons v vs => simp [resFr] at h
    | nil =>
      simp only [resFr, Option.some.injEq, Prod.mk.injEq] at h
      obtain ⟨rfl, rfl⟩ := h
      have : rv = [] := List.eq_nil_of_length_eq_zero (by simpa using hv.1)
      subst this
      exact ⟨G, fun _ _ _ => False, H, Gle.refl G, hH, trivial, fun _ _ _ h => h.elim, fun _ _ _ _ _ h => h.elim, fun _ _ _ h => h.elim, fun _ _ _ _ h => h.elim⟩
  | ks :: kss, vs, rv, st, G, rs, st', H, hG, hH, hk, hv, h => by
    cases vs with
    | nil => simp [resFr] at h
    | cons v vs =>
      obtain ⟨u, rv', rfl, h1, hv'⟩ := hv.tail
      simp only [resFr] at h
      split at h
      · rename_i xs st1 hgive
        split at h
        · rename_i x r st2 hx hr
          cases h
          unfold giveK at hgive
          split at hgive
          · rename_i ys st3 htk
            split at hgive
            · rename_i hsc
              cases hgive
              have hok := takeK_ok htk
              obtain ⟨c1, c2⟩ := cells_ok h1 hok
              obtain ⟨G1, θ, i1, i2, i8, i3, i4, i5, i6, i7, i9, i10, i11⟩ := takeK_sound ks (cellsOf v) u.cells.toList st G xs st1 H hG hH (fun e sz hm => hk ks (by simp) e sz hm) ⟨by simpa using c1, fun j y hj => by obtain ⟨q, k1, k2, k3⟩ := c2 j y hj; exact ⟨q, by simpa using k1, k2, k3⟩⟩ htk
              obtain ⟨G', Ξ, j1, j2, j3, j4, j5, j6, j7, j8⟩ := resFr_sound kss vs rv' st1 G1 r st' i1 (i2.trans hG) i8 (fun ks' hm => hk ks' (by simp [hm])) hv' hr
              refine ⟨G', consT θ Ξ, j1, j2.trans i2, j3, ⟨?_, j4⟩, fun i j k hh => ?_, fun i j i' j' k hh hh' => ?_, fun i j k hh => ?_, fun i j k n hh hn hφ => ?_⟩
              · by_cases hag : ∃ cs, v = .agg cs
                · obtain ⟨cs, rfl⟩ := hag
                  obtain ⟨us, rfl, _⟩ := agg_cells h1
                  simp only [dvOf, Option.some.injEq] at hx
                  subst hx
                  have i3' : KC C.P R w ks xs us θ := by simpa [Value.cells] using i3
                  exact ⟨⟨us, rfl, i3'⟩, hsc⟩
                · have hna : ∀ cs, v ≠ .agg cs := fun cs e => hag ⟨cs, e⟩
                  obtain ⟨o1, o2⟩ := vrel_one h1 hok hna
                  rw [one_cells o1] at i3
                  have hc : ∃ d, x = .one d ∧ xs = [d] := by
                    cases v <;> first | exact absurd rfl (hna _) | (simp [dvOf] at hx; done) | skip
                    all_goals
                      match xs, hx with
                      | [d], hx => simp only [dvOf, Option.some.injEq] at hx; exact ⟨d, hx.symm, rfl⟩
                  obtain ⟨d, rfl, rfl⟩ := hc
                  exact ⟨i3, hsc⟩
              · cases i with
                | zero => exact i4 j k hh
                | succ i => exact j5 i j k hh
              · have cross : ∀ {i j j' : Nat}, θ j k → Ξ i j' k → False := fun e1 e2 => by
                  obtain ⟨n, n1, n2⟩ := j7 _ _ _ e2
                  exact i7 _ k n e1 n1 id n2
                cases i with
                | zero =>
                  cases i' with
                  | zero => exact ⟨rfl, i5 j j' k hh hh'⟩
                  | succ i' => exact (cross hh hh').elim
                | succ i =>
                  cases i' with
                  | zero => exact (cross hh' hh).elim
                  | succ i' => obtain ⟨e1, e2⟩ := j6 i j i' j' k hh hh'; exact ⟨by omega, e2⟩
              · cases i with
                | zero => obtain ⟨n, n1, n2⟩ := i6 j k hh; exact ⟨n, n1.1, n2⟩
                | succ i => obtain ⟨n, n1, n2⟩ := j7 i j k hh; exact ⟨n, i2.1 n n1, by rw [← i2.2.2.2]; exact n2⟩
              · cases i with
                | zero => exact i7 j k n hh (j2.1 n hn) id (by rw [← j2.2.2.2]; exact hφ)
                | succ i => exact j8 i j k n hh hn hφ
            · cases hgive
          · cases hgive
        · cases h
      · cases h

/-- The places of the variables that were handed over. -/
def Places (G : Gh) : Nat → List Mode → List Value → Prop
  | s, .ptr _ :: ms, v :: vs => v = .pointer (some ⟨(G.base (nm s 0)).1, (G.base (nm s 0)).2, none⟩) ∧ Places G (s + 1) ms vs
  | s, _ :: ms, _ :: vs => Places G (s + 1) ms vs
  | _, [], [] => True
  | _, _, _ => False
/-- They are fixed. -/
def Fixes (R : Rt) : Nat → List Mode → Prop
  | s, .ptr _ :: ms => (∃ b, R.fix (nm s 0) = some b) ∧ Fixes R (s + 1) ms
  | s, _ :: ms => Fixes R (s + 1) ms
  | _, [] => True
theorem box_phi {n : Nat} {b : Nat × Nat} (H : Inv C R G st a w) (hf : R.fix n = some b) : G.live n ∧ G.φ n (G.base n).1 ∧ ∃ cs, hlk st.h n = some (.box cs) := by
  obtain ⟨h1, _, h3⟩ := H.B.fix n b hf
  obtain ⟨cs, hc⟩ := h3 id
  obtain ⟨b, hb, hbr⟩ := H.B.rel n h1 id
  rw [hc] at hb; cases hb
  obtain ⟨cur, e, r1, r2, _⟩ := hbr
  exact ⟨h1, r2, cs, hc⟩
theorem nm_inj {a b : Nat} (h : nm a 0 = nm b 0) : a = b := by unfold nm at h; omega
theorem places_gle {G' : Gh} (hb : G'.base = G.base) : ∀ (ms : List Mode) (s : Nat) (vs : List Value), Places G s ms vs → Places G' s ms vs
  | [], s, vs, h => by cases vs <;> exact h
  | m :: ms, s, vs, h => by
    cases vs with
    | nil => cases m <;> exact h
    | cons v vs =>
      cases m with
      | ptr ks => exact ⟨by rw [hb]; exact h.1, places_gle hb ms _ vs h.2⟩
      | _ => exact places_gle hb ms _ vs h
theorem bxOk_get {n : Nat} : ∀ {j0 : Nat} {ks : List (Option (Nat × Nat))} {cs : List SV}, bxOk n j0 ks cs = true → ∀ (j : Nat) c, ks[j]? = some none → cs[j]? = some c → (∃ x, c = .d x ∧ isSc x = true) ∨ ∃ x, c = .bx n (j0 + j) x
  | j0, [], cs, _, j, c, h, _ => by simp at h
  | j0, k :: ks, [], _, j, c, _, h => by simp at h
  | j0, k :: ks, y :: cs, hb, 0, c, h, hc => by
    simp at h hc
    subst h hc
    cases y <;> simp [bxOk] at hb
    · exact .inl ⟨_, rfl, hb.1⟩
    · obtain ⟨⟨rfl, rfl⟩, _⟩ := hb; exact .inr ⟨_, rfl⟩
  | j0, k :: ks, y :: cs, hb, j + 1, c, h, hc => by
    have hb' : bxOk n (j0 + 1) ks cs = true := by
      cases k with
      | some p => simpa [bxOk] using hb
      | none => cases y <;> simp [bxOk] at hb <;> first | exact hb.2 | exact hb
    rcases bxOk_get hb' j c (by simpa using h) (by simpa using hc) with h1 | ⟨x, h1⟩
    · exact .inl h1
    · exact .inr ⟨x, by rw [h1, show j0 + 1 + j = j0 + (j + 1) by omega]⟩
theorem takeK_none : ∀ {ks : List (Option (Nat × Nat))} {cs : List SV} {st st' : St} {ds : List D}, takeK st ks cs = some (ds, st') → ∀ (j : Nat) c, ks[j]? = some none → cs[j]? = some c → ∃ d, ds[j]? = some d ∧ (c = .d d ∨ ∃ m i, c = .bx m i d)
  | [], cs, st, st', ds, _, j, c, h, _ => by simp at h
  | k :: ks, [], st, st', ds, _, j, c, _, h => by simp at h
  | none :: ks, y :: cs, st, st', ds, hk, j, c, h, hc => by
    cases y <;> simp only [takeK] at hk <;> first | cases hk | skip
    all_goals
      split at hk
      · rename_i x st2 heq
        cases hk
        cases j with
        | zero => simp at hc; subst hc; exact ⟨_, rfl, by simp⟩
        | succ j =>
          obtain ⟨d, h1, h2⟩ := takeK_none heq j c (by simpa using h) (by simpa using hc)
          exact ⟨d, by simpa using h1, h2⟩
      · cases hk
  | some (e, sz) :: ks, y :: cs, st, st', ds, hk, j, c, h, hc => by
    cases j with
    | zero => simp at h
    | succ j =>
      cases y <;> simp only [takeK] at hk <;> first | cases hk | skip
      · split at hk
        · rename_i x st2 heq
          cases hk
          obtain ⟨d, h1, h2⟩ := takeK_none heq j c (by simpa using h) (by simpa using hc)
          exact ⟨d, by simpa using h1, h2⟩
        · cases hk
      · split at hk
        · split at hk
          · split at hk
            · rename_i x st2 heq
              cases hk
              obtain ⟨d, h1, h2⟩ := takeK_none heq j c (by simpa using h) (by simpa using hc)
              exact ⟨d, by simpa using h1, h2⟩
            · cases hk
          · cases hk
        · cases hk
theorem outsOf_sound : ∀ (ms : List Mode) (s : Nat) (vs : List Value) (st : St) (G : Gh) (os : List (List D)) (st' : St), Inv C R G st a w → (∀ ks, Mode.ptr ks ∈ ms → KOk C.P ks) → Fixes R s ms → Places G s ms vs → outsOf s st ms = some (os, st') →
    ∃ G' Ω, Inv C R G' st' a w ∧ Gle G' G ∧ OutsK C.P R w ms vs os Ω ∧ (∀ i j k, Ω i j k → k < w.heap.size ∧ (R.L k ∨ R.w0.heap.size ≤ k)) ∧ (∀ i j k, Ω i (j + 1) k → ∀ lo hi, ¬ R.LB k lo hi) ∧ Apart3 Ω ∧ (∀ i j k, Ω i j k → ∃ n, G.live n ∧ G.φ n k) ∧ (∀ i j k n, Ω i (j + 1) k → G'.live n → G'.φ n k → False) ∧ (∀ i k, Ω i 0 k → k = (G.base (nm (s + i) 0)).1 ∧ ∃ b, R.fix (nm (s + i) 0) = some b)
  | [], s, vs, st, G, os, st', H, hk, hf, hp, h => by
    simp only [outsOf, Option.some.injEq, Prod.mk.injEq] at h
    obtain ⟨rfl, rfl⟩ := h
    cases vs with
    | cons v vs => exact hp.elim
    | nil => exact ⟨G, fun _ _ _ => False, H, Gle.refl G, trivial, fun _ _ _ h => h.elim, fun _ _ _ h => h.elim, fun _ _ _ _ _ h => h.elim, fun _ _ _ h => h.elim, fun _ _ _ _ h => h.elim, fun _ _ h => h.elim⟩
  | m :: ms, s, [], st, G, os, st', H, hk, hf, hp, h => by cases m <;> exact hp.elim
  | m :: ms, s, v :: vs, st, G, os, st', H, hk, hf, hp, h => by
    by_cases hpt : ∃ ks, m = .ptr ks
    · obtain ⟨ks, rfl⟩ := hpt
      obtain ⟨⟨b, hfb⟩, hf'⟩ := hf
      obtain ⟨hv, hp'⟩ := hp
      simp only [outsOf] at h
      split at h
      · rename_i cs hcs
        split at h
        · rename_i x st1 htk
          split at h
          · rename_i r st2 hr
            cases h
            obtain ⟨hl, _, _⟩ := box_phi H hfb
            obtain ⟨bb, hb', hbr⟩ := H.B.rel _ hl id
            rw [hcs] at hb'; cases hb'
            obtain ⟨cur, e, r1, r2, r3, r4, r5⟩ := hbr
            have hus : CellsAt R G st.h cs ((cur.toList.drop (G.base (nm s 0)).2).take cs.length) := by
              refine ⟨by simp; omega, fun j y hj => ?_⟩
              have hjl : j < cs.length := (List.getElem?_eq_some_iff.1 hj).1
              obtain ⟨q, k2, k3, k4⟩ := r5 j y hj
              refine ⟨q, ?_, k3, k4⟩
              rw [List.getElem?_take, if_pos hjl, List.getElem?_drop]
              simpa using k2
            have htk0 := htk
            split at htk
            case isFalse => cases htk
            rename_i hbx
            have hbox' := bxOk_get hbx
            have htkn := takeK_none htk
            obtain ⟨G1, θ, i1, i2, i8, i3, i4, i5, i6, i7, i9, i10, i11⟩ := takeK_sound (G0 := G) (h0 := st.h) ks cs _ st G x st1 H (Gle.refl G) (Has.refl _ _) (fun e sz hm => hk ks (by simp) e sz hm) hus htk
            obtain ⟨G', Ω, j1, j2, j3, j4, j5, j6, j7, j8, j9⟩ := outsOf_sound ms (s + 1) vs st1 G1 r st' i1 (fun ks' hm => hk ks' (by simp [hm])) hf' (places_gle i2.2.1 ms _ vs hp') hr
            have hxl : x.length = cs.length := by rw [← i3.2.1, hus.1]
            obtain ⟨hl1, hφ1, _⟩ := box_phi i1 hfb
            have hb1 : (G1.base (nm s 0)).1 = (G.base (nm s 0)).1 := by rw [i2.2.1]
            refine ⟨G', consT (behind θ (· = (G.base (nm s 0)).1)) Ω, j1, j2.trans i2, ⟨⟨_, _, cur, e, _, hv, r1, rfl, by rw [hxl]; exact r4, fun j u hj => ?_, i3, fun j d u f1 f2 f3 f4 => ?_⟩, j3⟩, fun i j k hh => ?_, fun i j k hh => ?_, fun i j i' j' k hh hh' => ?_, fun i j k hh => ?_, fun i j k n hh hn hφ => ?_, fun i k hh => ?_⟩
            · rw [List.getElem?_take] at hj
              split at hj
              · rw [List.getElem?_drop] at hj; simpa using hj
              · cases hj
            · have hjc : j < cs.length := by rw [← hxl]; exact (List.getElem?_eq_some_iff.1 f2).1
              obtain ⟨d', g1, g2⟩ := htkn j cs[j] f1 (by simp)
              rw [f2] at g1; cases g1
              obtain ⟨q, k2, k3, k4⟩ := hus.2 j cs[j] (by simp)
              rw [f4] at k2; cases k2
              rcases hbox' j cs[j] f1 (by simp) with ⟨y, y1, y2⟩ | ⟨y, y1⟩
              · rcases g2 with g2 | ⟨_, _, g2⟩
                · rw [g2] at y1; cases y1; rw [f3] at y2; cases y2
                · rw [g2] at y1; cases y1
              · rw [y1] at k4
                obtain ⟨⟨b', z1, z2⟩, _⟩ := k4
                obtain ⟨_, z3, _⟩ := H.B.fix _ _ z1
                rw [z3, show j = 0 + j by omega]
                exact z2
            · cases i with
              | zero =>
                cases j with
                | zero => rw [show k = (G.base (nm s 0)).1 from hh]; exact H.B.mine _ hl id _ r2
                | succ j => exact ⟨(i4 j k hh).1, (i4 j k hh).2.1⟩
              | succ i => exact j4 i j k hh
            · cases i with
              | zero => exact (i4 j k hh).2.2
              | succ i => exact j5 i j k hh
            · have boxrow : ∀ {j : Nat}, k = (G.base (nm s 0)).1 → θ j k → False := fun e1 e2 => i7 _ k (nm s 0) e2 hl1 id (by rw [e1, ← hb1]; exact hφ1)
              have cross : ∀ {j i j' : Nat}, behind θ (· = (G.base (nm s 0)).1) j k → Ω i j' k → False := fun {j i j'} e1 e2 => by
                cases j with
                | succ j =>
                  obtain ⟨n, n1, n2⟩ := j7 _ _ _ e2
                  exact i7 j k n e1 n1 id n2
                | zero =>
                  have e1' : k = (G.base (nm s 0)).1 := e1
                  cases j' with
                  | succ j' =>
                    obtain ⟨hl2, hφ2, _⟩ := box_phi j1 hfb
                    refine j8 i j' k (nm s 0) e2 hl2 ?_
                    rw [e1', ← hb1, ← j2.2.1]; exact hφ2
                  | zero =>
                    obtain ⟨q1, b', q2⟩ := j9 i k e2
                    obtain ⟨hl3, hφ3, _⟩ := box_phi i1 q2
                    refine i1.B.disj (nm s 0) (nm (s + 1 + i) 0) hl1 id hl3 id (fun e => by have := nm_inj e; omega) k ?_ ?_
                    · rw [e1', ← hb1]; exact hφ1
                    · rw [q1]; exact hφ3
              cases i with
              | zero =>
                cases i' with
                | zero =>
                  cases j with
                  | zero =>
                    cases j' with
                    | zero => exact ⟨rfl, rfl⟩
                    | succ j' => exact (boxrow hh hh').elim
                  | succ j =>
                    cases j' with
                    | zero => exact (boxrow hh' hh).elim
                    | succ j' => exact ⟨rfl, by rw [i5 j j' k hh hh']⟩
                | succ i' => exact (cross hh hh').elim
              | succ i =>
                cases i' with
                | zero => exact (cross hh' hh).elim
                | succ i' => obtain ⟨e1, e2⟩ := j6 i j i' j' k hh hh'; exact ⟨by omega, e2⟩
            · cases i with
              | zero =>
                cases j with
                | zero => exact ⟨nm s 0, hl, by rw [show k = (G.base (nm s 0)).1 from hh]; exact r2⟩
                | succ j => obtain ⟨n, n1, n2⟩ := i6 j k hh; exact ⟨n, n1.1, n2⟩
              | succ i => obtain ⟨n, n1, n2⟩ := j7 i j k hh; exact ⟨n, i2.1 n n1, by rw [← i2.2.2.2]; exact n2⟩
            · cases i with
              | zero => exact i7 j k n hh (j2.1 n hn) id (by rw [← j2.2.2.2]; exact hφ)
              | succ i => exact j8 i j k n hh hn hφ
            · cases i with
              | zero => exact ⟨hh, b, hfb⟩
              | succ i =>
                obtain ⟨q1, q2⟩ := j9 i k hh
                rw [show s + (i + 1) = s + 1 + i by omega]
                exact ⟨by rw [q1, i2.2.1], q2⟩
          · cases h
        · cases h
      · cases h
    · have hio : ¬ ∃ ks, m = .io ks := fun ⟨ks, e⟩ => by subst e; simp [outsOf] at h
      have hf' : Fixes R (s + 1) ms := by cases m <;> first | exact absurd ⟨_, rfl⟩ hpt | exact hf
      have hp' : Places G (s + 1) ms vs := by cases m <;> first | exact absurd ⟨_, rfl⟩ hpt | exact hp
      have h' : outsOf (s + 1) st ms = some (os, st') := by cases m <;> first | exact absurd ⟨_, rfl⟩ hpt | exact absurd ⟨_, rfl⟩ hio | (simpa [outsOf] using h)
      obtain ⟨G', Ω, j1, j2, j3, j4, j5, j6, j7, j8, j9⟩ := outsOf_sound ms (s + 1) vs st G os st' H (fun ks' hm => hk ks' (by simp [hm])) hf' hp' h'
      have hO : OutsK C.P R w (m :: ms) (v :: vs) os (consT (fun _ _ => False) Ω) := by cases m <;> first | exact absurd ⟨_, rfl⟩ hpt | exact absurd ⟨_, rfl⟩ hio | (cases os <;> exact j3)
      refine ⟨G', consT (fun _ _ => False) Ω, j1, j2, hO, fun i j k hh => ?_, fun i j k hh => ?_, fun i j i' j' k hh hh' => ?_, fun i j k hh => ?_, fun i j k n hh => ?_, fun i k hh => ?_⟩
      · cases i with | zero => exact hh.elim | succ i => exact j4 i j k hh
      · cases i with | zero => exact hh.elim | succ i => exact j5 i j k hh
      · cases i with
        | zero => exact hh.elim
        | succ i => cases i' with | zero => exact hh'.elim | succ i' => obtain ⟨e1, e2⟩ := j6 i j i' j' k hh hh'; exact ⟨by omega, e2⟩
      · cases i with | zero => exact hh.elim | succ i => exact j7 i j k hh
      · cases i with | zero => exact hh.elim | succ i => exact j8 i j k n hh
      · cases i with
        | zero => exact hh.elim
        | succ i =>
          rw [show s + (i + 1) = s + 1 + i by omega]
          exact j9 i k hh
end Go.Den

/- A function: what it is handed, what it gives back. -/
namespace Go.Den
open Go
variable {C : Ctx} {R : Rt} {G G0 G1 : Gh} {st st1 st2 : St} {a : Act} {w w' : World} {o : Oper} {v : SV}

theorem adds_keep : ∀ {xs : List (Nat × Blk)} {st st1 : St}, adds st xs = some st1 → (∀ n b, hlk st.h n = some b → hlk st1.h n = some b) ∧ st1.m = st.m ∧ st1.l = st.l
  | [], st, st1, h => by simp [adds] at h; subst h; exact ⟨fun _ _ h => h, rfl, rfl⟩
  | (k, x) :: r, st, st1, h => by
    simp only [adds] at h
    split at h
    · cases h
    · obtain ⟨h1, h2, h3⟩ := adds_keep h
      exact ⟨fun n b hb => h1 n b (by show hlk (st.h ++ [(k, x)]) n = _; rw [hlk_snoc, hb]), h2, h3⟩
/-- The variables that were handed over are there. -/
def Born (G : Gh) (h : List (Nat × Blk)) : Nat → List Mode → Prop
  | s, .ptr _ :: ms => (G.live (nm s 0) ∧ ∃ cs, hlk h (nm s 0) = some (.box cs)) ∧ Born G h (s + 1) ms
  | s, _ :: ms => Born G h (s + 1) ms
  | _, [] => True
theorem init_sound (hw : w = R.w0) : ∀ (ms : List Mode) (s : Nat) (xs : List DV) (vs : List Value) (Θ : Nat → Nat → Nat → Prop) (svs : List SV) (h : List (Nat × Blk)) (st : St) (G : Gh) (st2 : St), initP s ms xs = some (svs, h) → ArgsK C.P R ms xs vs Θ → Inv C R G st a w →
    (∀ i j k, Θ i j k → k < w.heap.size ∧ R.L k) → (∀ i j k, Θ i (j + 1) k → ∀ lo hi, ¬ R.LB k lo hi) → Apart3 Θ → (∀ i j k n, Θ i j k → G.live n → G.φ n k → False) → adds st h = some st2 →
    ∃ G2, Inv C R G2 st2 a w ∧ (∀ n, Same G st.h G2 st2.h n) ∧ ValsAt R G2 st2.h svs vs ∧ Places G2 s ms vs ∧ Born G2 st2.h s ms := by
  subst hw
  intro ms
  induction ms with
  | nil =>
    intro s xs vs Θ svs h st G st2 hi hA H hm hlb hap hsep ha
    cases xs with
    | cons x xs => simp [initP] at hi
    | nil =>
      cases vs with
      | cons v vs => exact hA.elim
      | nil =>
        simp only [initP, Option.some.injEq, Prod.mk.injEq] at hi
        obtain ⟨rfl, rfl⟩ := hi
        simp only [adds, Option.some.injEq] at ha
        subst ha
        exact ⟨G, H, Same.refl G st.h, ⟨rfl, fun j x hj => by simp at hj⟩, trivial, trivial⟩
  | cons m ms ih =>
    intro s xs vs Θ svs h st G st2 hi hA H hm hlb hap hsep ha
    cases xs with
    | nil => cases m <;> simp [initP] at hi
    | cons x xs =>
      cases vs with
      | nil => exact hA.elim
      | cons v vs =>
        obtain ⟨hA1, hA2⟩ := hA
        have apt : Apart3 fun i => Θ (i + 1) := fun i j i' j' k h1 h2 => by obtain ⟨e1, e2⟩ := hap _ _ _ _ _ h1 h2; exact ⟨by omega, e2⟩
        -- the others, behind the first
        have tail : ∀ {st1 : St} {G1 : Gh} {sx : SV} {svs' : List SV} {h' : List (Nat × Blk)}, initP (s + 1) ms xs = some (svs', h') → Inv C R G1 st1 a R.w0 → (∀ n, Same G st.h G1 st1.h n) → VRel R G1 st1.h sx v → (∀ i j k n, Θ (i + 1) j k → G1.live n → G1.φ n k → False) → adds st1 h' = some st2 →
            ∃ G2, Inv C R G2 st2 a R.w0 ∧ (∀ n, Same G st.h G2 st2.h n) ∧ (∀ n, Same G1 st1.h G2 st2.h n) ∧ ValsAt R G2 st2.h (sx :: svs') (v :: vs) ∧ Places G2 (s + 1) ms vs ∧ Born G2 st2.h (s + 1) ms := by
          intro st1 G1 sx svs' h' hi' H1 hS hv hsep1 ha'
          obtain ⟨G2, j1, j2, j3, j4, j5⟩ := ih (s + 1) xs vs (fun i => Θ (i + 1)) svs' h' st1 G1 st2 hi' hA2 H1 (fun i j k => hm (i + 1) j k) (fun i j k => hlb (i + 1) j k) apt hsep1 ha'
          refine ⟨G2, j1, fun n => (hS n).trans (j2 n), j2, ⟨by simp [j3.1], fun j y hj => ?_⟩, j4, j5⟩
          cases j with
          | zero => simp at hj; subst hj; exact ⟨v, rfl, vrel_same j2 hv⟩
          | succ j => simpa using j3.2 j y (by simpa using hj)
        have sepR : ∀ i j k n, Θ (i + 1) j k → G.live n → G.φ n k → False := fun i j k n => hsep (i + 1) j k n
        -- cells laid down first
        have laid : ∀ {ks : List (Option (Nat × Nat))} {ds : List D} {us : List Value} {c : List SV} {d : List (Nat × Blk)} {stA : St}, layK (nmsF s 1 ks.length) ks ds = some (c, d) → KC C.P R R.w0 ks ds us (fun j => Θ 0 (j + 1)) → adds st d = some stA →
            ∃ GA, Inv C R GA stA a R.w0 ∧ (∀ n, Same G st.h GA stA.h n) ∧ CellsAt R GA stA.h c us ∧ (∀ i j k n, Θ (i + 1) j k → GA.live n → GA.φ n k → False) ∧ ∀ k n, Θ 0 0 k → GA.live n → GA.φ n k → False := by
          intro ks ds us c d stA hl hk hd
          obtain ⟨GA, i1, i2, i3, i4, i5, i6⟩ := lay_sound _ ks ds us (fun j => Θ 0 (j + 1)) c d G st stA hl H hk (fun j k h => ⟨(hm 0 (j + 1) k h).1, .inl (hm 0 (j + 1) k h).2, hlb 0 j k h⟩) (fun i j k h1 h2 => by have := (hap _ _ _ _ _ h1 h2).2; omega) (fun j k n h h2 _ h3 => hsep 0 (j + 1) k n h h2 h3) (fun _ _ => id) hd
          refine ⟨GA, i1, i2, i3, fun i j k n hh hn hφ => ?_, fun k n hh hn hφ => ?_⟩
          · rcases i5 n k hn hφ with ⟨h1, h2⟩ | ⟨j', hj'⟩
            · exact hsep (i + 1) j k n hh h1 h2
            · have := (hap _ _ _ _ _ hh hj').1; omega
          · rcases i5 n k hn hφ with ⟨h1, h2⟩ | ⟨j', hj'⟩
            · exact hsep 0 0 k n hh h1 h2
            · have := (hap _ _ _ _ _ hh hj').2; omega
        cases m with
        | bor =>
          cases x with
          | ptr ds => exact hA1.elim
          | one d =>
            simp only [initP] at hi
            split at hi
            · rename_i svs' h' hi'
              cases hi
              obtain ⟨G2, j1, j2, _, j3, j4, j5⟩ := tail (sx := .d d) hi' H (Same.refl G st.h) hA1 sepR ha
              exact ⟨G2, j1, j2, j3, j4, j5⟩
            · cases hi
          | agg ds =>
            simp only [initP] at hi
            split at hi
            · rename_i svs' h' hi'
              cases hi
              obtain ⟨us, e1, e2, e3⟩ := hA1
              obtain ⟨G2, j1, j2, _, j3, j4, j5⟩ := tail (sx := .agg (ds.map .d)) hi' H (Same.refl G st.h) ⟨us, e1, by simp [e2], fun j y hj => by
                rw [List.getElem?_map, Option.map_eq_some_iff] at hj
                obtain ⟨d, hd, rfl⟩ := hj
                obtain ⟨u, k1, k2⟩ := e3 j d hd
                exact ⟨u, k1, k2.one, k2⟩⟩ sepR ha
              exact ⟨G2, j1, j2, j3, j4, j5⟩
            · cases hi
        | rptr sz =>
          cases x with
          | one d => exact hA1.elim
          | agg d => exact hA1.elim
          | ptr ds =>
            simp only [initP] at hi
            split at hi
            · split at hi
              · rename_i svs' h' hi'
                cases hi
                obtain ⟨G2, j1, j2, _, j3, j4, j5⟩ := tail (sx := .pv ds 0) hi' H (Same.refl G st.h) hA1.2 sepR ha
                exact ⟨G2, j1, j2, j3, j4, j5⟩
              · cases hi
            · cases hi
        | fnp f sz =>
          cases x with
          | one d => exact hA1.elim
          | agg d => exact hA1.elim
          | ptr ds =>
            simp only [initP] at hi
            split at hi
            · split at hi
              · rename_i svs' h' hi'
                cases hi
                obtain ⟨G2, j1, j2, _, j3, j4, j5⟩ := tail (sx := .fb f ds) hi' H (Same.refl G st.h) hA1.2 sepR ha
                exact ⟨G2, j1, j2, j3, j4, j5⟩
              · cases hi
            · cases hi
        | own ks =>
          cases x with
          | ptr ds => simp [initP] at hi
          | one d =>
            simp only [initP] at hi
            split at hi
            · rename_i c dd svs' h' hl hi'
              cases hi
              rw [adds_append] at ha
              split at ha
              · rename_i stA hA'
                obtain ⟨GA, i1, i2, i3, i4, _⟩ := laid hl hA1 hA'
                obtain ⟨q, q1, q2, q3⟩ := i3.2 0 c rfl
                simp at q1; subst q1
                obtain ⟨G2, j1, j2, _, j3, j4, j5⟩ := tail (sx := c) hi' i1 i2 (arel_one q3) i4 ha
                exact ⟨G2, j1, j2, j3, j4, j5⟩
              · cases ha
            · cases hi
          | agg ds =>
            simp only [initP] at hi
            split at hi
            · rename_i c dd svs' h' hl hi'
              cases hi
              obtain ⟨us, rfl, hk⟩ := hA1
              rw [adds_append] at ha
              split at ha
              · rename_i stA hA'
                obtain ⟨GA, i1, i2, i3, i4, _⟩ := laid hl hk hA'
                obtain ⟨G2, j1, j2, _, j3, j4, j5⟩ := tail (sx := .agg c) hi' i1 i2 ⟨us, rfl, i3.1, i3.2⟩ i4 ha
                exact ⟨G2, j1, j2, j3, j4, j5⟩
              · cases ha
            · cases hi
        | io ks =>
          cases x with
          | ptr ds => simp [initP] at hi
          | one d =>
            simp only [initP] at hi
            split at hi
            · rename_i c dd svs' h' hl hi'
              cases hi
              rw [adds_append] at ha
              split at ha
              · rename_i stA hA'
                obtain ⟨GA, i1, i2, i3, i4, _⟩ := laid hl hA1.1 hA'
                obtain ⟨q, q1, q2, q3⟩ := i3.2 0 c rfl
                simp at q1; subst q1
                obtain ⟨G2, j1, j2, _, j3, j4, j5⟩ := tail (sx := c) hi' i1 i2 (arel_one q3) i4 ha
                exact ⟨G2, j1, j2, j3, j4, j5⟩
              · cases ha
            · cases hi
          | agg ds =>
            simp only [initP] at hi
            split at hi
            · rename_i c dd svs' h' hl hi'
              cases hi
              obtain ⟨us, rfl, hk⟩ := hA1
              rw [adds_append] at ha
              split at ha
              · rename_i stA hA'
                obtain ⟨GA, i1, i2, i3, i4, _⟩ := laid hl hk hA'
                obtain ⟨G2, j1, j2, _, j3, j4, j5⟩ := tail (sx := .agg c) hi' i1 i2 ⟨us, rfl, i3.1, i3.2⟩ i4 ha
                exact ⟨G2, j1, j2, j3, j4, j5⟩
              · cases ha
            · cases hi
        | ptr ks =>
          cases x with
          | one d => exact hA1.elim
          | agg d => exact hA1.elim
          | ptr ds =>
            simp only [initP] at hi
            split at hi
            · rename_i c dd svs' h' hl hi'
              cases hi
              obtain ⟨g, b, cur, e, us, rfl, k2, k3, k4, k5, k6, k7⟩ := hA1
              rw [adds_append] at ha
              split at ha
              · rename_i stA hA'
                obtain ⟨GA, i1, i2, i3, i4, i5⟩ := laid hl k6 hA'
                simp only [adds] at ha
                split at ha
                · cases ha
                · rename_i hnone
                  have hnl : ¬ GA.live (nm s 0) := fun h => by obtain ⟨b, hb, _⟩ := i1.B.rel _ h id; rw [hnone] at hb; cases hb
                  have hcl := i3.1.symm.trans k6.2.1
                  have hadd := add_inv (n := nm s 0) (b := (g, b)) (v := undef) (ψ := Θ 0 0) (x := .box c) i1 hnone id (fun k hk => ⟨(hm 0 0 k hk).1, .inl (hm 0 0 k hk).2⟩) (fun k n hk hn _ hφ => i5 k n hk hn hφ) ⟨cur, e, by simp [Gh.add, k2], by simp [Gh.add, k3], fun lo hi hlb' => by
                      simp only [Gh.add, if_true] at hlb' ⊢
                      rw [hcl]; exact k7 lo hi hlb', by simp [Gh.add, hcl]; exact k4, fun j x hj => by
                      obtain ⟨q, q1, q2, q3⟩ := i3.2 j x hj
                      exact ⟨q, by simp only [Gh.add, if_true]; exact k5 j q q1, q2, crel_same (fun m _ => same_add hnl _ _ _ _ m) q3⟩⟩
                  have hsep' : ∀ i j k n, Θ (i + 1) j k → (GA.add (nm s 0) (g, b) undef (Θ 0 0)).live n → (GA.add (nm s 0) (g, b) undef (Θ 0 0)).φ n k → False := fun i j k n hh hn hφ => by
                    simp only [Gh.add] at hφ
                    split at hφ
                    · have := (hap _ _ _ _ _ hh hφ).1; omega
                    · rename_i hne
                      rcases hn with hn | hn
                      · exact i4 i j k n hh hn hφ
                      · exact hne hn
                  obtain ⟨G2, j1, j2, j2', j3, j4, j5⟩ := tail (sx := .ptr (nm s 0) 0) hi' hadd (fun n => (i2 n).trans (same_add hnl _ _ _ _ n)) ⟨.inr rfl, by simp [Gh.add]⟩ hsep' ha
                  have hlive := j2' (nm s 0) (.inr rfl)
                  refine ⟨G2, j1, j2, j3, ⟨?_, j4⟩, ⟨hlive.1, c, ?_⟩, j5⟩
                  · rw [hlive.2.1]; simp [Gh.add]
                  · exact (adds_keep ha).1 _ _ (by show hlk (stA.h ++ [(nm s 0, .box c)]) (nm s 0) = _; rw [hlk_snoc, hnone]; simp)
              · cases ha
            · cases hi
end Go.Den
