/- The evaluator of Go code over plain data, and its soundness: part 6 of 7. -/
import Derived.Test.YtkokejemgekfaaaDm5
import Derived.LoopN
set_option linter.unusedVariables false
set_option linter.unusedSimpArgs false
/- Draw regions, last part: every order comes to what den says. -/
namespace Go.Den
open Go
variable {C : Ctx} {R : Rt} {G G' G0 G1 : Gh} {st st1 st2 σ σ1 σ2 s s1 s2 : St} {a a' : Act} {w w' : World} {o : Oper} {v x : SV} {ops : Array Oper} {ms : List Nat} {X : Nat → Prop} {n : Nat} {done : List (Nat × Nat)} {suf : List (Nat × Nat × List Nat)}

theorem frames_mem {hs : List Nat} : ∀ {js : List Nat}, frames C ops st hs js = true → ∀ j ∈ js, frame1 C ops st hs j = true
  | [], _, j, hj => by simp at hj
  | i :: js, h, j, hj => by
    simp only [frames, Bool.and_eq_true] at h
    rcases List.mem_cons.1 hj with rfl | hj
    · exact h.1
    · exact frames_mem h.2 j hj
theorem calms_mem {hs : List Nat} : ∀ {ts : List Nat}, calms C st hs ts = true → ∀ t ∈ ts, calm C st hs t = true
  | [], _, t, ht => by simp at ht
  | x :: ts, h, t, ht => by
    simp only [calms, Bool.and_eq_true] at h
    rcases List.mem_cons.1 ht with rfl | ht
    · exact h.1
    · exact calms_mem h.2 t ht
/-- 'again' stands where nothing is touched that it looks at. -/
theorem again_frame {i : Nat} {hs : List Nat} (A : Frm hs s s1) (hf : frame1 C ops s hs i = true) (H : again C ops s i) : again C ops s1 i := by
  unfold frame1 at hf
  unfold again at H ⊢
  cases ho : ops[i]? with
  | none => rw [ho] at H; exact H
  | some o =>
    rw [ho] at H hf
    dsimp only at H hf ⊢
    rw [Bool.and_eq_true] at hf
    have look : ∀ t ∈ o.looksAt ops, lk s1.l t = lk s.l t ∧ ∀ p, gt C s1 p t = gt C s p t ∧ SeeV s s1 (gt C s p t) := fun t ht => by
      obtain ⟨h1, _, h3⟩ := calm_spec (calms_mem hf.1 t ht) A
      exact ⟨h1, h3⟩
    have e1 : guardOf ops s1 o.guard = guardOf ops s o.guard := guard_of_eq fun j b oj t hg hj ht => (look t (looks_guard hg hj ht)).1
    have e2 : ∀ p, light C s1 p o.op = light C s p o.op := fun p => light_see (fun t ht p => ((look t (looks_tmp ht)).2 p).1) (fun t ht p => ((look t (looks_tmp ht)).2 p).2)
    rw [e1]
    cases hg : guardOf ops s o.guard with
    | none => rw [hg] at H; exact H
    | some pc =>
      obtain ⟨p, c⟩ := pc
      rw [hg] at H
      dsimp only at H ⊢
      rw [e2]
      cases hd : o.dst with
      | none => rw [hd] at H; exact H
      | some t =>
        rw [hd] at H hf
        dsimp only at H hf ⊢
        obtain ⟨e3, e4, _⟩ := calm_spec hf.2 A
        have e5 : holdsV C s1 t p c = holdsV C s t p c := by
          unfold holdsV
          rw [e3]
          cases hl : lk s.l t with
          | some e => rfl
          | none => rw [hl] at e4; dsimp only at e4; rw [e4]
        rw [e5]
        exact H

def PtrOr (d : Nat) (x : SV) : Prop := x = .ptr (nm d 0) 0 ∨ x = .undef
theorem ptrOr_kill {d n : Nat} (h : PtrOr d x) : PtrOr d (killV n x) := by
  rcases h with rfl | rfl
  · simp only [killV, killA, killC]
    split
    · exact .inr rfl
    · exact .inl rfl
  · exact .inr rfl
theorem holds_kill {d n : Nat} {m : List SV} {l : List (Nat × Path × Bool × SV)} {h h' : List (Nat × Blk)} (e : ∃ x, holdsV C ⟨m, l, h⟩ d [] true = some x ∧ PtrOr d x) : ∃ x, holdsV C ⟨killM n m, killL n l, h'⟩ d [] true = some x ∧ PtrOr d x := by
  obtain ⟨x, h1, h2⟩ := e
  unfold holdsV at h1 ⊢
  dsimp only at h1 ⊢
  rw [lk_killL, lkm_killM]
  by_cases hk : isIn C.keep d = true
  · rw [if_pos hk] at h1 ⊢
    cases hl : lk l d with
    | none => rw [hl] at h1; simp at h1; subst h1; exact ⟨_, rfl, ptrOr_kill h2⟩
    | some q => rw [hl] at h1; cases h1
  · rw [if_neg hk] at h1 ⊢
    cases hl : lk l d with
    | none => rw [hl] at h1; cases h1
    | some q =>
      obtain ⟨q, c, y⟩ := q
      rw [hl] at h1
      dsimp only [Option.map] at h1 ⊢
      split at h1
      · rename_i hc; rw [if_pos hc]; cases h1; exact ⟨_, rfl, ptrOr_kill h2⟩
      · cases h1
theorem holds_kills {d : Nat} : ∀ (ns : List Nat) {m : List SV} {l : List (Nat × Path × Bool × SV)} {h h' : List (Nat × Blk)}, (∃ x, holdsV C ⟨m, l, h⟩ d [] true = some x ∧ PtrOr d x) → ∃ x, holdsV C ⟨killsM ns m, killsL ns l, h'⟩ d [] true = some x ∧ PtrOr d x
  | [], m, l, h, h', e => e
  | n :: ns, m, l, h, h', e => holds_kills ns (h := h) (holds_kill (h' := h) e)
theorem holds_sim {d : Nat} (A : Sim s s2 σ σ2) (e : ∃ x, holdsV C s d [] true = some x ∧ PtrOr d x) : ∃ x, holdsV C s2 d [] true = some x ∧ PtrOr d x := by
  obtain ⟨ns, a1, a2, _, _, _⟩ := A
  have := holds_kills (C := C) (d := d) ns (m := s.m) (l := s.l) (h := s.h) (h' := s2.h) e
  rw [← a1, ← a2] at this
  exact this
theorem killsM_len : ∀ (ns : List Nat) (m : List SV), (killsM ns m).length = m.length
  | [], m => rfl
  | n :: ns, m => by rw [killsM, killsM_len ns, killM_len]
theorem killsL_some (t : Nat) : ∀ (ns : List Nat) (l : List (Nat × Path × Bool × SV)), (lk (killsL ns l) t).isSome = (lk l t).isSome
  | [], l => rfl
  | n :: ns, l => by rw [killsL, killsL_some t ns, lk_killL]; cases lk l t <;> rfl

/-- A turn. -/
theorem Mid.turn {p : Path} {c : Bool} {i : Nat} {js : List Nat} {r : List (Nat × Nat × List Nat)} (M : Mid C R ops ms n X done ((i, 1, js) :: r) s σ G a w) (K : Chk ops ms done i 1 js r o) (hr : ∀ j, bef ms i j = true → X j) (A : Sim s s2 σ σ2) (hF2 : Frm (hitsOf C s o) s s2) (hag : frames C ops s (hitsOf C s o) js = true)
    (hinv : Inv C R G' (pt C σ2 p c o.dst v) a' w') (hm : σ2.m.length = C.keep.length) (hsz : a'.tmps.size = a.tmps.size) (hF : Fr G σ.h G' σ2.h) : Mid C R ops ms n (fun j => X j ∨ j = i) ((i, 1) :: done) r (pt C s2 p c o.dst v) (pt C σ2 p c o.dst v) G' a' w' := by
  have hX : ¬ X i := M.notX K.new
  have hsm : s2.m.length = C.keep.length := by obtain ⟨ns, a1, _⟩ := A; rw [a1, killsM_len]; exact M.sm
  have hs2l : ∀ t, (lk s2.l t).isSome = (lk s.l t).isSome := fun t => by obtain ⟨ns, _, a2, _⟩ := A; rw [a2, killsL_some]
  have hσ2l : ∀ t, (lk σ2.l t).isSome = (lk σ.l t).isSome := fun t => by obtain ⟨ns, _, _, _, a4, _⟩ := A; rw [a4, killsL_some]
  have hnh : ∀ t, o.dst = some t → ¬ Hid ops X done t := fun t ht ⟨j, oj, h1, h2, h3, h4⟩ => by
    have := M.one K.ho h3 ht h4; subst this; rw [K.new] at h1; cases h1
  have R2 := (M.rel.sim A).pt (v := v) (p := p) (c := c) hnh hm hsm
  have hjs : ∀ j, hasD done j 0 = true → ¬ (X j ∨ j = i) → again C ops (pt C s2 p c o.dst v) j := fun j hj hxj => by
    rcases K.again rfl j hj with h | h
    · exact absurd (.inl (hr j h)) hxj
    · have h2 := again_frame hF2 (frames_mem hag j h) (M.ag j hj (fun hx => hxj (.inl hx)))
      refine again_of_eq (pt_h _ _ _ _ _) (fun o' t ho' ht => pt_other (fun hd => ?_) hsm) h2
      rcases ht with ht | ht
      · rcases M.rd j o' t i o (hasD_any hj) (fun hx => hxj (.inl hx)) ho' ht K.ho hd with hb | ⟨hb, _⟩
        · have := M.wf.closed j i (hasD_any hj) (lt_of_get K.ho) hb
          rw [K.new] at this; cases this
        · exact hxj (.inl (hr j hb))
      · have := M.one ho' K.ho ht hd
        exact hxj (.inr this)
  refine { dst := M.dst, chk := K.next, wf := ⟨fun j hj hb => K.sub j hj hb, M.wf⟩, dx := fun j hj => ?_, cl := fun j k hj hb => ?_, tx := fun j hj => ?_, kk := fun j hj => ?_, rd := fun j o' t k oj h1 h2 ho' ht hk hd => ?_, rel := ?_, ag := fun j hj hxj => ?_, al := fun j hj hxj => ?_, inv := hinv, sm := by rw [pt_m]; exact hsm, lx := ?_, ls := fun t ht => ?_, sz := hsz.trans M.sz }
  · rw [anyD_cons]
    rcases hj with hj | rfl
    · exact .inr (M.dx j hj)
    · exact .inl rfl
  · rcases hj with hj | rfl
    · exact .inl (M.cl j k hj hb)
    · exact .inl (hr k hb)
  · rw [hasD_cons] at hj
    rcases hj with ⟨rfl, _⟩ | hj
    · exact .inr rfl
    · exact .inl (M.tx j hj)
  · rw [anyD_cons] at hj
    simp only [hasD_cons]
    rcases hj with rfl | hj
    · exact .inr (.inl (by simp))
    · rcases M.kk j hj with h | h | h
      · exact .inl (.inr h)
      · exact .inr (.inl (.inr h))
      · exact .inr (.inr (.inr h))
  · rw [anyD_cons] at h1
    rcases h1 with rfl | h1
    · exact absurd (.inr rfl) h2
    · rcases M.rd j o' t k oj h1 (fun h => h2 (.inl h)) ho' ht hk hd with h | ⟨h, h'⟩
      · exact .inl h
      · simp only [turnIn] at h'
        by_cases e : i = k
        · subst e
          exact absurd (.inl (hr j h)) h2
        · rw [if_neg e] at h'
          exact .inr ⟨h, h'⟩
  · refine R2.congr fun t => ⟨fun ⟨j, oj, h1, h2, h3, h4⟩ => ?_, fun ⟨j, oj, h1, h2, h3, h4⟩ => ⟨j, oj, (anyD_cons _ _ _ _).2 (.inr h1), fun h => ?_, h3, h4⟩⟩
    · rw [anyD_cons] at h1
      rcases h1 with rfl | h1
      · exact absurd (.inr rfl) h2
      · exact ⟨j, oj, h1, fun h => h2 (.inl h), h3, h4⟩
    · rcases h with h | rfl
      · exact h2 h
      · rw [K.new] at h1; cases h1
  · rw [hasD_cons] at hj
    rcases hj with ⟨_, h⟩ | hj
    · cases h
    · exact hjs j hj hxj
  · rw [hasD_cons] at hj
    rcases hj with ⟨_, h⟩ | hj
    · cases h
    · obtain ⟨o', t, d, zs, h1, h2, h3, h4, h5, h6, y, h7, h8⟩ := M.al j hj (fun h => hxj (.inl h))
      obtain ⟨z, h9, h10⟩ := holds_sim (C := C) (d := d) A ⟨y, h7, h8⟩
      have hne : o.dst ≠ some d := fun e => by
        have := M.one h1 K.ho h4 e
        exact hxj (.inr this)
      obtain ⟨e3, e4⟩ := pt_other (C := C) (st := s2) (p := p) (c := c) (v := v) hne hsm
      exact ⟨o', t, d, zs, h1, h2, h3, h4, h5, by rw [pt_h]; exact hF _ _ h6, z, by rw [holdsV_of_eq e3 e4]; exact h9, h10⟩
  · exact lx_pt (fun t ht => M.lx t (by rw [← hσ2l t]; exact ht)) K.ho rfl
  · unfold pt at ht
    cases hd : o.dst with
    | none => rw [hd] at ht; exact M.ls t (by rw [← hs2l t]; exact ht)
    | some d =>
      rw [hd] at ht
      dsimp only at ht
      split at ht
      · exact M.ls t (by rw [← hs2l t]; cases p <;> exact ht)
      · rename_i hk
        simp only [lk] at ht
        split at ht
        · rename_i e; subst e; simpa using hk
        · exact M.ls t (by rw [← hs2l t]; exact ht)

theorem Mid.hereOf {p : Path} (M : Mid C R ops ms n X done suf s σ G a w) (hp : PathC σ.l p true) : Here C R G σ a w p := ⟨M.inv.W, M.inv.bare, M.inv.l, hp⟩
theorem Rel.atP {hid : Nat → Prop} (H : Rel C hid σ s) (p : Path) : Rel C hid (atP p σ) (atP p s) :=
  ⟨H.h, fun t ht => ⟨by show lk (atL p σ.l) t = lk (atL p s.l) t; rw [lk_atL, lk_atL, (H.eq t ht).1], (H.eq t ht).2⟩, fun t ht => by show lk (atL p σ.l) t = none; rw [lk_atL, H.no t ht]; rfl⟩
theorem hitsCall_congr {st st' : St} (hh : st'.h = st.h) : ∀ (ms : List Mode) (vs : List SV), hitsCall st' ms vs = hitsCall st ms vs
  | [], [] => rfl
  | [], _ :: _ => rfl
  | m :: ms, [] => by cases m <;> rfl
  | m :: ms, v :: vs => by
    have ih := hitsCall_congr hh ms vs
    cases m with
    | own ks => simp only [hitsCall, ih]
    | ptr ks => cases v <;> simp only [hitsCall, ih, hh]
    | _ => simp only [hitsCall, ih]
theorem hits_congr {st st' : St} {op : Op} (hh : st'.h = st.h) (hA : ∀ t, Operand.tmp t ∈ op.operands.toList → Den.gt C st' [] t = Den.gt C st [] t) : hits C st' op = hits C st op := by
  have hev : ∀ x ∈ op.operands.toList, ev C st' [] x = ev C st [] x := fun x hx => ev_of fun t ht => hA t (ht ▸ hx)
  cases op
  case buildSlice t n parts =>
    simp only [hits]
    have : ∀ l : List (Nat × Operand), (∀ q ∈ l, ev C st' [] q.2 = ev C st [] q.2) → partsV C st' l = partsV C st l := by
      intro l
      induction l with
      | nil => intro _; rfl
      | cons q l ih => intro h; obtain ⟨i, x⟩ := q; simp only [partsV]; rw [h (i, x) (by simp), ih (fun q hq => h q (by simp [hq]))]
    exact this _ (fun q hq => hev q.2 (by simp only [Op.operands, Array.toList_map, List.mem_map]; exact ⟨q, hq, rfl⟩))
  case store t p x => simp only [hits, hev p (by simp [Op.operands]), hev x (by simp [Op.operands])]
  case slice t x lo hi mx => simp only [hits, hev x (by simp [Op.operands])]
  case call c =>
    obtain ⟨callee, args, ts⟩ := c
    have hargs : evs C st' [] args.toList = evs C st [] args.toList := evs_congr fun x hx => hev x (by simp [Op.operands, Call.operands]; cases callee <;> simp <;> first | exact .inr (by simpa using hx) | simpa using hx)
    simp only [hits, hargs]
    split
    · rfl
    · exact hitsCall_congr hh _ _
    · rfl
  all_goals rfl
theorem frm_nil {st st1 : St} (h : Frm [] st st1) : st1.m = st.m ∧ st1.l = st.l ∧ ∀ n b, hlk st.h n = some b → hlk st1.h n = some b := by
  obtain ⟨ns, h1, h2, h3, h4⟩ := h
  have : ns = [] := by
    cases ns with
    | nil => rfl
    | cons n ns => exact absurd (h1 n (by simp)) (by simp)
  subst this
  exact ⟨h2, h3, fun n b hb => h4 n b hb (by simp)⟩
/-- One who stood at p goes back. -/
theorem unatP_inv {p : Path} {st1 : St} {G' : Gh} (H0 : Inv C R G σ a w) (H1 : Inv C R G' st1 a w') (em : st1.m = σ.m) (el : st1.l = (atP p σ).l) : Inv C R G' { σ with h := st1.h } a w' := by
  refine ⟨H1.W, H1.B, H1.all, fun t => ?_, H0.l, H0.m⟩
  have h0 := H0.slots t
  have h1 := H1.slots t
  unfold SlotR at h0 h1 ⊢
  dsimp only
  rw [el, em] at h1
  rw [show lk (atP p σ).l t = _ from lk_atL p σ.l t] at h1
  cases hl : lk σ.l t with
  | none => rw [hl] at h1; exact h1
  | some e =>
    obtain ⟨q, c, v⟩ := e
    rw [hl] at h0 h1
    dsimp only [Option.map] at h0 h1 ⊢
    cases c with
    | false => exact h0
    | true =>
      simp only [if_true]
      cases hs : strip p q with
      | nil => rw [hs] at h1; exact h1
      | cons x r => rw [hs] at h1; exact h1
/-- One operation of the machine. -/
theorem Mid.step {Q : Exit → Act → World → Prop} {i : Nat} {p0 : List Nat} (hlo : loOps p0 ops.toList = true) (hC : CtxOk C) (M : Mid C R ops ms n X done suf s σ G a w) (hsuf : suf = [] ∨ ∃ i js r, suf = (i, 1, js) :: r) (hrun : runDraw C ops suf s = some st2) (hi : i < ops.size) (hX : ¬ X i) (hr : ∀ j, bef ms i j = true → X j) (K : Act → World → Prop)
    (hK : ∀ done' suf' s' σ' G' a' w', Mid C R ops ms n (fun j => X j ∨ j = i) done' suf' s' σ' G' a' w' → runDraw C ops suf' s' = some st2 → (suf' = [] ∨ ∃ i js r, suf' = (i, 1, js) :: r) → Still p0 a a' → K a' w') : wpOp C.P ops Q i K a w := by
  obtain ⟨o, ho⟩ : ∃ o, ops[i]? = some o := ⟨ops[i], by simp [hi]⟩
  have hst : ∀ val, Still p0 a (a.put o.dst val) := fun val => put_still (loOps_mem hlo o (by rw [← Array.getElem?_toList] at ho; exact List.mem_of_getElem? ho))
  unfold wpOp
  rw [ho]
  dsimp only
  have hfree : ∀ t, o.dst = some t → lk σ.l t = none ∧ t < a.tmps.size := fun t hd => by
    refine ⟨?_, M.lt ho hd⟩
    cases he : lk σ.l t with
    | none => rfl
    | some e =>
      obtain ⟨⟨j, oj, h1, h2, h3⟩, _⟩ := M.lx t (by rw [he]; rfl)
      have := M.one ho h2 hd h3
      subst this
      exact absurd h1 hX
  by_cases hdone : anyD done i = true
  · have hv := M.vis ho hdone hX hr
    rcases M.kk i hdone with h0 | h1 | h2
    · -- changes nothing
      have hag := M.ag i h0 hX
      unfold again at hag
      rw [ho] at hag
      dsimp only at hag
      cases hg : guardOf ops s o.guard with
      | none => rw [hg] at hag; exact hag.elim
      | some pc =>
        obtain ⟨p, c⟩ := pc
        rw [hg] at hag
        dsimp only at hag
        obtain ⟨hp, hpc, hw⟩ := guard_rel M.inv (M.guard hv hg)
        rw [hw]
        have lc : ∀ p, Den.light C σ p o.op = Den.light C s p o.op := fun p => light_congr M.rel.h fun t ht q => M.rel.gt (hv t (looks_tmp ht)) q
        -- the slot's value
        have hag' : ∃ x, (∀ t, o.dst = some t → holdsV C s t p c = some x) ∧ (c = false ∨ ∃ v, Den.light C s p o.op = some (true, v) ∧ (x = .undef ∨ v = x)) := by
          cases hd : o.dst with
          | none =>
            rw [hd] at hag
            refine ⟨.undef, fun t h => (by cases h), ?_⟩
            rcases hag with h | ⟨v, h⟩
            · exact .inl h
            · exact .inr ⟨v, h, .inl rfl⟩
          | some t =>
            rw [hd] at hag
            dsimp only at hag
            cases hh : holdsV C s t p c with
            | none => rw [hh] at hag; exact hag.elim
            | some x => rw [hh] at hag; exact ⟨x, fun t' h => by cases h; exact hh, hag⟩
        obtain ⟨x, hx, hcv⟩ := hag'
        cases c with
        | false =>
          simp only [Bool.false_eq_true, if_false]
          refine hK done suf s _ G _ w (M.caught (p := p) (c := false) (x := x) ho hdone hX hr (put_inv M.inv rfl hp hpc hfree) (put_size _ _ _).1 hx (fun _ _ _ h => h)) hrun hsuf (hst _)
        | true =>
          simp only [if_true]
          rcases hcv with hcv | ⟨v, hl, hxv⟩
          · cases hcv
          · refine .inl (light_sound hC (M.hereOf hp) (fun t _ => M.inv.slots t) ((lc p).trans hl) (fun val w' hext hval => ?_))
            have hval' : VRel R G σ.h x val := by
              rcases hxv with rfl | rfl
              · trivial
              · exact hval
            refine hK done suf s _ G _ w' (M.caught (p := p) (c := true) (x := x) ho hdone hX hr (put_inv (inv_ext M.inv hext) hval' hp hpc hfree) (put_size _ _ _).1 hx (fun _ _ _ h => h)) hrun hsuf (hst _)
    · exact absurd (M.tx i h1) hX
    · -- an alloc
      obtain ⟨o', t, d, zs, e1, e2, e3, e4, e5, e6, x, e7, e8⟩ := M.al i h2 hX
      rw [ho] at e1
      cases e1
      have hw : Region.wanted o (yielded ops a.tmps) = true := by simp [Region.wanted, e3]
      rw [hw]
      simp only [if_true]
      refine .inl ?_
      obtain ⟨ti, z, h1, h2, h3, h4, h5, h6⟩ := ty_zero e5
      have hcl := cellsR_svZs (R := R) (G := G) (h := σ.h) (zs := zs) (vs := z.cells.toList) (by simpa using h4.symm) h6
      have hrn : (execOp a.eval o).run C.P w = .ok (.value (.pointer (some ⟨w.heap.size, 0, none⟩))) (w.alloc (.cells z.cells t)) := by
        simp [execOp, e2, Instr.alloc, zeroValue, typeInfo, h1, h2, newVar, newRow]
      unfold Oper.wp
      rw [hrn]
      obtain ⟨i1, i2, i3⟩ := born_inv (cur := z.cells) (e := t) M.inv e6 (ext_alloc w _) (heap_alloc_new w _) (size_alloc w _) (by rw [svZs_len, h4]; exact Nat.le_refl _) (fun j y hj => by obtain ⟨u, k1, k2, k3⟩ := hcl.2 j y hj; exact ⟨u, by simpa using k1, k2, k3⟩)
      have hval : VRel R (G.add (nm d 0) (w.heap.size, 0) undef (· = w.heap.size)) σ.h x (.pointer (some ⟨w.heap.size, 0, none⟩)) := by
        rcases e8 with rfl | rfl
        · exact i2
        · trivial
      refine hK done suf s _ _ _ _ (M.caught (p := []) (c := true) (x := x) ho hdone hX hr (put_inv i1 hval (.inl ⟨rfl, rfl⟩) (fun _ => rfl) hfree) (put_size _ _ _).1 (fun t' ht' => by rw [e4] at ht'; cases ht'; exact e7) (fun d' cs hne h => i3 _ _ (fun e => hne d e4 (by have e' : d' * 64 + 0 = d * 64 + 0 := e; exact Nat.eq_of_mul_eq_mul_right (by decide : 0 < 64) e')) h)) hrun hsuf (hst _)
  · -- the next turn
    have hdone' : anyD done i = false := by simpa using hdone
    rcases hsuf with rfl | ⟨i0, js, r, rfl⟩
    · have hc := M.chk
      simp only [chkD, List.all_eq_true, List.mem_range] at hc
      exact absurd (hc i hi) hdone
    · obtain ⟨o', Kc⟩ := chkD_cons M.chk
      by_cases e : i = i0
      · subst e
        rw [Kc.ho] at ho
        cases ho
        obtain ⟨s1, hs1, hag, hnext⟩ := runDraw_cons hrun Kc.ho
        obtain ⟨p, c, hg, hs1⟩ := stepD_turn hs1
        have hv := M.vis_turn Kc hr
        obtain ⟨hp, hpc, hw⟩ := guard_rel M.inv (M.guard hv hg)
        rcases hs1 with ⟨rfl, hs1⟩ | ⟨hpn, hs1⟩
        · have hc := hpc rfl
          subst hc
          rw [hw]
          simp only [if_true]
          refine .inl ?_
          rcases hs1 with ⟨v, hl, rfl⟩ | ⟨hln, v, s2, hh, rfl⟩
          · have lc : Den.light C σ [] o.op = Den.light C s [] o.op := light_congr M.rel.h fun t ht q => M.rel.gt (hv t (looks_tmp ht)) q
            refine light_sound hC (M.hereOf hp) (fun t _ => M.inv.slots t) (lc.trans hl) (fun val w' hext hval => ?_)
            have M1 := M.turn (v := v) (s2 := s) (σ2 := σ) Kc hr (.refl M.rel.h) (.refl _ _) hag (put_inv (inv_ext M.inv hext) (c := true) hval hp hpc hfree) M.inv.m (put_size _ _ _).1 (Fr.refl _ _)
            obtain ⟨done', suf', s', σ', M2, h1, h2⟩ := M1.advance hnext
            exact hK done' suf' s' σ' _ _ _ M2 h1 h2 (hst _)
          · obtain ⟨σ2, k1, k2⟩ := heavy_sim (st' := σ) M.rel.h (fun t ht => M.rel.gt (hv t (looks_tmp ht)) []) hh
            refine heavy_sound hC M.inv k1 _ _ (fun val w' G' j1 j2 j3 => ?_)
            have hfree' : ∀ t, o.dst = some t → lk σ2.l t = none ∧ t < a.tmps.size := fun t ht => by
              refine ⟨?_, (hfree t ht).2⟩
              have := sameL_heavy k1 t
              rw [(hfree t ht).1] at this
              cases he : lk σ2.l t with
              | none => rfl
              | some q => rw [he] at this; cases this
            have M1 := M.turn (v := v) (s2 := s2) (σ2 := σ2) Kc hr k2 (by unfold hitsOf; rw [hln]; exact heavy_frm hh) hag (put_inv j1 (c := true) j2 (.inl ⟨rfl, rfl⟩) (fun _ => rfl) hfree') j1.m (put_size _ _ _).1 j3
            obtain ⟨done', suf', s', σ', M2, h1, h2⟩ := M1.advance hnext
            exact hK done' suf' s' σ' _ _ _ M2 h1 h2 (hst _)
        · rw [hw]
          rcases hs1 with ⟨rfl, rfl⟩ | ⟨rfl, hemp, v, s2, hh, rfl⟩
          · simp only [Bool.false_eq_true, if_false]
            have M1 := M.turn (p := p) (c := false) (v := .undef) (s2 := s) (σ2 := σ) Kc hr (.refl M.rel.h) (.refl _ _) hag (put_inv M.inv rfl hp hpc hfree) M.inv.m (put_size _ _ _).1 (Fr.refl _ _)
            obtain ⟨done', suf', s', σ', M2, h1, h2⟩ := M1.advance hnext
            exact hK done' suf' s' σ' _ _ _ M2 h1 h2 (hst _)
          · simp only [if_true]
            refine .inl ?_
            have hA : ∀ t, Operand.tmp t ∈ o.op.operands.toList → Den.gt C (atP p σ) [] t = Den.gt C (atP p s) [] t := fun t ht => (M.rel.atP p).gt (hv t (looks_tmp ht)) []
            obtain ⟨σ2, k1, k2⟩ := heavy_sim (st' := atP p σ) (show (atP p σ).h = (atP p s).h from M.rel.h) hA hh
            have hempσ : hits C (atP p σ) o.op = [] := by rw [hits_congr (show (atP p σ).h = (atP p s).h from M.rel.h) hA]; exact hemp
            obtain ⟨e1, e2, e3⟩ := frm_nil (hemp ▸ heavy_frm hh)
            obtain ⟨g1, g2, g3⟩ := frm_nil (hempσ ▸ heavy_frm k1)
            refine heavy_sound hC (atP_inv M.inv hp) k1 _ _ (fun val w' G' j1 j2 j3 => ?_)
            have hi := unatP_inv M.inv j1 g1 g2
            have M1 := M.turn (p := p) (c := true) (v := v) (s2 := { s with h := s2.h }) (σ2 := { σ with h := σ2.h }) Kc hr (sim_h _ _ k2.h) ⟨[], by simp, rfl, rfl, fun n b hb _ => e3 n b hb⟩ hag (put_inv hi j2 hp hpc hfree) hi.m (put_size _ _ _).1 j3
            obtain ⟨done', suf', s', σ', M2, h1, h2⟩ := M1.advance hnext
            exact hK done' suf' s' σ' _ _ _ M2 h1 h2 (hst _)
      · have hb := behind_turn Kc.next ((hasD_cons _ _ _ _ _).2 (.inl ⟨rfl, rfl⟩)) hi (by
          cases he : anyD ((i0, 1) :: done) i with
          | false => rfl
          | true =>
            rw [anyD_cons] at he
            rcases he with he | he
            · exact absurd he.symm e
            · exact absurd he hdone)
        have := M.dx i0 (hr i0 hb)
        rw [Kc.new] at this; cases this
/-- All are listed: the state is den's. -/
theorem Mid.fin (M : Mid C R ops ms n X done suf s σ G a w) (hsuf : suf = [] ∨ ∃ i js r, suf = (i, 1, js) :: r) (hrun : runDraw C ops suf s = some st2) (hall : ∀ i, i < ops.size → X i) : Inv C R G st2 a w ∧ st2.l = [] := by
  have hs : suf = [] := by
    rcases hsuf with h | ⟨i, js, r, rfl⟩
    · exact h
    · obtain ⟨o, K⟩ := chkD_cons M.chk
      have := M.dx i (hall i (lt_of_get K.ho))
      rw [K.new] at this; cases this
  subst hs
  simp only [runDraw, Option.some.injEq] at hrun
  subst hrun
  have hnh : ∀ t, ¬ Hid ops X done t := fun t ⟨j, oj, _, h2, h3, _⟩ => h2 (hall j (lt_of_get h3))
  have H := clear_inv M.inv (fun t ht => (M.lx t ht).2)
  refine ⟨⟨H.W, ?_, ?_, fun t => ?_, fun t q c v h => (by cases h), M.sm⟩, rfl⟩
  · have := H.B; rw [show ({ σ with l := [] } : St).h = s.h from M.rel.h] at this; exact this
  · have := H.all; rw [show ({ σ with l := [] } : St).h = s.h from M.rel.h] at this; exact this
  · have hx := H.slots t
    unfold SlotR at hx ⊢
    dsimp only [lk] at hx ⊢
    rw [M.rel.h, (M.rel.eq t (hnh t)).2] at hx
    exact hx
theorem countP_lt {p q : Nat → Bool} (h : ∀ i, q i = true → p i = true) : ∀ {l : List Nat} {i : Nat}, i ∈ l → p i = true → q i = false → l.countP q < l.countP p
  | [], i, hi, _, _ => by simp at hi
  | x :: l, i, hi, hp, hq => by
    have le : l.countP q ≤ l.countP p := List.countP_mono_left fun y _ => h y
    rcases List.mem_cons.1 hi with rfl | hi
    · rw [List.countP_cons_of_pos (l := l) hp, List.countP_cons_of_neg (by rw [hq]; simp)]; omega
    · have := countP_lt h hi hp hq
      by_cases hx : q x = true
      · rw [List.countP_cons_of_pos hx, List.countP_cons_of_pos (h x hx)]; omega
      · rw [List.countP_cons_of_neg hx]
        have := List.countP_le_length (p := p) (l := l)
        by_cases hpx : p x = true
        · rw [List.countP_cons_of_pos hpx]; omega
        · rw [List.countP_cons_of_neg hpx]; omega
theorem ready_mem {ops : Array Oper} {listed : Array Bool} {i : Nat} : i ∈ Region.ready .any ops listed ↔ i < ops.size ∧ listed.getD i true = false ∧ ∃ o, ops[i]? = some o ∧ ∀ e ∈ o.after.toList, Region.binds .any e = true → listed.getD e.on false = true := by
  unfold Region.ready
  rw [List.mem_filter, List.mem_range]
  constructor
  · rintro ⟨h1, h2⟩
    rw [Bool.and_eq_true, Bool.not_eq_true'] at h2
    refine ⟨h1, h2.1, ops[i], by simp [h1], fun e he hb => ?_⟩
    have h3 := h2.2
    simp only [h1, getElem?_pos, Option.map_some, Option.getD_some, Array.all_eq_true_iff_forall_mem] at h3
    have := h3 e (by simpa using he)
    rw [hb] at this
    simpa using this
  · rintro ⟨h1, h2, o, h3, h4⟩
    refine ⟨h1, ?_⟩
    rw [Bool.and_eq_true, Bool.not_eq_true']
    refine ⟨h2, ?_⟩
    rw [h3]
    simp only [Option.map_some, Option.getD_some, Array.all_eq_true_iff_forall_mem]
    intro e he
    cases hb : Region.binds .any e with
    | false => rfl
    | true => simpa using h4 e (by simpa using he) hb
/-- What is asked of the world behind a piece of code. -/
def After (C : Ctx) (R : Rt) (n : Nat) (p : List Nat) (a0 : Act) (st : St) (a : Act) (w : World) : Prop := ∃ G, Inv C R G st a w ∧ st.l = [] ∧ a.tmps.size = n ∧ Still p a0 a
theorem draw_any {Q : Exit → Act → World → Prop} (hC : CtxOk C) (hE : ∀ (i : Nat) o, ops[i]? = some o → ∀ e ∈ o.after.toList, Region.binds .any e = true → e.on < ops.size) {p0 : List Nat} {a0 : Act} (hlo : loOps p0 ops.toList = true) (hQ : ∀ a' w', After C R n p0 a0 st2 a' w' → Q .normal a' w') : ∀ (fuel : Nat) (listed : Array Bool) (X : Nat → Prop) (done : List (Nat × Nat)) (suf : List (Nat × Nat × List Nat)) (s σ : St) (G : Gh) (a : Act) (w : World), listed.size = ops.size → (∀ i, X i ↔ listed.getD i false = true) → (List.range ops.size).countP (fun i => !listed.getD i false) ≤ fuel →
    Mid C R ops (befores [] ops.toList) n X done suf s σ G a w → (suf = [] ∨ ∃ i js r, suf = (i, 1, js) :: r) → runDraw C ops suf s = some st2 → Still p0 a0 a → wpAny C.P .any ops Q fuel listed a w := by
  intro fuel
  induction fuel with
  | zero =>
    intro listed X done suf s σ G a w hsz hX hcnt M hsuf hrun hds
    have hall : ∀ i, i < ops.size → X i := fun i hi => by
      rw [hX]
      have h0 : (List.range ops.size).countP (fun i => !listed.getD i false) = 0 := by omega
      rw [List.countP_eq_zero] at h0
      have := h0 i (by simpa using hi)
      simpa using this
    obtain ⟨h1, h2⟩ := M.fin hsuf hrun hall
    refine ⟨?_, hQ a w ⟨G, h1, h2, M.sz, hds⟩⟩
    rw [List.eq_nil_iff_forall_not_mem]
    intro i hi
    obtain ⟨h3, h4, _⟩ := ready_mem.1 hi
    have := (hX i).1 (hall i h3)
    simp [Array.getD_eq_getD_getElem?, hsz, h3] at h4 this
    rw [h4] at this; cases this
  | succ fuel ih =>
    intro listed X done suf s σ G a w hsz hX hcnt M hsuf hrun hds
    have hun : ∀ i, i < ops.size → (listed.getD i true = false ↔ ¬ X i) := fun i hi => by
      rw [hX]
      simp [Array.getD_eq_getD_getElem?, hsz, hi]
    refine ⟨fun hnil => ?_, fun i hi => ?_⟩
    · -- nothing can be listed: all are
      have hall : ∀ i, i < ops.size → X i := by
        have no : ∀ i, i < ops.size → ¬ X i → (∀ j, j < ops.size → bef (befores [] ops.toList) i j = true → X j) → False := fun i hi hx hb => by
          obtain ⟨o, ho⟩ : ∃ o, ops[i]? = some o := ⟨ops[i], by simp [hi]⟩
          have : i ∈ Region.ready .any ops listed := ready_mem.2 ⟨hi, (hun i hi).2 hx, o, ho, fun e he hbind => (hX _).1 (hb _ (hE i o ho e he hbind) (bef_edge (ops := ops.toList) (i := i) (o := o) (by simpa using ho) he hbind))⟩
          rw [hnil] at this
          simp at this
        have hdone : ∀ i, anyD done i = true → i < ops.size → X i := fun i hi hlt => Classical.byContradiction fun hx => by
          obtain ⟨j, j1, j2, j3⟩ := M.wf.first (X := fun j => X j ∨ ¬ j < ops.size) ⟨i, hi, fun h => by rcases h with h | h; exact hx h; exact h hlt⟩
          refine no j (Classical.byContradiction fun h => j2 (.inr h)) (fun h => j2 (.inl h)) (fun k hk hb => ?_)
          rcases j3 k hk hb with h | h
          · exact h
          · exact absurd hk h
        intro i hi
        refine Classical.byContradiction fun hx => ?_
        have hn : ¬ anyD done i = true := fun h => hx (hdone i h hi)
        rcases hsuf with rfl | ⟨i0, js, r, rfl⟩
        · have hc := M.chk
          simp only [chkD, List.all_eq_true, List.mem_range] at hc
          exact hn (hc i hi)
        · obtain ⟨o, K⟩ := chkD_cons M.chk
          exact no i0 (lt_of_get K.ho) (M.notX K.new) (fun j hj hb => hdone j (K.sub j hj hb) hj)
      obtain ⟨h1, h2⟩ := M.fin hsuf hrun hall
      exact hQ a w ⟨G, h1, h2, M.sz, hds⟩
    · obtain ⟨h1, h2, o, h3, h4⟩ := ready_mem.1 hi
      have hx := (hun i h1).1 h2
      refine M.step hlo hC hsuf hrun h1 hx (fun j hb => ?_) _ (fun done' suf' s' σ' G' a' w' M' hrun' hsuf' hd' => ?_)
      · obtain ⟨e, he, hbind, hj⟩ := bef_split (ops := ops.toList) (by simpa using h3) hb
        have hon := (hX _).2 (h4 e he hbind)
        rcases hj with rfl | hj
        · exact hon
        · exact M.cl _ _ hon hj
      · refine ih _ _ done' suf' s' σ' G' a' w' (by simpa using hsz) (fun j => ?_) ?_ M' hsuf' hrun' (hds.trans hd')
        · rw [hX]
          simp only [Array.getD_eq_getD_getElem?, Array.getElem?_setIfInBounds]
          by_cases e : i = j
          · subst e; simp [hsz, h1]
          · simp [e, Ne.symm e]
        · have := countP_lt (p := fun i => !listed.getD i false) (q := fun j => !(listed.setIfInBounds i true).getD j false) (fun j hj => by
            simp only [Array.getD_eq_getD_getElem?, Array.getElem?_setIfInBounds] at hj ⊢
            by_cases e : i = j
            · subst e; simp [hsz, h1] at hj
            · simpa [e] using hj) (l := List.range ops.size) (i := i) (by simpa using h1) (by
              have := hX i
              cases hg : listed.getD i false with
              | false => rfl
              | true => exact absurd (this.2 hg) hx) (by simp [Array.getD_eq_getD_getElem?, hsz, h1])
          omega
theorem draw_sound {Q : Exit → Act → World → Prop} {p0 : List Nat} {a0 : Act} {order : List (Nat × Nat × List Nat)} (hC : CtxOk C) (H : After C R n p0 a0 st a w) (hlo : loOps p0 ops.toList = true) (hc : chkDraw n ops order = true) (hrun : runDraw C ops order st = some st2) (hQ : ∀ a' w', After C R n p0 a0 st2 a' w' → Q .normal a' w') :
    wpAny C.P .any ops Q ops.size (Array.replicate ops.size false) a w := by
  obtain ⟨G, H, hl, hs, hd⟩ := H
  simp only [chkDraw, Bool.and_eq_true] at hc
  obtain ⟨⟨h1, h2⟩, h3⟩ := hc
  have nol : ∀ t, (lk st.l t).isSome = true → False := fun t ht => by rw [hl] at ht; simp [lk] at ht
  have noD : ∀ i, anyD [] i = true → False := fun i h => by simp [anyD] at h
  have noH : ∀ i k, hasD [] i k = true → False := fun i k h => by simp [hasD] at h
  have M : Mid C R ops (befores [] ops.toList) n (fun _ => False) [] order st st G a w := { dst := h1, chk := h3, wf := trivial, dx := fun i h => h.elim, cl := fun i j h => h.elim, tx := fun i h => (noH i 1 h).elim, kk := fun i h => (noD i h).elim, rd := fun i o t j oj h => (noD i h).elim, rel := ⟨rfl, fun t _ => ⟨rfl, rfl⟩, fun t ⟨i, o, h, _⟩ => (noD i h).elim⟩, ag := fun i h => (noH i 0 h).elim, al := fun i h => (noH i 2 h).elim, inv := H, sm := H.m, lx := fun t h => (nol t h).elim, ls := fun t h => (nol t h).elim, sz := hs }
  obtain ⟨done', suf', s', σ', M', hrun', hsuf'⟩ := M.advance hrun
  refine draw_any hC (fun i o ho => edgesAll_spec h2 i o (by simpa using ho)) hlo hQ _ _ (fun _ => False) done' suf' s' σ' G a w (by simp) (fun i => ?_) ?_ M' hsuf' hrun' hd
  · simp only [Array.getD_eq_getD_getElem?, Array.getElem?_replicate, false_iff]
    split <;> simp
  · have := List.countP_le_length (p := fun i => !(Array.replicate ops.size false).getD i false) (l := List.range ops.size)
    simpa using this
end Go.Den

/- Code. -/
namespace Go.Den
open Go
variable {C : Ctx} {R : Rt} {G G0 G1 : Gh} {st st1 st2 : St} {a : Act} {w w' : World} {o : Oper} {v : SV}

/-- What the regions must be (the kernel looks). -/
def chkCode (ord : List (Nat × List (Nat × Nat × List Nat))) (n : Nat) (p : List Nat) : Code → Bool
  | .region i ops d => (if d then chkDraw n ops (lkO ord i) else chkOps n [] ops.toList) && loOps p ops.toList
  | .seq a b => chkCode ord n p a && chkCode ord n p b
  | .cond _ a b => chkCode ord n p a && chkCode ord n p b
  | .block _ a => chkCode ord n p a
  | .loop a => chkCode ord n p a
  | _ => true
def exOf : Ex → Exit | .normal => .normal | .exit i => .exit i | .ret => .ret

/-! what a round leaves behind -/
def Gh.keep (G : Gh) (ns : List Nat) : Gh := { G with live := fun k => G.live k ∧ k ∈ ns }
theorem hlk_keepH (ns : List Nat) (h : List (Nat × Blk)) : ∀ (l : List Nat) (n : Nat), hlk (keepH ns h l) n = if n ∈ l then (hlk h n).map (keepB ns) else none
  | [], n => by simp [keepH, hlk]
  | k :: r, n => by
    simp only [keepH]
    cases hb : hlk h k with
    | none =>
      simp only [hlk_keepH ns h r n]
      by_cases hkn : n = k
      · subst hkn; simp [hb]
      · simp [hkn]
    | some b =>
      simp only [hlk, hlk_keepH ns h r n]
      by_cases hkn : k = n
      · subst hkn; simp [hb]
      · rw [if_neg hkn]; simp [Ne.symm hkn]
theorem keepC_in {ns : List Nat} {h h' : List (Nat × Blk)} {G' : Gh} {x : SV} {u : Value} (hs : ∀ n ∈ ns, Same G h G' h' n) (hx : CRel R G h x u) : CRel R G' h' (keepC ns x) u := keepC_rel (fun n hn _ => hs n hn) hx
theorem keepV_in {ns : List Nat} {h h' : List (Nat × Blk)} {G' : Gh} {x : SV} {u : Value} (hs : ∀ n ∈ ns, Same G h G' h' n) (hx : VRel R G h x u) : VRel R G' h' (keepV ns x) u := by
  cases x with
  | agg cs =>
    obtain ⟨vs, h1, h2, h3⟩ := hx
    refine ⟨vs, h1, by rw [keepCs_len]; exact h2, fun j y hj => ?_⟩
    rw [keepCs_get, Option.map_eq_some_iff] at hj
    obtain ⟨y', hy, rfl⟩ := hj
    obtain ⟨z, h4, h5, h6⟩ := h3 j y' hy
    exact ⟨z, h4, h5, keepC_in hs h6⟩
  | tup vs => trivial
  | own n => simp only [keepV]; exact arel_one (keepC_in hs (x := .own n) hx)
  | rp n i q => simp only [keepV]; exact arel_one (keepC_in hs (x := .rp n i q) hx)
  | ptr n q => simp only [keepV]; exact arel_one (keepC_in hs (x := .ptr n q) hx)
  | d x => exact hx
  | nils => exact hx
  | nilp => exact hx
  | pv cs o => exact hx
  | fn f => exact hx
  | undef => trivial
theorem lkm_keepM (ns : List Nat) : ∀ (ks : List Nat) (m : List SV) (t : Nat), lkm ks (keepM ns m) t = keepV ns (lkm ks m t)
  | [], m, t => by cases m <;> rfl
  | k :: ks, [], t => rfl
  | k :: ks, v :: vs, t => by simp only [keepM, lkm, lkm_keepM ns ks vs t]; split <;> rfl
theorem keepM_len (ns : List Nat) : ∀ (m : List SV), (keepM ns m).length = m.length
  | [] => rfl
  | v :: vs => by simp [keepM, keepM_len ns vs]
theorem trim_inv {ns : List Nat} (H : Inv C R G st a w) (hl : st.l = []) (hfix : ∀ n b, R.fix n = some b → n ∈ ns) : Inv C R (G.keep ns) (trim ns st) a w := by
  have hs : ∀ n ∈ ns, Same G st.h (G.keep ns) (trim ns st).h n := fun n hn hlive => ⟨⟨hlive, hn⟩, rfl, rfl, fun e sz xs hx => ⟨xs, by
    show hlk (keepH ns st.h ns) n = _
    rw [hlk_keepH, if_pos hn, hx]; rfl⟩⟩
  refine ⟨H.W, ⟨fun n hn _ => ?_, fun n m hn _ hm _ => H.B.disj n m hn.1 id hm.1 id, fun n hn _ => H.B.mine n hn.1 id, fun n b hf => ?_⟩, fun _ _ _ => id, fun t => ?_, fun t q c v h => (by cases h), by simp only [trim, keepM_len]; exact H.m⟩
  · obtain ⟨b, h1, h2⟩ := H.B.rel n hn.1 id
    cases b with
    | row e sz xs =>
      refine ⟨.row e sz xs, ?_, h2⟩
      show hlk (keepH ns st.h ns) n = _
      rw [hlk_keepH, if_pos hn.2, h1]; rfl
    | box cs =>
      obtain ⟨cur, e, r1, r2, r3, r4, r5⟩ := h2
      refine ⟨.box (keepCs ns cs), ?_, cur, e, r1, r2, by rw [keepCs_len]; exact r3, by rw [keepCs_len]; exact r4, fun j x hj => ?_⟩
      · show hlk (keepH ns st.h ns) n = _
        rw [hlk_keepH, if_pos hn.2, h1]; rfl
      · rw [keepCs_get, Option.map_eq_some_iff] at hj
        obtain ⟨y, hy, rfl⟩ := hj
        obtain ⟨u, k1, k2, k3⟩ := r5 j y hy
        exact ⟨u, k1, k2, keepC_in hs k3⟩
  · obtain ⟨h1, h2, h3⟩ := H.B.fix n b hf
    obtain ⟨cs, hc⟩ := h3 id
    refine ⟨⟨h1, hfix n b hf⟩, h2, fun _ => ⟨keepCs ns cs, ?_⟩⟩
    show hlk (keepH ns st.h ns) n = _
    rw [hlk_keepH, if_pos (hfix n b hf), hc]; rfl
  · have hx := H.slots t
    unfold SlotR at hx ⊢
    rw [hl] at hx
    simp only [trim, lk] at hx ⊢
    rw [lkm_keepM]
    exact keepV_in hs hx
/-! names of own rows -/
def Gh.ren (G : Gh) (k k' : Nat) : Gh := { live := fun n => if n = k' then G.live k else if n = k then False else G.live n, base := fun n => if n = k' then G.base k else G.base n, hv := fun n => if n = k' then G.hv k else G.hv n, φ := fun n => if n = k' then G.φ k else G.φ n }
theorem hlk_renH (k k' : Nat) (hne : k ≠ k') : ∀ (h : List (Nat × Blk)) (n : Nat), hlk h k' = none → hlk (renH k k' h) n = if n = k' then (hlk h k).map (renB k k') else if n = k then none else (hlk h n).map (renB k k')
  | [], n, _ => by simp [renH, hlk]
  | (b, v) :: r, n, hk' => by
    simp only [hlk] at hk'
    by_cases hb : b = k'
    · rw [if_pos hb] at hk'; cases hk'
    · rw [if_neg hb] at hk'
      simp only [renH, hlk, hlk_renH k k' hne r n hk']
      by_cases hbk : b = k
      · subst hbk
        simp only [if_true]
        by_cases hn : n = k'
        · simp [hn]
        · rw [if_neg (Ne.symm hn), if_neg hn, if_neg hn]
          by_cases hnb : n = b
          · simp [hnb]
          · simp [hnb, Ne.symm hnb]
      · simp only [if_neg hbk]
        by_cases hn : n = k'
        · subst hn; simp [hb]
        · simp only [if_neg hn]
          by_cases hnk : n = k
          · subst hnk; simp [hbk]
          · by_cases hbn : b = n
            · simp [hbn, hnk]
            · simp [hbn, hnk]
theorem renCs_len (k k' : Nat) : ∀ (cs : List SV), (renCs k k' cs).length = cs.length
  | [] => rfl
  | c :: cs => by simp [renCs, renCs_len k k' cs]
theorem renCs_get (k k' : Nat) : ∀ (cs : List SV) (j : Nat), (renCs k k' cs)[j]? = (cs[j]?).map (renC k k')
  | [], j => by simp [renCs]
  | c :: cs, 0 => by simp [renCs]
  | c :: cs, j + 1 => by simp [renCs, renCs_get k k' cs]
theorem renAs_len (k k' : Nat) : ∀ (cs : List SV), (renAs k k' cs).length = cs.length
  | [] => rfl
  | c :: cs => by simp [renAs, renAs_len k k' cs]
theorem renAs_get (k k' : Nat) : ∀ (cs : List SV) (j : Nat), (renAs k k' cs)[j]? = (cs[j]?).map (renA k k')
  | [], j => by simp [renAs]
  | c :: cs, 0 => by simp [renAs]
  | c :: cs, j + 1 => by simp [renAs, renAs_get k k' cs]
theorem renM_len (k k' : Nat) : ∀ (m : List SV), (renM k k' m).length = m.length
  | [] => rfl
  | v :: vs => by simp [renM, renM_len k k' vs]
theorem lkm_renM (k k' : Nat) : ∀ (ks : List Nat) (m : List SV) (t : Nat), lkm ks (renM k k' m) t = renV k k' (lkm ks m t)
  | [], m, t => by cases m <;> rfl
  | a :: ks, [], t => rfl
  | a :: ks, v :: vs, t => by simp only [renM, lkm, lkm_renM k k' ks vs t]; split <;> rfl
section
variable {k k' : Nat}
theorem crel_ren (hne : k ≠ k') (hlv : ∀ n, G.live n → n ≠ k') (hk' : hlk st.h k' = none) {x : SV} {u : Value} (hx : CRel R G st.h x u) : CRel R (G.ren k k') (renH k k' st.h) (renC k k' x) u := by
  have nm : ∀ n, G.live n → (G.ren k k').live (if n = k then k' else n) ∧ (G.ren k k').base (if n = k then k' else n) = G.base n ∧ (G.ren k k').hv (if n = k then k' else n) = G.hv n := fun n hn => by
    have h1 := hlv n hn
    by_cases e : n = k
    · subst e; simp [Gh.ren, hn]
    · simp [Gh.ren, e, h1, hn]
  cases x with
  | own n => obtain ⟨h1, h2, h3⟩ := hx; obtain ⟨a1, _, a3⟩ := nm n h1; exact ⟨a1, by rw [a3]; exact h2, h3⟩
  | ptr n o => obtain ⟨h1, h2⟩ := hx; obtain ⟨a1, a2, _⟩ := nm n h1; exact ⟨a1, by rw [a2]; exact h2⟩
  | rp n i o =>
    obtain ⟨h1, e, sz, xs, h2, g, b, len, cap, h3, h4⟩ := hx
    obtain ⟨a1, _, a3⟩ := nm n h1
    refine ⟨a1, e, sz, xs, ?_, g, b, len, cap, by rw [a3]; exact h3, h4⟩
    rw [hlk_renH k k' hne _ _ hk']
    have h5 := hlv n h1
    by_cases en : n = k
    · subst en; simp [h2, renB]
    · simp [en, h5, h2, renB]
  | _ => exact hx
theorem arel_ren (hne : k ≠ k') (hlv : ∀ n, G.live n → n ≠ k') (hk' : hlk st.h k' = none) {x : SV} {u : Value} (hx : ARel R G st.h x u) : ARel R (G.ren k k') (renH k k' st.h) (renA k k' x) u := by
  by_cases hc : ∃ cs, x = .agg cs
  · obtain ⟨cs, rfl⟩ := hc
    obtain ⟨vs, h1, h2, h3⟩ := hx
    refine ⟨vs, h1, by rw [renCs_len]; exact h2, fun j y hj => ?_⟩
    rw [renCs_get, Option.map_eq_some_iff] at hj
    obtain ⟨y', hy, rfl⟩ := hj
    obtain ⟨z, h4, h5, h6⟩ := h3 j y' hy
    exact ⟨z, h4, h5, crel_ren hne hlv hk' h6⟩
  · have hc' : ∀ cs, x ≠ .agg cs := fun cs e => hc ⟨cs, e⟩
    rw [arel_c hc'] at hx
    have e1 : renA k k' x = renC k k' x := by cases x <;> first | rfl | exact absurd rfl (hc' _)
    rw [e1]
    have hc2 : ∀ cs, renC k k' x ≠ .agg cs := fun cs e => by cases x <;> simp [renC] at e; exact hc' _ rfl
    rw [arel_c hc2]
    exact crel_ren hne hlv hk' hx
theorem vrel_ren (hne : k ≠ k') (hlv : ∀ n, G.live n → n ≠ k') (hk' : hlk st.h k' = none) {x : SV} {u : Value} (hx : VRel R G st.h x u) : VRel R (G.ren k k') (renH k k' st.h) (renV k k' x) u := by
  by_cases hc : ∃ cs, x = .tup cs
  · obtain ⟨cs, rfl⟩ := hc
    obtain ⟨vs, h1, h2, h3⟩ := hx
    refine ⟨vs, h1, by rw [renAs_len]; exact h2, fun j y hj => ?_⟩
    rw [renAs_get, Option.map_eq_some_iff] at hj
    obtain ⟨y', hy, rfl⟩ := hj
    obtain ⟨z, h4, h5⟩ := h3 j y' hy
    exact ⟨z, h4, arel_ren hne hlv hk' h5⟩
  · have hc' : ∀ cs, x ≠ .tup cs := fun cs e => hc ⟨cs, e⟩
    rw [vrel_a hc'] at hx
    have e1 : renV k k' x = renA k k' x := by cases x <;> first | rfl | exact absurd rfl (hc' _)
    rw [e1]
    have hc2 : ∀ cs, renA k k' x ≠ .tup cs := fun cs e => by cases x <;> simp [renA, renC] at e; exact hc' _ rfl
    rw [vrel_a hc2]
    exact arel_ren hne hlv hk' hx
theorem ren_inv (H : Inv C R G st a w) (hl : st.l = []) (hk : ∃ e sz xs, hlk st.h k = some (.row e sz xs)) (hk' : hlk st.h k' = none) (hne : k ≠ k') : Inv C R (G.ren k k') (ren k k' st) a w := by
  have hlv : ∀ n, G.live n → n ≠ k' := fun n hn e => by
    subst e
    obtain ⟨b, hb, _⟩ := H.B.rel n hn id
    rw [hk'] at hb; cases hb
  have hh : ∀ n, hlk (ren k k' st).h n = if n = k' then (hlk st.h k).map (renB k k') else if n = k then none else (hlk st.h n).map (renB k k') := fun n => hlk_renH k k' hne st.h n hk'
  have old : ∀ n, (G.ren k k').live n → ∃ n0, G.live n0 ∧ n = (if n0 = k then k' else n0) ∧ (G.ren k k').base n = G.base n0 ∧ (G.ren k k').hv n = G.hv n0 ∧ (G.ren k k').φ n = G.φ n0 ∧ hlk (ren k k' st).h n = (hlk st.h n0).map (renB k k') := fun n hn => by
    rw [hh]
    simp only [Gh.ren] at hn
    by_cases e : n = k'
    · subst e
      rw [if_pos rfl] at hn
      exact ⟨k, hn, by simp, by simp [Gh.ren], by simp [Gh.ren], by simp [Gh.ren], by simp⟩
    · rw [if_neg e] at hn
      by_cases e2 : n = k
      · rw [if_pos e2] at hn; exact hn.elim
      · rw [if_neg e2] at hn
        exact ⟨n, hn, by simp [e2], by simp [Gh.ren, e], by simp [Gh.ren, e], by simp [Gh.ren, e], by simp [e, e2]⟩
  refine ⟨H.W, ⟨fun n hn _ => ?_, fun n m hn _ hm _ hnm j hj1 hj2 => ?_, fun n hn _ j hj => ?_, fun n b hf => ?_⟩, fun _ _ _ => id, fun t => ?_, by show PI st.l; exact H.l, by show (renM k k' st.m).length = _; rw [renM_len]; exact H.m⟩
  · obtain ⟨n0, h1, h2, h3, h4, h5, h6⟩ := old n hn
    obtain ⟨b, hb, hbr⟩ := H.B.rel n0 h1 id
    refine ⟨renB k k' b, by rw [h6, hb]; rfl, ?_⟩
    cases b with
    | row e sz xs =>
      show RowR w e sz ((G.ren k k').φ n) xs ((G.ren k k').hv n) ∧ _
      rw [h4, h5]; exact hbr
    | box cs =>
      obtain ⟨cur, e, r1, r2, r3, r4, r5⟩ := hbr
      refine ⟨cur, e, by rw [h3]; exact r1, by rw [h3, h5]; exact r2, by rw [h3, renCs_len]; exact r3, by rw [h3, renCs_len]; exact r4, fun j x hj => ?_⟩
      rw [renCs_get, Option.map_eq_some_iff] at hj
      obtain ⟨y, hy, rfl⟩ := hj
      obtain ⟨u, k1, k2, k3⟩ := r5 j y hy
      exact ⟨u, by rw [h3]; exact k1, k2, crel_ren hne hlv hk' k3⟩
  · obtain ⟨n0, h1, h2, _, _, h5, _⟩ := old n hn
    obtain ⟨m0, g1, g2, _, _, g5, _⟩ := old m hm
    rw [h5] at hj1; rw [g5] at hj2
    exact H.B.disj n0 m0 h1 id g1 id (fun e => hnm (by rw [h2, g2, e])) j hj1 hj2
  · obtain ⟨n0, h1, _, _, _, h5, _⟩ := old n hn
    rw [h5] at hj
    exact H.B.mine n0 h1 id j hj
  · obtain ⟨h1, h2, h3⟩ := H.B.fix n b hf
    obtain ⟨cs, hc⟩ := h3 id
    obtain ⟨e, sz, xs, hrow⟩ := hk
    have e1 : n ≠ k := fun e => by subst e; rw [hrow] at hc; cases hc
    have e2 := hlv n h1
    exact ⟨by simp [Gh.ren, e1, e2, h1], by simp [Gh.ren, e2, h2], fun _ => ⟨renCs k k' cs, by rw [hh]; simp [e1, e2, hc, renB]⟩⟩
  · have hx := H.slots t
    unfold SlotR at hx ⊢
    rw [hl] at hx
    rw [show (ren k k' st).l = [] from hl]
    simp only [lk] at hx ⊢
    rw [show (ren k k' st).m = renM k k' st.m from rfl, lkm_renM]
    exact vrel_ren hne hlv hk' hx
end
theorem canonC_inv (n : Nat) : ∀ (cs : List SV) (j : Nat) (sn : List Nat) (st : St) (G : Gh), Inv C R G st a w → st.l = [] → ∃ G', Inv C R G' (canonC n j cs sn st).1 a w ∧ (canonC n j cs sn st).1.l = []
  | [], j, sn, st, G, H, hl => ⟨G, H, hl⟩
  | c :: cs, j, sn, st, G, H, hl => by
    cases c with
    | own k =>
      simp only [canonC]
      split
      · exact canonC_inv n cs (j + 1) sn st G H hl
      · split
        · exact canonC_inv n cs (j + 1) _ st G H hl
        · rename_i hne
          split
          · rename_i e sz xs h1 h2
            exact canonC_inv n cs (j + 1) _ _ _ (ren_inv H hl ⟨e, sz, xs, h1⟩ h2 hne) hl
          · exact canonC_inv n cs (j + 1) _ st G H hl
    | _ => exact canonC_inv n cs (j + 1) sn st G H hl
theorem canonH_inv : ∀ (h : List (Nat × Blk)) (sn : List Nat) (st : St) (G : Gh), Inv C R G st a w → st.l = [] → ∃ G', Inv C R G' (canonH h sn st) a w ∧ (canonH h sn st).l = []
  | [], sn, st, G, H, hl => ⟨G, H, hl⟩
  | (n, b) :: r, sn, st, G, H, hl => by
    cases b with
    | row e sz xs => exact canonH_inv r sn st G H hl
    | box cs =>
      obtain ⟨G1, H1, hl1⟩ := canonC_inv n cs 0 sn st G H hl
      exact canonH_inv r _ _ G1 H1 hl1
theorem canon_after {n : Nat} {p : List Nat} {a0 : Act} (H : After C R n p a0 st a w) : After C R n p a0 (canonS st) a w := by
  obtain ⟨G, H1, hl, hs, hd⟩ := H
  obtain ⟨G', H2, hl2⟩ := canonH_inv st.h [] st G H1 hl
  exact ⟨G', H2, hl2, hs, hd⟩
theorem mem_names : ∀ {h : List (Nat × Blk)} {n : Nat} {b : Blk}, hlk h n = some b → n ∈ names h
  | [], n, b, h => by cases h
  | (k, x) :: r, n, b, h => by
    simp only [hlk] at h
    simp only [names, List.mem_cons]
    split at h
    · rename_i e; exact .inl e.symm
    · exact .inr (mem_names h)

theorem den_sound (hC : CtxOk C) (n : Nat) (p : List Nat) (a0 : Act) (k : Nat) : ∀ (c : Code) (st st' : St) (ex : Ex) (a : Act) (w : World) (Q : Exit → Act → World → Prop), den C k c st = some (ex, st') → After C R n p a0 st a w → chkCode C.ord n p c = true → (∀ a' w', After C R n p a0 st' a' w' → Q (exOf ex) a' w') → c.wp C.P Q a w := by
  intro c
  induction c with
  | skip => intro st st' ex a w Q h H _ hQ; simp only [den] at h; cases h; exact wp_skip (hQ a w H)
  | exit i => intro st st' ex a w Q h H _ hQ; simp only [den] at h; cases h; exact wp_exit (hQ a w H)
  | ret => intro st st' ex a w Q h H _ hQ; simp only [den] at h; cases h; exact wp_ret (hQ a w H)
  | region i ops d =>
    intro st st' ex a w Q h H hc hQ
    cases d with
    | false =>
      simp only [chkCode, Bool.false_eq_true, if_false, Bool.and_eq_true] at hc
      obtain ⟨hc, hlo⟩ := hc
      simp only [den, Bool.false_eq_true, if_false] at h
      rw [Option.map_eq_some_iff] at h
      obtain ⟨st2, h1, h2⟩ := h
      cases h2
      obtain ⟨G, H1, hl, hs, hd⟩ := H
      refine wp_region ?_
      have hlen : ops.size = ops.toList.length := by simp
      rw [List.range_eq_range', hlen]
      exact runOps_sound hC ops.toList 0 [] st G a w (by simp) H1 (fun t ht => by rw [hl] at ht; simp [lk] at ht) (by rw [hs]; exact hc) hlo h1 (fun a' w' G' k1 k2 k3 k4 => hQ a' w' (canon_after ⟨G', k1, k2, k3.trans hs, hd.trans k4⟩))
    | true =>
      simp only [chkCode, if_true, Bool.and_eq_true] at hc
      obtain ⟨hc, hlo⟩ := hc
      simp only [den, if_true] at h
      rw [Option.map_eq_some_iff] at h
      obtain ⟨st2, h1, h2⟩ := h
      cases h2
      refine wp_region_any hC.mixed ?_
      obtain ⟨G, H1, hl, hs, hd⟩ := H
      exact draw_sound hC ⟨G, inv_ext H1 ⟨rfl, rfl, rfl, Nat.le_refl _, fun _ _ => rfl⟩, hl, hs, hd⟩ hlo hc h1 (fun a' w' hA => hQ a' w' (canon_after hA))
  | seq x y ihx ihy =>
    intro st st' ex a w Q h H hc hQ
    simp only [chkCode, Bool.and_eq_true] at hc
    simp only [den] at h
    refine wp_seq ?_
    cases hx : den C k x st with
    | none => rw [hx] at h; simp [andThen] at h
    | some r =>
      obtain ⟨e1, st1⟩ := r
      rw [hx] at h
      refine ihx st st1 e1 a w _ hx H hc.1 (fun a' w' H' => ?_)
      cases e1 with
      | normal => exact ihy st1 st' ex a' w' Q h H' hc.2 hQ
      | exit i => simp only [andThen] at h; cases h; exact hQ a' w' H'
      | ret => simp only [andThen] at h; cases h; exact hQ a' w' H'
  | cond c x y ihx ihy =>
    intro st st' ex a w Q h H hc hQ
    simp only [chkCode, Bool.and_eq_true] at hc
    simp only [den] at h
    split at h
    · rename_i b hb
      obtain ⟨G, H1, hl, hs, hd⟩ := H
      have hv : a.eval c = .bool b := vrel_b (H1.evE hb)
      refine wp_cond hv ?_
      cases b with
      | true => exact ihx st st' ex a w Q (by simpa using h) ⟨G, H1, hl, hs, hd⟩ hc.1 hQ
      | false => exact ihy st st' ex a w Q (by simpa using h) ⟨G, H1, hl, hs, hd⟩ hc.2 hQ
    · cases h
  | block i x ih =>
    intro st st' ex a w Q h H hc hQ
    simp only [chkCode] at hc
    simp only [den] at h
    refine wp_block ?_
    cases hx : den C k x st with
    | none => rw [hx] at h; simp [inBlock] at h
    | some r =>
      obtain ⟨e1, st1⟩ := r
      rw [hx] at h
      refine ih st st1 e1 a w _ hx H hc (fun a' w' H' => ?_)
      cases e1 with
      | normal => simp only [inBlock] at h; cases h; exact hQ a' w' H'
      | exit j =>
        simp only [inBlock] at h
        show (if j = i then Q .normal a' w' else Q (.exit j) a' w')
        split at h
        · rename_i e; rw [if_pos e]; cases h; exact hQ a' w' H'
        · rename_i e; rw [if_neg e]; cases h; exact hQ a' w' H'
      | ret => simp only [inBlock] at h; cases h; exact hQ a' w' H'
  | loop x ih =>
    intro st st' ex a w Q h H hc hQ
    simp only [chkCode] at hc
    simp only [den] at h
    refine wp_loop_rounds k ?_
    have hfix : ∀ m b, R.fix m = some b → m ∈ names st.h := fun m b hf => by
      obtain ⟨G, H1, _⟩ := H
      obtain ⟨_, _, h3⟩ := H1.B.fix m b hf
      obtain ⟨cs, hcs⟩ := h3 id
      exact mem_names hcs
    generalize names st.h = ns at h hfix
    have key : ∀ (m : Nat) (st : St) (a : Act) (w : World), iter ns (den C k x) m st = some (ex, st') → After C R n p a0 st a w → Code.rounds C.P x Q m a w := by
      intro m
      induction m with
      | zero => intro st a w h _; simp [iter] at h
      | succ m ihm =>
        intro st a w h H
        simp only [iter] at h
        rw [rounds_succ]
        cases hx : den C k x st with
        | none => rw [hx] at h; cases h
        | some r =>
          obtain ⟨e1, st1⟩ := r
          rw [hx] at h
          refine ih st st1 e1 a w _ hx H hc (fun a' w' H' => ?_)
          obtain ⟨G', H1, hl, hs, hd⟩ := H'
          cases e1 with
          | normal => exact ihm (trim ns st1) a' w' h ⟨_, trim_inv H1 hl hfix, rfl, hs, hd⟩
          | exit j => dsimp only at h; cases h; exact hQ a' w' ⟨_, trim_inv H1 hl hfix, rfl, hs, hd⟩
          | ret => dsimp only at h; cases h; exact hQ a' w' ⟨G', H1, hl, hs, hd⟩
    exact key k st a w h H
  | _ => intro st st' ex a w Q h; simp [den] at h
end Go.Den

/- Results. -/
namespace Go.Den
open Go
variable {C : Ctx} {R : Rt} {G G0 G1 : Gh} {st st1 st2 : St} {a : Act} {w w' : World} {o : Oper} {v : SV}

/-- One result's value. -/
def resSem (tmps : Array Value) : ResultVar → Sem Value
  | .tmp t => pure (tmps.getD t undef)
  | .cell a t => do loadVar t (← asAddr (tmps.getD a undef))
def resRun (P : Program) (tmps : Array Value) (w : World) (r : ResultVar) (v : Value) : Prop := (resSem tmps r).run P w = .ok v w
theorem run_mapM_res {P : Program} {tmps : Array Value} : ∀ (rs : List ResultVar) (vs : List Value), rs.length = vs.length → (∀ (j : Nat) r v, rs[j]? = some r → vs[j]? = some v → resRun P tmps w r v) →
    (rs.mapM (resSem tmps)).run P w = .ok vs w
  | [], [], _, _ => by simp
  | r :: rs, v :: vs, hl, h => by
    have h1 := h 0 r v rfl rfl
    have h2 := run_mapM_res rs vs (by simpa using hl) (fun j r v hr hv => h (j + 1) r v (by simpa using hr) (by simpa using hv))
    unfold resRun at h1
    rw [List.mapM_cons]
    simp only [Sem.run_bind]
    rw [h1]
    simp only [Result.andThen_ok]
    rw [h2]
    simp
  | [], _ :: _, hl, _ => by simp at hl
  | _ :: _, [], hl, _ => by simp at hl
theorem results_eq (fn : Func) (tmps : Array Value) : results fn tmps = (do
    let vs ← fn.results.mapM (resSem tmps)
    pure (if h : vs.size = 1 then vs[0] else .tuple vs)) := by
  unfold results
  congr 1
theorem run_results {P : Program} {fn : Func} {tmps : Array Value} {vs : List Value} (hl : fn.results.toList.length = vs.length) (h : ∀ (j : Nat) r v, fn.results.toList[j]? = some r → vs[j]? = some v → resRun P tmps w r v) : (results fn tmps).run P w = .ok (valOf vs) w := by
  have h1 := run_mapM_res (P := P) (w := w) (tmps := tmps) fn.results.toList vs hl h
  rw [results_eq]
  have e : fn.results.mapM (resSem tmps) = List.toArray <$> fn.results.toList.mapM (resSem tmps) := by
    conv => lhs; rw [← Array.toArray_toList (xs := fn.results)]
    rw [List.mapM_toArray]
  rw [e]
  simp only [Sem.run_bind, Sem.run_map, h1, Result.andThen_ok]
  match vs with
  | [] => rfl
  | [v] => rfl
  | u :: v :: vs => simp [valOf]
theorem resV_sound {r : ResultVar} {x : SV} (H : Inv C R G st a w) (h : resV C st r = some x) : ∃ v, resRun C.P a.tmps w r v ∧ VRel R G st.h x v := by
  cases r with
  | tmp t =>
    simp only [resV, Option.some.injEq] at h
    subst h
    exact ⟨a.tmps.getD t undef, by simp [resRun, resSem], gt_rel H.here.good (H.slots t)⟩
  | cell b t =>
    simp only [resV] at h
    have hd := does_load (o := ⟨none, .load t (.tmp b), 0, "", #[], none⟩) (p := []) (x := .tmp b) (t := t) H.here (fun t _ => H.slots t) rfl h
    obtain ⟨val, h1, h2⟩ := hd
    refine ⟨val, ?_, h2⟩
    have hv := H.ev (.tmp b)
    simp only [resRun]
    simp only [execOp] at h1
    have hp : ∃ ad, a.tmps.getD b undef = .pointer (some ad) := by
      have hv : VRel R G st.h (gt C st [] b) (a.tmps.getD b undef) := gt_rel H.here.good (H.slots b)
      generalize gt C st [] b = sx at h hv
      cases sx <;> simp only [load] at h <;> first | cases h | skip
      · exact ⟨_, hv.2⟩
      · obtain ⟨g, o, e, _⟩ := hv; exact ⟨_, e⟩
    obtain ⟨ad, hp⟩ := hp
    have he : a.eval (.tmp b) = .pointer (some ad) := hp
    rw [he] at h1
    simp only [Sem.run_bind] at h1
    simp only [resSem, hp, asAddr, Sem.run_bind, Sem.run_pure, Result.andThen_ok]
    simp only [Instr.loadAt, Instr.sureAddr, Sem.run_bind, Sem.run_pure, Result.andThen_ok] at h1
    revert h1
    generalize (loadVar t ad).run C.P w = q
    intro h1
    cases q with
    | ok u w1 => simp at h1; rw [h1.1, h1.2]
    | halt x w1 => simp at h1
end Go.Den

/- What a function gives back. -/
namespace Go.Den
open Go
variable {C : Ctx} {R : Rt} {G G0 G1 : Gh} {st st1 st2 : St} {a : Act} {w w' : World} {o : Oper} {v : SV}

theorem scDs_get : ∀ {vs : List SV} {xs : List D}, scDs vs = some xs → xs.length = vs.length ∧ ∀ (j : Nat) x, xs[j]? = some x → vs[j]? = some (.d x) ∧ isSc x = true
  | [], xs, h => by simp [scDs] at h; subst h; simp
  | v :: vs, xs, h => by
    simp only [scDs] at h
    split at h
    · rename_i x ys h1 h2
      cases h
      obtain ⟨h3, h4⟩ := scDs_get h2
      refine ⟨by simp [h3], fun j y hj => ?_⟩
      cases j with
      | zero =>
        simp at hj; subst hj
        cases v <;> simp only [scD] at h1 <;> first | cases h1 | skip
        split at h1
        · rename_i hs; cases h1; exact ⟨rfl, hs⟩
        · cases h1
      | succ j => simpa using h4 j y (by simpa using hj)
    · cases h
theorem resSc_sound : ∀ {vs : List SV} {rs : List DV} {rv : List Value}, resSc vs = some rs → ValsAt R G st.h vs rv → ScsK R rs rv
  | [], rs, rv, h, hv => by
    simp only [resSc, Option.some.injEq] at h
    subst h
    have : rv = [] := List.eq_nil_of_length_eq_zero (by simpa using hv.1)
    subst this
    trivial
  | v :: vs, rs, rv, h, hv => by
    obtain ⟨u, rv', rfl, h1, hv'⟩ := hv.tail
    simp only [resSc] at h
    split at h
    · rename_i xs hxs
      split at h
      · rename_i x r hx hr
        cases h
        obtain ⟨h2, h3⟩ := scDs_get hxs
        refine ⟨?_, resSc_sound hr hv'⟩
        by_cases hag : ∃ cs, v = .agg cs
        · obtain ⟨cs, rfl⟩ := hag
          obtain ⟨us, e1, e2, e3⟩ := h1
          simp only [dvOf, Option.some.injEq] at hx
          subst hx
          refine ⟨us, e1, by rw [e2, h2]; rfl, fun j d hj => ?_⟩
          obtain ⟨k1, k2⟩ := h3 j d hj
          obtain ⟨q, q1, q2, q3⟩ := e3 j _ k1
          exact ⟨k2, q, q1, q3⟩
        · have hc : ∃ d, x = .one d ∧ xs = [d] := by
            cases v <;> first | exact absurd ⟨_, rfl⟩ hag | (simp [dvOf] at hx; done) | skip
            all_goals
              match xs, hx with
              | [d], hx => simp only [dvOf, Option.some.injEq] at hx; exact ⟨d, hx.symm, rfl⟩
          obtain ⟨d, rfl, rfl⟩ := hc
          obtain ⟨k1, k2⟩ := h3 0 d rfl
          have hv : v = .d d := by
            cases v <;> first | exact absurd ⟨_, rfl⟩ hag | (simp [cellsOf] at k1; done) | (simp [cellsOf] at k1; rw [k1])
          subst hv
          exact ⟨k2, h1⟩
      · cases h
    · cases h

/-- What was given back, one value after the other. -/
theorem resFr_sound {h0 : List (Nat × Blk)} : ∀ (kss : List (List (Option (Nat × Nat)))) (vs : List SV) (rv : List Value) (st : St) (G : Gh) (rs : List DV) (st' : St), Inv C R G st a w → Gle G G0 → Has G0 h0 G st.h → (∀ ks ∈ kss, KOk C.P ks) → ValsAt R G0 h0 vs rv → resFr st kss vs = some (rs, st') →
    ∃ G' Ξ, Inv C R G' st' a w ∧ Gle G' G ∧ Has G0 h0 G' st'.h ∧ RetsK C.P R w kss rs rv Ξ ∧ (∀ i j k, Ξ i j k → k < w.heap.size ∧ (R.L k ∨ R.w0.heap.size ≤ k) ∧ ∀ lo hi, ¬ R.LB k lo hi) ∧ Apart3 Ξ ∧ (∀ i j k, Ξ i j k → ∃ n, G.live n ∧ G.φ n k) ∧ (∀ i j k n, Ξ i j k → G'.live n → G'.φ n k → False)
  | [], vs, rv, st, G, rs, st', H, hG, hH, hk, hv, h => by
    cases vs with
    | cons v vs => simp [resFr] at h
    | nil =>
      simp only [resFr, Option.some.injEq, Prod.mk.injEq] at h
      obtain ⟨rfl, rfl⟩ := h
      have : rv = [] := List.eq_nil_of_length_eq_zero (by simpa using hv.1)
      subst this
      exact ⟨G, fun _ _ _ => False, H, Gle.refl G, hH, trivial, fun _ _ _ h => h.elim, fun _ _ _ _ _ h => h.elim, fun _ _ _ h => h.elim, fun _ _ _ _ h => h.elim⟩
  | ks :: kss, vs, rv, st, G, rs, st', H, hG, hH, hk, hv, h => by
    cases vs with
    | nil => simp [resFr] at h
    | cons v vs =>
      obtain ⟨u, rv', rfl, h1, hv'⟩ := hv.tail
      simp only [resFr] at h
      split at h
      · rename_i xs st1 hgive
        split at h
        · rename_i x r st2 hx hr
          cases h
          unfold giveK at hgive
          split at hgive
          · rename_i ys st3 htk
            split at hgive
            · rename_i hsc
              cases hgive
              have hok := takeK_ok htk
              obtain ⟨c1, c2⟩ := cells_ok h1 hok
              obtain ⟨G1, θ, i1, i2, i8, i3, i4, i5, i6, i7, i9, i10, i11⟩ := takeK_sound ks (cellsOf v) u.cells.toList st G xs st1 H hG hH (fun e sz hm => hk ks (by simp) e sz hm) ⟨by simpa using c1, fun j y hj => by obtain ⟨q, k1, k2, k3⟩ := c2 j y hj; exact ⟨q, by simpa using k1, k2, k3⟩⟩ htk
              obtain ⟨G', Ξ, j1, j2, j3, j4, j5, j6, j7, j8⟩ := resFr_sound kss vs rv' st1 G1 r st' i1 (i2.trans hG) i8 (fun ks' hm => hk ks' (by simp [hm])) hv' hr
              refine ⟨G', consT θ Ξ, j1, j2.trans i2, j3, ⟨?_, j4⟩, fun i j k hh => ?_, fun i j i' j' k hh hh' => ?_, fun i j k hh => ?_, fun i j k n hh hn hφ => ?_⟩
              · by_cases hag : ∃ cs, v = .agg cs
                · obtain ⟨cs, rfl⟩ := hag
                  obtain ⟨us, rfl, _⟩ := agg_cells h1
                  simp only [dvOf, Option.some.injEq] at hx
                  subst hx
                  have i3' : KC C.P R w ks xs us θ := by simpa [Value.cells] using i3
                  exact ⟨⟨us, rfl, i3'⟩, hsc⟩
                · have hna : ∀ cs, v ≠ .agg cs := fun cs e => hag ⟨cs, e⟩
                  obtain ⟨o1, o2⟩ := vrel_one h1 hok hna
                  rw [one_cells o1] at i3
                  have hc : ∃ d, x = .one d ∧ xs = [d] := by
                    cases v <;> first | exact absurd rfl (hna _) | (simp [dvOf] at hx; done) | skip
                    all_goals
                      match xs, hx with
                      | [d], hx => simp only [dvOf, Option.some.injEq] at hx; exact ⟨d, hx.symm, rfl⟩
                  obtain ⟨d, rfl, rfl⟩ := hc
                  exact ⟨i3, hsc⟩
              · cases i with
                | zero => exact i4 j k hh
                | succ i => exact j5 i j k hh
              · have cross : ∀ {i j j' : Nat}, θ j k → Ξ i j' k → False := fun e1 e2 => by
                  obtain ⟨n, n1, n2⟩ := j7 _ _ _ e2
                  exact i7 _ k n e1 n1 id n2
                cases i with
                | zero =>
                  cases i' with
                  | zero => exact ⟨rfl, i5 j j' k hh hh'⟩
                  | succ i' => exact (cross hh hh').elim
                | succ i =>
                  cases i' with
                  | zero => exact (cross hh' hh).elim
                  | succ i' => obtain ⟨e1, e2⟩ := j6 i j i' j' k hh hh'; exact ⟨by omega, e2⟩
              · cases i with
                | zero => obtain ⟨n, n1, n2⟩ := i6 j k hh; exact ⟨n, n1.1, n2⟩
                | succ i => obtain ⟨n, n1, n2⟩ := j7 i j k hh; exact ⟨n, i2.1 n n1, by rw [← i2.2.2.2]; exact n2⟩
              · cases i with
                | zero => exact i7 j k n hh (j2.1 n hn) id (by rw [← j2.2.2.2]; exact hφ)
                | succ i => exact j8 i j k n hh hn hφ
            · cases hgive
          · cases hgive
        · cases h
      · cases h

/-- The places of the variables that were handed over. -/
def Places (G : Gh) : Nat → List Mode → List Value → Prop
  | s, .ptr _ :: ms, v :: vs => v = .pointer (some ⟨(G.base (nm s 0)).1, (G.base (nm s 0)).2, none⟩) ∧ Places G (s + 1) ms vs
  | s, _ :: ms, _ :: vs => Places G (s + 1) ms vs
  | _, [], [] => True
  | _, _, _ => False
/-- They are fixed. -/
def Fixes (R : Rt) : Nat → List Mode → Prop
  | s, .ptr _ :: ms => (∃ b, R.fix (nm s 0) = some b) ∧ Fixes R (s + 1) ms
  | s, _ :: ms => Fixes R (s + 1) ms
  | _, [] => True
theorem box_phi {n : Nat} {b : Nat × Nat} (H : Inv C R G st a w) (hf : R.fix n = some b) : G.live n ∧ G.φ n (G.base n).1 ∧ ∃ cs, hlk st.h n = some (.box cs) := by
  obtain ⟨h1, _, h3⟩ := H.B.fix n b hf
  obtain ⟨cs, hc⟩ := h3 id
  obtain ⟨b, hb, hbr⟩ := H.B.rel n h1 id
  rw [hc] at hb; cases hb
  obtain ⟨cur, e, r1, r2, _⟩ := hbr
  exact ⟨h1, r2, cs, hc⟩
theorem nm_inj {a b : Nat} (h : nm a 0 = nm b 0) : a = b := by unfold nm at h; omega
theorem places_gle {G' : Gh} (hb : G'.base = G.base) : ∀ (ms : List Mode) (s : Nat) (vs : List Value), Places G s ms vs → Places G' s ms vs
  | [], s, vs, h => by cases vs <;> exact h
  | m :: ms, s, vs, h => by
    cases vs with
    | nil => cases m <;> exact h
    | cons v vs =>
      cases m with
      | ptr ks => exact ⟨by rw [hb]; exact h.1, places_gle hb ms _ vs h.2⟩
      | _ => exact places_gle hb ms _ vs h
theorem outsOf_sound : ∀ (ms : List Mode) (s : Nat) (vs : List Value) (st : St) (G : Gh) (os : List (List D)) (st' : St), Inv C R G st a w → (∀ ks, Mode.ptr ks ∈ ms → KOk C.P ks) → Fixes R s ms → Places G s ms vs → outsOf s st ms = some (os, st') →
    ∃ G' Ω, Inv C R G' st' a w ∧ Gle G' G ∧ OutsK C.P R w ms vs os Ω ∧ (∀ i j k, Ω i j k → k < w.heap.size ∧ (R.L k ∨ R.w0.heap.size ≤ k)) ∧ (∀ i j k, Ω i (j + 1) k → ∀ lo hi, ¬ R.LB k lo hi) ∧ Apart3 Ω ∧ (∀ i j k, Ω i j k → ∃ n, G.live n ∧ G.φ n k) ∧ (∀ i j k n, Ω i (j + 1) k → G'.live n → G'.φ n k → False) ∧ (∀ i k, Ω i 0 k → k = (G.base (nm (s + i) 0)).1 ∧ ∃ b, R.fix (nm (s + i) 0) = some b)
  | [], s, vs, st, G, os, st', H, hk, hf, hp, h => by
    simp only [outsOf, Option.some.injEq, Prod.mk.injEq] at h
    obtain ⟨rfl, rfl⟩ := h
    cases vs with
    | cons v vs => exact hp.elim
    | nil => exact ⟨G, fun _ _ _ => False, H, Gle.refl G, trivial, fun _ _ _ h => h.elim, fun _ _ _ h => h.elim, fun _ _ _ _ _ h => h.elim, fun _ _ _ h => h.elim, fun _ _ _ _ h => h.elim, fun _ _ h => h.elim⟩
  | m :: ms, s, [], st, G, os, st', H, hk, hf, hp, h => by cases m <;> exact hp.elim
  | m :: ms, s, v :: vs, st, G, os, st', H, hk, hf, hp, h => by
    by_cases hpt : ∃ ks, m = .ptr ks
    · obtain ⟨ks, rfl⟩ := hpt
      obtain ⟨⟨b, hfb⟩, hf'⟩ := hf
      obtain ⟨hv, hp'⟩ := hp
      simp only [outsOf] at h
      split at h
      · rename_i cs hcs
        split at h
        · rename_i x st1 htk
          split at h
          · rename_i r st2 hr
            cases h
            obtain ⟨hl, _, _⟩ := box_phi H hfb
            obtain ⟨bb, hb', hbr⟩ := H.B.rel _ hl id
            rw [hcs] at hb'; cases hb'
            obtain ⟨cur, e, r1, r2, r3, r4, r5⟩ := hbr
            have hus : CellsAt R G st.h cs ((cur.toList.drop (G.base (nm s 0)).2).take cs.length) := by
              refine ⟨by simp; omega, fun j y hj => ?_⟩
              have hjl : j < cs.length := (List.getElem?_eq_some_iff.1 hj).1
              obtain ⟨q, k2, k3, k4⟩ := r5 j y hj
              refine ⟨q, ?_, k3, k4⟩
              rw [List.getElem?_take, if_pos hjl, List.getElem?_drop]
              simpa using k2
            obtain ⟨G1, θ, i1, i2, i8, i3, i4, i5, i6, i7, i9, i10, i11⟩ := takeK_sound (G0 := G) (h0 := st.h) ks cs _ st G x st1 H (Gle.refl G) (Has.refl _ _) (fun e sz hm => hk ks (by simp) e sz hm) hus htk
            obtain ⟨G', Ω, j1, j2, j3, j4, j5, j6, j7, j8, j9⟩ := outsOf_sound ms (s + 1) vs st1 G1 r st' i1 (fun ks' hm => hk ks' (by simp [hm])) hf' (places_gle i2.2.1 ms _ vs hp') hr
            have hxl : x.length = cs.length := by rw [← i3.2.1, hus.1]
            obtain ⟨hl1, hφ1, _⟩ := box_phi i1 hfb
            have hb1 : (G1.base (nm s 0)).1 = (G.base (nm s 0)).1 := by rw [i2.2.1]
            refine ⟨G', consT (behind θ (· = (G.base (nm s 0)).1)) Ω, j1, j2.trans i2, ⟨⟨_, _, cur, e, _, hv, r1, rfl, by rw [hxl]; exact r4, fun j u hj => ?_, i3⟩, j3⟩, fun i j k hh => ?_, fun i j k hh => ?_, fun i j i' j' k hh hh' => ?_, fun i j k hh => ?_, fun i j k n hh hn hφ => ?_, fun i k hh => ?_⟩
            · rw [List.getElem?_take] at hj
              split at hj
              · rw [List.getElem?_drop] at hj; simpa using hj
              · cases hj
            · cases i with
              | zero =>
                cases j with
                | zero => rw [show k = (G.base (nm s 0)).1 from hh]; exact H.B.mine _ hl id _ r2
                | succ j => exact ⟨(i4 j k hh).1, (i4 j k hh).2.1⟩
              | succ i => exact j4 i j k hh
            · cases i with
              | zero => exact (i4 j k hh).2.2
              | succ i => exact j5 i j k hh
            · have boxrow : ∀ {j : Nat}, k = (G.base (nm s 0)).1 → θ j k → False := fun e1 e2 => i7 _ k (nm s 0) e2 hl1 id (by rw [e1, ← hb1]; exact hφ1)
              have cross : ∀ {j i j' : Nat}, behind θ (· = (G.base (nm s 0)).1) j k → Ω i j' k → False := fun {j i j'} e1 e2 => by
                cases j with
                | succ j =>
                  obtain ⟨n, n1, n2⟩ := j7 _ _ _ e2
                  exact i7 j k n e1 n1 id n2
                | zero =>
                  have e1' : k = (G.base (nm s 0)).1 := e1
                  cases j' with
                  | succ j' =>
                    obtain ⟨hl2, hφ2, _⟩ := box_phi j1 hfb
                    refine j8 i j' k (nm s 0) e2 hl2 ?_
                    rw [e1', ← hb1, ← j2.2.1]; exact hφ2
                  | zero =>
                    obtain ⟨q1, b', q2⟩ := j9 i k e2
                    obtain ⟨hl3, hφ3, _⟩ := box_phi i1 q2
                    refine i1.B.disj (nm s 0) (nm (s + 1 + i) 0) hl1 id hl3 id (fun e => by have := nm_inj e; omega) k ?_ ?_
                    · rw [e1', ← hb1]; exact hφ1
                    · rw [q1]; exact hφ3
              cases i with
              | zero =>
                cases i' with
                | zero =>
                  cases j with
                  | zero =>
                    cases j' with
                    | zero => exact ⟨rfl, rfl⟩
                    | succ j' => exact (boxrow hh hh').elim
                  | succ j =>
                    cases j' with
                    | zero => exact (boxrow hh' hh).elim
                    | succ j' => exact ⟨rfl, by rw [i5 j j' k hh hh']⟩
                | succ i' => exact (cross hh hh').elim
              | succ i =>
                cases i' with
                | zero => exact (cross hh' hh).elim
                | succ i' => obtain ⟨e1, e2⟩ := j6 i j i' j' k hh hh'; exact ⟨by omega, e2⟩
            · cases i with
              | zero =>
                cases j with
                | zero => exact ⟨nm s 0, hl, by rw [show k = (G.base (nm s 0)).1 from hh]; exact r2⟩
                | succ j => obtain ⟨n, n1, n2⟩ := i6 j k hh; exact ⟨n, n1.1, n2⟩
              | succ i => obtain ⟨n, n1, n2⟩ := j7 i j k hh; exact ⟨n, i2.1 n n1, by rw [← i2.2.2.2]; exact n2⟩
            · cases i with
              | zero => exact i7 j k n hh (j2.1 n hn) id (by rw [← j2.2.2.2]; exact hφ)
              | succ i => exact j8 i j k n hh hn hφ
            · cases i with
              | zero => exact ⟨hh, b, hfb⟩
              | succ i =>
                obtain ⟨q1, q2⟩ := j9 i k hh
                rw [show s + (i + 1) = s + 1 + i by omega]
                exact ⟨by rw [q1, i2.2.1], q2⟩
          · cases h
        · cases h
      · cases h
    · have hio : ¬ ∃ ks, m = .io ks := fun ⟨ks, e⟩ => by subst e; simp [outsOf] at h
      have hf' : Fixes R (s + 1) ms := by cases m <;> first | exact absurd ⟨_, rfl⟩ hpt | exact hf
      have hp' : Places G (s + 1) ms vs := by cases m <;> first | exact absurd ⟨_, rfl⟩ hpt | exact hp
      have h' : outsOf (s + 1) st ms = some (os, st') := by cases m <;> first | exact absurd ⟨_, rfl⟩ hpt | exact absurd ⟨_, rfl⟩ hio | (simpa [outsOf] using h)
      obtain ⟨G', Ω, j1, j2, j3, j4, j5, j6, j7, j8, j9⟩ := outsOf_sound ms (s + 1) vs st G os st' H (fun ks' hm => hk ks' (by simp [hm])) hf' hp' h'
      have hO : OutsK C.P R w (m :: ms) (v :: vs) os (consT (fun _ _ => False) Ω) := by cases m <;> first | exact absurd ⟨_, rfl⟩ hpt | exact absurd ⟨_, rfl⟩ hio | (cases os <;> exact j3)
      refine ⟨G', consT (fun _ _ => False) Ω, j1, j2, hO, fun i j k hh => ?_, fun i j k hh => ?_, fun i j i' j' k hh hh' => ?_, fun i j k hh => ?_, fun i j k n hh => ?_, fun i k hh => ?_⟩
      · cases i with | zero => exact hh.elim | succ i => exact j4 i j k hh
      · cases i with | zero => exact hh.elim | succ i => exact j5 i j k hh
      · cases i with
        | zero => exact hh.elim
        | succ i => cases i' with | zero => exact hh'.elim | succ i' => obtain ⟨e1, e2⟩ := j6 i j i' j' k hh hh'; exact ⟨by omega, e2⟩
      · cases i with | zero => exact hh.elim | succ i => exact j7 i j k hh
      · cases i with | zero => exact hh.elim | succ i => exact j8 i j k n hh
      · cases i with
        | zero => exact hh.elim
        | succ i =>
          rw [show s + (i + 1) = s + 1 + i by omega]
          exact j9 i k hh
end Go.Den

/- A function: what it is handed, what it gives back. -/
namespace Go.Den
open Go
variable {C : Ctx} {R : Rt} {G G0 G1 : Gh} {st st1 st2 : St} {a : Act} {w w' : World} {o : Oper} {v : SV}

theorem adds_keep : ∀ {xs : List (Nat × Blk)} {st st1 : St}, adds st xs = some st1 → (∀ n b, hlk st.h n = some b → hlk st1.h n = some b) ∧ st1.m = st.m ∧ st1.l = st.l
  | [], st, st1, h => by simp [adds] at h; subst h; exact ⟨fun _ _ h => h, rfl, rfl⟩
  | (k, x) :: r, st, st1, h => by
    simp only [adds] at h
    split at h
    · cases h
    · obtain ⟨h1, h2, h3⟩ := adds_keep h
      exact ⟨fun n b hb => h1 n b (by show hlk (st.h ++ [(k, x)]) n = _; rw [hlk_snoc, hb]), h2, h3⟩
/-- The variables that were handed over are there. -/
def Born (G : Gh) (h : List (Nat × Blk)) : Nat → List Mode → Prop
  | s, .ptr _ :: ms => (G.live (nm s 0) ∧ ∃ cs, hlk h (nm s 0) = some (.box cs)) ∧ Born G h (s + 1) ms
  | s, _ :: ms => Born G h (s + 1) ms
  | _, [] => True
theorem init_sound (hw : w = R.w0) : ∀ (ms : List Mode) (s : Nat) (xs : List DV) (vs : List Value) (Θ : Nat → Nat → Nat → Prop) (svs : List SV) (h : List (Nat × Blk)) (st : St) (G : Gh) (st2 : St), initP s ms xs = some (svs, h) → ArgsK C.P R ms xs vs Θ → Inv C R G st a w →
    (∀ i j k, Θ i j k → k < w.heap.size ∧ R.L k) → (∀ i j k, Θ i (j + 1) k → ∀ lo hi, ¬ R.LB k lo hi) → Apart3 Θ → (∀ i j k n, Θ i j k → G.live n → G.φ n k → False) → adds st h = some st2 →
    ∃ G2, Inv C R G2 st2 a w ∧ (∀ n, Same G st.h G2 st2.h n) ∧ ValsAt R G2 st2.h svs vs ∧ Places G2 s ms vs ∧ Born G2 st2.h s ms := by
  subst hw
  intro ms
  induction ms with
  | nil =>
    intro s xs vs Θ svs h st G st2 hi hA H hm hlb hap hsep ha
    cases xs with
    | cons x xs => simp [initP] at hi
    | nil =>
      cases vs with
      | cons v vs => exact hA.elim
      | nil =>
        simp only [initP, Option.some.injEq, Prod.mk.injEq] at hi
        obtain ⟨rfl, rfl⟩ := hi
        simp only [adds, Option.some.injEq] at ha
        subst ha
        exact ⟨G, H, Same.refl G st.h, ⟨rfl, fun j x hj => by simp at hj⟩, trivial, trivial⟩
  | cons m ms ih =>
    intro s xs vs Θ svs h st G st2 hi hA H hm hlb hap hsep ha
    cases xs with
    | nil => cases m <;> simp [initP] at hi
    | cons x xs =>
      cases vs with
      | nil => exact hA.elim
      | cons v vs =>
        obtain ⟨hA1, hA2⟩ := hA
        have apt : Apart3 fun i => Θ (i + 1) := fun i j i' j' k h1 h2 => by obtain ⟨e1, e2⟩ := hap _ _ _ _ _ h1 h2; exact ⟨by omega, e2⟩
        -- the others, behind the first
        have tail : ∀ {st1 : St} {G1 : Gh} {sx : SV} {svs' : List SV} {h' : List (Nat × Blk)}, initP (s + 1) ms xs = some (svs', h') → Inv C R G1 st1 a R.w0 → (∀ n, Same G st.h G1 st1.h n) → VRel R G1 st1.h sx v → (∀ i j k n, Θ (i + 1) j k → G1.live n → G1.φ n k → False) → adds st1 h' = some st2 →
            ∃ G2, Inv C R G2 st2 a R.w0 ∧ (∀ n, Same G st.h G2 st2.h n) ∧ (∀ n, Same G1 st1.h G2 st2.h n) ∧ ValsAt R G2 st2.h (sx :: svs') (v :: vs) ∧ Places G2 (s + 1) ms vs ∧ Born G2 st2.h (s + 1) ms := by
          intro st1 G1 sx svs' h' hi' H1 hS hv hsep1 ha'
          obtain ⟨G2, j1, j2, j3, j4, j5⟩ := ih (s + 1) xs vs (fun i => Θ (i + 1)) svs' h' st1 G1 st2 hi' hA2 H1 (fun i j k => hm (i + 1) j k) (fun i j k => hlb (i + 1) j k) apt hsep1 ha'
          refine ⟨G2, j1, fun n => (hS n).trans (j2 n), j2, ⟨by simp [j3.1], fun j y hj => ?_⟩, j4, j5⟩
          cases j with
          | zero => simp at hj; subst hj; exact ⟨v, rfl, vrel_same j2 hv⟩
          | succ j => simpa using j3.2 j y (by simpa using hj)
        have sepR : ∀ i j k n, Θ (i + 1) j k → G.live n → G.φ n k → False := fun i j k n => hsep (i + 1) j k n
        -- cells laid down first
        have laid : ∀ {ks : List (Option (Nat × Nat))} {ds : List D} {us : List Value} {c : List SV} {d : List (Nat × Blk)} {stA : St}, layK (nmsF s 1 ks.length) ks ds = some (c, d) → KC C.P R R.w0 ks ds us (fun j => Θ 0 (j + 1)) → adds st d = some stA →
            ∃ GA, Inv C R GA stA a R.w0 ∧ (∀ n, Same G st.h GA stA.h n) ∧ CellsAt R GA stA.h c us ∧ (∀ i j k n, Θ (i + 1) j k → GA.live n → GA.φ n k → False) ∧ ∀ k n, Θ 0 0 k → GA.live n → GA.φ n k → False := by
          intro ks ds us c d stA hl hk hd
          obtain ⟨GA, i1, i2, i3, i4, i5, i6⟩ := lay_sound _ ks ds us (fun j => Θ 0 (j + 1)) c d G st stA hl H hk (fun j k h => ⟨(hm 0 (j + 1) k h).1, .inl (hm 0 (j + 1) k h).2, hlb 0 j k h⟩) (fun i j k h1 h2 => by have := (hap _ _ _ _ _ h1 h2).2; omega) (fun j k n h h2 _ h3 => hsep 0 (j + 1) k n h h2 h3) (fun _ _ => id) hd
          refine ⟨GA, i1, i2, i3, fun i j k n hh hn hφ => ?_, fun k n hh hn hφ => ?_⟩
          · rcases i5 n k hn hφ with ⟨h1, h2⟩ | ⟨j', hj'⟩
            · exact hsep (i + 1) j k n hh h1 h2
            · have := (hap _ _ _ _ _ hh hj').1; omega
          · rcases i5 n k hn hφ with ⟨h1, h2⟩ | ⟨j', hj'⟩
            · exact hsep 0 0 k n hh h1 h2
            · have := (hap _ _ _ _ _ hh hj').2; omega
        cases m with
        | bor =>
          cases x with
          | ptr ds => exact hA1.elim
          | one d =>
            simp only [initP] at hi
            split at hi
            · rename_i svs' h' hi'
              cases hi
              obtain ⟨G2, j1, j2, _, j3, j4, j5⟩ := tail (sx := .d d) hi' H (Same.refl G st.h) hA1 sepR ha
              exact ⟨G2, j1, j2, j3, j4, j5⟩
            · cases hi
          | agg ds =>
            simp only [initP] at hi
            split at hi
            · rename_i svs' h' hi'
              cases hi
              obtain ⟨us, e1, e2, e3⟩ := hA1
              obtain ⟨G2, j1, j2, _, j3, j4, j5⟩ := tail (sx := .agg (ds.map .d)) hi' H (Same.refl G st.h) ⟨us, e1, by simp [e2], fun j y hj => by
                rw [List.getElem?_map, Option.map_eq_some_iff] at hj
                obtain ⟨d, hd, rfl⟩ := hj
                obtain ⟨u, k1, k2⟩ := e3 j d hd
                exact ⟨u, k1, k2.one, k2⟩⟩ sepR ha
              exact ⟨G2, j1, j2, j3, j4, j5⟩
            · cases hi
        | rptr sz =>
          cases x with
          | one d => exact hA1.elim
          | agg d => exact hA1.elim
          | ptr ds =>
            simp only [initP] at hi
            split at hi
            · split at hi
              · rename_i svs' h' hi'
                cases hi
                obtain ⟨G2, j1, j2, _, j3, j4, j5⟩ := tail (sx := .pv ds 0) hi' H (Same.refl G st.h) hA1.2 sepR ha
                exact ⟨G2, j1, j2, j3, j4, j5⟩
              · cases hi
            · cases hi
        | own ks =>
          cases x with
          | ptr ds => simp [initP] at hi
          | one d =>
            simp only [initP] at hi
            split at hi
            · rename_i c dd svs' h' hl hi'
              cases hi
              rw [adds_append] at ha
              split at ha
              · rename_i stA hA'
                obtain ⟨GA, i1, i2, i3, i4, _⟩ := laid hl hA1 hA'
                obtain ⟨q, q1, q2, q3⟩ := i3.2 0 c rfl
                simp at q1; subst q1
                obtain ⟨G2, j1, j2, _, j3, j4, j5⟩ := tail (sx := c) hi' i1 i2 (arel_one q3) i4 ha
                exact ⟨G2, j1, j2, j3, j4, j5⟩
              · cases ha
            · cases hi
          | agg ds =>
            simp only [initP] at hi
            split at hi
            · rename_i c dd svs' h' hl hi'
              cases hi
              obtain ⟨us, rfl, hk⟩ := hA1
              rw [adds_append] at ha
              split at ha
              · rename_i stA hA'
                obtain ⟨GA, i1, i2, i3, i4, _⟩ := laid hl hk hA'
                obtain ⟨G2, j1, j2, _, j3, j4, j5⟩ := tail (sx := .agg c) hi' i1 i2 ⟨us, rfl, i3.1, i3.2⟩ i4 ha
                exact ⟨G2, j1, j2, j3, j4, j5⟩
              · cases ha
            · cases hi
        | io ks =>
          cases x with
          | ptr ds => simp [initP] at hi
          | one d =>
            simp only [initP] at hi
            split at hi
            · rename_i c dd svs' h' hl hi'
              cases hi
              rw [adds_append] at ha
              split at ha
              · rename_i stA hA'
                obtain ⟨GA, i1, i2, i3, i4, _⟩ := laid hl hA1.1 hA'
                obtain ⟨q, q1, q2, q3⟩ := i3.2 0 c rfl
                simp at q1; subst q1
                obtain ⟨G2, j1, j2, _, j3, j4, j5⟩ := tail (sx := c) hi' i1 i2 (arel_one q3) i4 ha
                exact ⟨G2, j1, j2, j3, j4, j5⟩
              · cases ha
            · cases hi
          | agg ds =>
            simp only [initP] at hi
            split at hi
            · rename_i c dd svs' h' hl hi'
              cases hi
              obtain ⟨us, rfl, hk⟩ := hA1
              rw [adds_append] at ha
              split at ha
              · rename_i stA hA'
                obtain ⟨GA, i1, i2, i3, i4, _⟩ := laid hl hk hA'
                obtain ⟨G2, j1, j2, _, j3, j4, j5⟩ := tail (sx := .agg c) hi' i1 i2 ⟨us, rfl, i3.1, i3.2⟩ i4 ha
                exact ⟨G2, j1, j2, j3, j4, j5⟩
              · cases ha
            · cases hi
        | ptr ks =>
          cases x with
          | one d => exact hA1.elim
          | agg d => exact hA1.elim
          | ptr ds =>
            simp only [initP] at hi
            split at hi
            · rename_i c dd svs' h' hl hi'
              cases hi
              obtain ⟨g, b, cur, e, us, rfl, k2, k3, k4, k5, k6, k7⟩ := hA1
              rw [adds_append] at ha
              split at ha
              · rename_i stA hA'
                obtain ⟨GA, i1, i2, i3, i4, i5⟩ := laid hl k6 hA'
                simp only [adds] at ha
                split at ha
                · cases ha
                · rename_i hnone
                  have hnl : ¬ GA.live (nm s 0) := fun h => by obtain ⟨b, hb, _⟩ := i1.B.rel _ h id; rw [hnone] at hb; cases hb
                  have hcl := i3.1.symm.trans k6.2.1
                  have hadd := add_inv (n := nm s 0) (b := (g, b)) (v := undef) (ψ := Θ 0 0) (x := .box c) i1 hnone id (fun k hk => ⟨(hm 0 0 k hk).1, .inl (hm 0 0 k hk).2⟩) (fun k n hk hn _ hφ => i5 k n hk hn hφ) ⟨cur, e, by simp [Gh.add, k2], by simp [Gh.add, k3], fun lo hi hlb' => by
                      simp only [Gh.add, if_true] at hlb' ⊢
                      rw [hcl]; exact k7 lo hi hlb', by simp [Gh.add, hcl]; exact k4, fun j x hj => by
                      obtain ⟨q, q1, q2, q3⟩ := i3.2 j x hj
                      exact ⟨q, by simp only [Gh.add, if_true]; exact k5 j q q1, q2, crel_same (fun m _ => same_add hnl _ _ _ _ m) q3⟩⟩
                  have hsep' : ∀ i j k n, Θ (i + 1) j k → (GA.add (nm s 0) (g, b) undef (Θ 0 0)).live n → (GA.add (nm s 0) (g, b) undef (Θ 0 0)).φ n k → False := fun i j k n hh hn hφ => by
                    simp only [Gh.add] at hφ
                    split at hφ
                    · have := (hap _ _ _ _ _ hh hφ).1; omega
                    · rename_i hne
                      rcases hn with hn | hn
                      · exact i4 i j k n hh hn hφ
                      · exact hne hn
                  obtain ⟨G2, j1, j2, j2', j3, j4, j5⟩ := tail (sx := .ptr (nm s 0) 0) hi' hadd (fun n => (i2 n).trans (same_add hnl _ _ _ _ n)) ⟨.inr rfl, by simp [Gh.add]⟩ hsep' ha
                  have hlive := j2' (nm s 0) (.inr rfl)
                  refine ⟨G2, j1, j2, j3, ⟨?_, j4⟩, ⟨hlive.1, c, ?_⟩, j5⟩
                  · rw [hlive.2.1]; simp [Gh.add]
                  · exact (adds_keep ha).1 _ _ (by show hlk (stA.h ++ [(nm s 0, .box c)]) (nm s 0) = _; rw [hlk_snoc, hnone]; simp)
              · cases ha
            · cases hi
end Go.Den

/- A function keeps its promise. -/
namespace Go.Den
open Go
variable {C : Ctx} {R : Rt} {G G0 G1 : Gh} {st st1 st2 : St} {a : Act} {w w' : World} {o : Oper} {v : SV}

theorem chkOps_mono {n m : Nat} (h : n ≤ m) : ∀ {os : List Oper} {seen : List Nat}, chkOps n seen os = true → chkOps m seen os = true
  | [], _, _ => rfl
  | o :: os, seen, hc => by
    simp only [chkOps] at hc ⊢
    split at hc
    · exact chkOps_mono h hc
    · simp only [Bool.and_eq_true, decide_eq_true_eq] at hc ⊢
      exact ⟨⟨Nat.lt_of_lt_of_le hc.1.1 h, hc.1.2⟩, chkOps_mono h hc.2⟩
theorem chkDraw_mono {n m : Nat} (h : n ≤ m) {ops : Array Oper} {order : List (Nat × Nat × List Nat)} (hc : chkDraw n ops order = true) : chkDraw m ops order = true := by
  simp only [chkDraw, Bool.and_eq_true] at hc ⊢
  exact ⟨⟨chkOps_mono h hc.1.1, hc.1.2⟩, hc.2⟩
theorem chkCode_mono {ord : List (Nat × List (Nat × Nat × List Nat))} {n m : Nat} {p : List Nat} (h : n ≤ m) : ∀ {c : Code}, chkCode ord n p c = true → chkCode ord m p c = true := by
  intro c
  induction c with
  | region i ops d =>
    intro hc
    simp only [chkCode, Bool.and_eq_true] at hc ⊢
    refine ⟨?_, hc.2⟩
    have hc := hc.1
    split
    · rename_i hd; rw [if_pos hd] at hc; exact chkDraw_mono h hc
    · rename_i hd; rw [if_neg hd] at hc; exact chkOps_mono h hc
  | seq x y ihx ihy => intro hc; simp only [chkCode, Bool.and_eq_true] at hc ⊢; exact ⟨ihx hc.1, ihy hc.2⟩
  | cond c x y ihx ihy => intro hc; simp only [chkCode, Bool.and_eq_true] at hc ⊢; exact ⟨ihx hc.1, ihy hc.2⟩
  | block i x ih => intro hc; simp only [chkCode] at hc ⊢; exact ih hc
  | loop x ih => intro hc; simp only [chkCode] at hc ⊢; exact ih hc
  | _ => intro _; rfl
theorem adds_h (m : List SV) (l : List (Nat × Path × Bool × SV)) : ∀ {xs : List (Nat × Blk)} {st st1 : St}, adds st xs = some st1 → adds ⟨m, l, st.h⟩ xs = some ⟨m, l, st1.h⟩
  | [], st, st1, h => by simp [adds] at h; subst h; rfl
  | (k, x) :: r, st, st1, h => by
    simp only [adds] at h ⊢
    split at h
    · cases h
    · exact adds_h m l h
theorem lkm_initM (vs : List SV) : ∀ (ks : List Nat) (t : Nat), lkm ks (initM ks vs) t = if isIn ks t then nth vs t .undef else .undef
  | [], t => rfl
  | k :: ks, t => by
    simp only [initM, lkm, isIn]
    by_cases h : k = t
    · subst h; simp
    · simp only [if_neg h]; exact lkm_initM vs ks t
theorem initM_len (vs : List SV) : ∀ (ks : List Nat), (initM ks vs).length = ks.length
  | [] => rfl
  | k :: ks => by simp [initM, initM_len vs ks]
theorem nth_eq {α : Type} : ∀ (l : List α) (n : Nat) (z : α), nth l n z = (l[n]?).getD z
  | [], n, z => by simp [nth]
  | x :: xs, 0, z => rfl
  | x :: xs, n + 1, z => by simp [nth, nth_eq xs n z]
/-- The names of the variables that were handed over. -/
def ptrNames : Nat → List Mode → List Nat
  | s, .ptr _ :: ms => nm s 0 :: ptrNames (s + 1) ms
  | s, _ :: ms => ptrNames (s + 1) ms
  | _, [] => []
def Rt.fixed (R : Rt) (f : Nat → Option (Nat × Nat)) : Rt := { R with fix := f }
def fixOf (G : Gh) (ns : List Nat) : Nat → Option (Nat × Nat) := fun n => if n ∈ ns then some (G.base n) else none
theorem born_names : ∀ {ms : List Mode} {s : Nat} {h : List (Nat × Blk)}, Born G h s ms → ∀ n ∈ ptrNames s ms, G.live n ∧ ∃ cs, hlk h n = some (.box cs)
  | [], s, h, _, n, hn => by simp [ptrNames] at hn
  | m :: ms, s, h, hb, n, hn => by
    cases m with
    | ptr ks =>
      simp only [ptrNames, List.mem_cons] at hn
      rcases hn with rfl | hn
      · exact hb.1
      · exact born_names hb.2 n hn
    | _ => exact born_names (s := s + 1) hb n hn
theorem fixes_of {ns : List Nat} : ∀ {ms : List Mode} {s : Nat}, (∀ n ∈ ptrNames s ms, n ∈ ns) → Fixes (R.fixed (fixOf G ns)) s ms
  | [], s, _ => trivial
  | m :: ms, s, h => by
    cases m with
    | ptr ks => exact ⟨⟨G.base (nm s 0), by simp [Rt.fixed, fixOf, h (nm s 0) (by simp [ptrNames])]⟩, fixes_of (fun n hn => h n (by simp [ptrNames, hn]))⟩
    | _ => exact fixes_of (s := s + 1) (fun n hn => h n hn)
theorem places_of {G' : Gh} : ∀ {ms : List Mode} {s : Nat} {vs : List Value}, (∀ n ∈ ptrNames s ms, G'.base n = G.base n) → Places G s ms vs → Places G' s ms vs
  | [], s, vs, _, h => by cases vs <;> exact h
  | m :: ms, s, vs, hb, h => by
    cases vs with
    | nil => cases m <;> exact h
    | cons v vs =>
      cases m with
      | ptr ks => exact ⟨by rw [hb (nm s 0) (by simp [ptrNames])]; exact h.1, places_of (fun n hn => hb n (by simp [ptrNames, hn])) h.2⟩
      | _ => exact places_of (s := s + 1) (fun n hn => hb n hn) h
theorem winv_fixed {f : Nat → Option (Nat × Nat)} (H : WInv R w) : WInv (R.fixed f) w := ⟨H.os, H.tape, H.output, H.size, H.T, H.old, H.out⟩
theorem winv_unfix {f : Nat → Option (Nat × Nat)} (H : WInv (R.fixed f) w) : WInv R w := ⟨H.os, H.tape, H.output, H.size, H.T, H.old, H.out⟩
theorem rets_unfix {P : Program} {f : Nat → Option (Nat × Nat)} : ∀ {kss : List (List (Option (Nat × Nat)))} {rs : List DV} {vs : List Value} {Θ : Nat → Nat → Nat → Prop}, RetsK P (R.fixed f) w kss rs vs Θ → RetsK P R w kss rs vs Θ
  | [], rs, vs, Θ, h => by cases rs <;> cases vs <;> exact h
  | ks :: kss, rs, vs, Θ, h => by
    cases rs with
    | nil => exact h
    | cons r rs =>
      cases vs with
      | nil => exact h
      | cons v vs => exact ⟨by cases r <;> exact h.1, rets_unfix h.2⟩
theorem scs_unfix {f : Nat → Option (Nat × Nat)} : ∀ {rs : List DV} {vs : List Value}, ScsK (R.fixed f) rs vs → ScsK R rs vs
  | [], vs, h => by cases vs <;> exact h
  | r :: rs, vs, h => by
    cases vs with
    | nil => exact h
    | cons v vs => exact ⟨by cases r <;> exact h.1, scs_unfix h.2⟩
theorem outs_unfix {P : Program} {f : Nat → Option (Nat × Nat)} : ∀ {ms : List Mode} {vs : List Value} {os : List (List D)} {Θ : Nat → Nat → Nat → Prop}, OutsK P (R.fixed f) w ms vs os Θ → OutsK P R w ms vs os Θ
  | [], vs, os, Θ, h => by cases vs <;> cases os <;> exact h
  | m :: ms, vs, os, Θ, h => by
    cases m with
    | ptr ks =>
      cases vs with
      | nil => exact h
      | cons v vs =>
        cases os with
        | nil => exact h
        | cons o os => exact ⟨h.1, outs_unfix h.2⟩
    | io ks =>
      cases vs with
      | nil => exact h
      | cons v vs =>
        cases os with
        | nil => exact h
        | cons o os => exact ⟨h.1, outs_unfix h.2⟩
    | _ =>
      cases vs with
      | nil => cases os <;> exact h
      | cons v vs => cases os <;> exact outs_unfix (Θ := fun i => Θ (i + 1)) h
/-- The parameters, as they are then. -/
def parS (C : Ctx) (st : St) : Nat → List Mode → List SV | _, [] => [] | s, _ :: ms => lkm C.keep st.m s :: parS C st (s + 1) ms
theorem ioNames_eq : ∀ (ms : List Mode) (s : Nat), ioNames C st s ms = ioNs ms (parS C st s ms)
  | [], s => rfl
  | m :: ms, s => by cases m <;> simp only [ioNames, parS, ioNs, ioNames_eq ms (s + 1)]
theorem takeI_okSV {ks : List (Option (Nat × Nat))} {x : SV} {ds : List D} (h : takeI st ks (cellsOf x) = some ds) : okSV x = true := by
  cases x <;> first | rfl | skip
  all_goals
    cases ks with
    | nil => simp [cellsOf, takeI] at h
    | cons k ks => cases k <;> simp [cellsOf, takeI] at h
theorem ioOuts_ok (H : Inv C R G st a w) : ∀ (ms : List Mode) (s : Nat) (vs : List Value) (os : List (List D)) (Ω : Nat → Nat → Nat → Prop), ioModes ms = true → (∀ ks, Mode.io ks ∈ ms → KOk C.P ks) → (∀ (i : Nat) ks v, ms[i]? = some (.io ks) → vs[i]? = some v → VRel R G st.h (lkm C.keep st.m (s + i)) v) → vs.length = ms.length → ioOuts C st s ms = some os → (∀ i j k, Ω i j k ↔ thI G ms (parS C st s ms) i j k) →
    OutsK C.P R w ms vs os Ω ∧ ∀ i j n, PosI ms (parS C st s ms) i j n → G.live n ∧ ∃ e sz ys, hlk st.h n = some (.row e sz ys)
  | [], s, vs, os, Ω, _, _, _, hl, h, _ => by
    simp only [ioOuts, Option.some.injEq] at h
    subst h
    cases vs with
    | nil => exact ⟨trivial, fun i j n hp => by simp [PosI] at hp⟩
    | cons v vs => simp at hl
  | m :: ms, s, [], os, Ω, _, _, _, hl, h, _ => by simp at hl
  | m :: ms, s, v :: vs, os, Ω, hm, hk, hv, hl, h, hΩ => by
    have hm' : ioModes ms = true := by cases m <;> simp_all [ioModes]
    have hv' : ∀ (i : Nat) ks u, ms[i]? = some (.io ks) → vs[i]? = some u → VRel R G st.h (lkm C.keep st.m (s + 1 + i)) u := fun i ks u h1 h2 => by
      have := hv (i + 1) ks u (by simpa using h1) (by simpa using h2)
      rwa [show s + (i + 1) = s + 1 + i by omega] at this
    have hΩ' : ∀ i j k, Ω (i + 1) j k ↔ thI G ms (parS C st (s + 1) ms) i j k := fun i j k => by
      rw [hΩ]; simp only [thI, parS, posI_tail]
    cases m with
    | io ks =>
      simp only [ioOuts] at h
      split at h
      · rename_i x r ht hr
        cases h
        have hx := hv 0 ks v rfl rfl
        rw [Nat.add_zero] at hx
        have hok := takeI_okSV ht
        obtain ⟨c1, c2⟩ := cells_ok hx hok
        have hu : CellsAt R G st.h (cellsOf (lkm C.keep st.m s)) v.cells.toList := ⟨by simpa using c1, fun j y hj => by obtain ⟨q, k1, k2, k3⟩ := c2 j y hj; exact ⟨q, by simpa using k1, k2, k3⟩⟩
        have hK := takeI_kc' (Rr := R) (fun h => h) H hu (hk ks (by simp)) ht
        obtain ⟨o1, o2⟩ := ioOuts_ok H ms (s + 1) vs r (fun i => Ω (i + 1)) hm' (fun ks' hq => hk ks' (by simp [hq])) hv' (by simpa using hl) hr hΩ'
        have e2 : (fun j => Ω 0 (j + 1)) = fun j k => ∃ n, (cellsOf (lkm C.keep st.m s))[j]? = some (.own n) ∧ G.φ n k := by
          funext j k
          refine propext ?_
          rw [hΩ]
          constructor
          · rintro ⟨j', n, e1, ⟨ks', v', p1, p2, p3⟩, e3⟩
            simp [parS] at p2; subst p2
            have : j = j' := by omega
            subst this
            exact ⟨n, p3, e3⟩
          · rintro ⟨n, e1, e3⟩
            exact ⟨j, n, rfl, ⟨ks, _, rfl, by simp [parS], e1⟩, e3⟩
        refine ⟨⟨by rw [e2]; exact hK, o1⟩, fun i j n hp => ?_⟩
        cases i with
        | zero =>
          obtain ⟨ks', v', p1, p2, p3⟩ := hp
          simp [parS] at p2; subst p2
          obtain ⟨y, _, _, hy⟩ := c2 j _ p3
          obtain ⟨t1, t2, t3⟩ := takeI_get ht
          have hj : j < (cellsOf (lkm C.keep st.m s)).length := (List.getElem?_eq_some_iff.1 p3).1
          rcases t3 j (ks[j]'(by omega)) _ (x[j]'(by omega)) (by simp) p3 (by simp) with ⟨_, e⟩ | ⟨e, sz, n', ys, _, e5, _, hrow⟩
          · cases e
          · cases e5; exact ⟨hy.1, e, sz, ys, hrow⟩
        | succ i => exact o2 i j n (posI_tail.1 hp)
      · cases h
    | bor =>
      have h' : ioOuts C st (s + 1) ms = some os := by simpa [ioOuts] using h
      obtain ⟨o1, o2⟩ := ioOuts_ok H ms (s + 1) vs os (fun i => Ω (i + 1)) hm' (fun ks' hq => hk ks' (by simp [hq])) hv' (by simpa using hl) h' hΩ'
      refine ⟨by cases os <;> exact o1, fun i j n hp => ?_⟩
      cases i with
      | zero => obtain ⟨ks', v', p1, _⟩ := hp; simp at p1
      | succ i => exact o2 i j n (posI_tail.1 hp)
    | _ => simp [ioModes] at hm
theorem argsK_len {P : Program} : ∀ {ms : List Mode} {xs : List DV} {vs : List Value} {Θ : Nat → Nat → Nat → Prop}, ArgsK P R ms xs vs Θ → vs.length = ms.length
  | [], [], [], _, _ => rfl
  | [], [], _ :: _, _, h => h.elim
  | [], _ :: _, vs, _, h => by cases vs <;> exact h.elim
  | _ :: _, [], vs, _, h => by cases vs <;> exact h.elim
  | _ :: _, _ :: _, [], _, h => h.elim
  | m :: ms, x :: xs, v :: vs, _, h => by simp [argsK_len h.2]
/-- The parameters whose memory is handed back where it stood. -/
def ioIx : Nat → List Mode → List Nat | _, [] => [] | s, .io _ :: ms => s :: ioIx (s + 1) ms | s, _ :: ms => ioIx (s + 1) ms
theorem mem_ioIx : ∀ {ms : List Mode} {s i : Nat} {ks : List (Option (Nat × Nat))}, ms[i]? = some (.io ks) → s + i ∈ ioIx s ms
  | [], s, i, ks, h => by simp at h
  | m :: ms, s, 0, ks, h => by simp at h; subst h; simp [ioIx]
  | m :: ms, s, i + 1, ks, h => by
    have := mem_ioIx (s := s + 1) (i := i) (ks := ks) (ms := ms) (by simpa using h)
    rw [show s + (i + 1) = s + 1 + i by omega]
    cases m <;> simp [ioIx, this]

theorem resVs_sound : ∀ {rs : List ResultVar} {vs : List SV}, Inv C R G st a w → resVs C st rs = some vs → ∃ rv : List Value, rs.length = rv.length ∧ (∀ (j : Nat) r v, rs[j]? = some r → rv[j]? = some v → resRun C.P a.tmps w r v) ∧ ValsAt R G st.h vs rv
  | [], vs, H, h => by
    simp only [resVs, Option.some.injEq] at h
    subst h
    exact ⟨[], rfl, fun j r v hj => by simp at hj, rfl, fun j x hj => by simp at hj⟩
  | r :: rs, vs, H, h => by
    simp only [resVs] at h
    split at h
    · rename_i x xs hx hxs
      cases h
      obtain ⟨u, h1, h2⟩ := resV_sound H hx
      obtain ⟨rv, h3, h4, h5⟩ := resVs_sound H hxs
      refine ⟨u :: rv, by simp [h3], fun j r' v hj hv => ?_, by simp [h5.1], fun j y hj => ?_⟩
      · cases j with
        | zero => simp at hj hv; subst hj hv; exact h1
        | succ j => exact h4 j r' v (by simpa using hj) (by simpa using hv)
      · cases j with
        | zero => simp at hj; subst hj; exact ⟨u, rfl, h2⟩
        | succ j => simpa using h5.2 j y (by simpa using hj)
    · cases h

theorem spec_body {P : Program} {sig : Nat → Sig} {F : Nat → List DV → Bool × List DV × List (List D)} {k f : Nat} {fn : Func} {c : Code} (hC : CtxOk ⟨P, sig, F, (sig f).keep, (sig f).ord⟩) (hfn : P.funcs[f]? = some fn) (hbody : fn.body = some c) (hchk : chkCode (sig f).ord fn.ntmps (ioIx 0 (sig f).ms) c = true) (hsg : SigOk P (sig f)) : SpecOk P (sig f) (evalBody P sig F k f) f := by
  intro R xs vs Θ rs outs hF hfix hpre
  unfold evalBody at hF
  rw [hfn] at hF
  dsimp only at hF
  rw [hbody] at hF
  dsimp only at hF
  split at hF
  · rename_i svs h hinit
    split at hF
    · rename_i st hadds
      let C : Ctx := ⟨P, sig, F, (sig f).keep, (sig f).ord⟩
      let a0 : Act := { tmps := vs.toArray ++ Array.replicate (fn.ntmps - vs.toArray.size) undef, defers := [] }
      -- the beginning
      have H0 : Inv C R ⟨fun _ => False, fun _ => (0, 0), fun _ => undef, fun _ _ => False⟩ ⟨List.replicate C.keep.length .undef, [], []⟩ a0 R.w0 :=
        ⟨hpre.W, ⟨fun n hn => hn.elim, fun n m hn => hn.elim, fun n hn => hn.elim, fun n b hb => by rw [hfix] at hb; cases hb⟩, fun _ _ _ => id, fun t => by unfold SlotR; simp only [lk, lkm_replicate]; trivial, fun t q c v h => (by cases h), by simp⟩
      obtain ⟨G2, i1, i2, i3, i4, i5⟩ := init_sound (C := C) rfl (sig f).ms 0 xs vs Θ svs h _ _ _ hinit hpre.args H0 hpre.mine hpre.lb hpre.apart (fun _ _ _ _ _ hl => hl.elim) (adds_h (List.replicate C.keep.length .undef) [] hadds)
      obtain ⟨_, hm, hl⟩ := adds_keep hadds
      have hm' : st.m = initM (sig f).keep svs := hm
      have hl' : st.l = [] := hl
      have hborn := born_names i5
      let Rf := R.fixed (fixOf G2 (ptrNames 0 (sig f).ms))
      have hslots : ∀ t, SlotR C Rf G2 st a0 t := fun t => by
        show SlotR C R G2 st a0 t
        unfold SlotR
        rw [hl', hm']
        simp only [lk]
        show VRel R G2 st.h (lkm (sig f).keep (initM (sig f).keep svs) t) _
        rw [lkm_initM, nth_eq]
        split
        · cases ht : svs[t]? with
          | none => trivial
          | some x =>
            obtain ⟨u, h1, h2⟩ := i3.2 t x ht
            have : a0.tmps.getD t undef = u := by
              have hlt : t < vs.length := (List.getElem?_eq_some_iff.1 h1).1
              show (vs.toArray ++ Array.replicate (fn.ntmps - vs.toArray.size) undef).getD t undef = u
              rw [Array.getD_eq_getD_getElem?, Array.getElem?_append_left (by simpa using hlt)]
              simp [h1]
            rw [this]
            exact h2
        · trivial
      have H1 : Inv C Rf G2 st a0 R.w0 :=
        ⟨winv_fixed i1.W, ⟨i1.B.rel, i1.B.disj, i1.B.mine, fun n b hb => by
          show G2.live n ∧ G2.base n = b ∧ _
          have hb' : fixOf G2 (ptrNames 0 (sig f).ms) n = some b := hb
          unfold fixOf at hb'
          split at hb'
          · rename_i hn
            cases hb'
            exact ⟨(hborn n hn).1, rfl, fun _ => (hborn n hn).2⟩
          · cases hb'⟩, fun _ _ _ => id, hslots, by rw [hl']; exact fun t q c v h => (by cases h), by rw [hm', initM_len]⟩
      refine calls_of_wp hfn hbody ?_
      show c.wp P _ a0 R.w0
      -- the way out
      have out : ∀ {ex : Ex} {st' : St}, (ex = .normal ∨ ex = .ret) → (match resVs C st' fn.results.toList with
          | some vs => if hasIo (sig f).ms then finIo C (sig f) st' vs else (match resOfs st' (sig f).r vs with
            | some (rs, st1) => (match outsOf 0 st1 (sig f).ms with | some (outs, _) => some (rs, outs) | none => none)
            | none => none)
          | none => none) = some (rs, outs) → ∀ a' w', After C Rf a0.tmps.size (ioIx 0 (sig f).ms) a0 st' a' w' → a'.defers = [] ∧ ∃ v, (results fn a'.tmps).run P w' = .ok v w' ∧ ∃ rv Ξ Ω, Ending.returned v = .returned (valOf rv) ∧ Post P (sig f) R vs rs outs rv w' Ξ Ω := by
        intro ex st' _ hres a' w' ⟨G, H, hl0, hsz, hdef⟩
        split at hres
        · rename_i us hus
          obtain ⟨rv, r1, r2, r3⟩ := resVs_sound H hus
          split at hres
          · refine ⟨hdef.1, valOf rv, run_results r1 r2, ?_⟩
            unfold finIo at hres
            split at hres
            · rename_i zs hr
              split at hres
              · rename_i hck
                simp only [Bool.and_eq_true] at hck
                split at hres
                · rename_i rs1 outs1 hrs hou
                  cases hres
                  have hnd := nodupB_ok hck.1
                  rw [ioNames_eq] at hnd
                  have hval : ∀ (i : Nat) ks v, (sig f).ms[i]? = some (.io ks) → vs[i]? = some v → VRel Rf G st'.h (lkm C.keep st'.m (0 + i)) v := fun i ks v h1 h2 => by
                    have h3 := H.slots i
                    unfold SlotR at h3
                    rw [hl0] at h3
                    simp only [lk] at h3
                    have h4 := hdef.2 (0 + i) (mem_ioIx h1)
                    rw [Nat.zero_add] at h4 ⊢
                    have h5 : a0.tmps[i]? = some v := by
                      have hlt : i < vs.length := (List.getElem?_eq_some_iff.1 h2).1
                      show (vs.toArray ++ Array.replicate (fn.ntmps - vs.toArray.size) undef)[i]? = some v
                      rw [Array.getElem?_append_left (by simpa using hlt)]
                      simpa using h2
                    rw [h5] at h4
                    rw [Array.getD_eq_getD_getElem?, h4] at h3
                    exact h3
                  obtain ⟨o1, o2⟩ := ioOuts_ok (R := Rf) H (sig f).ms 0 vs _ (thI G (sig f).ms (parS C st' 0 (sig f).ms)) hck.2 (fun ks hk => hsg.1 ks (.inr hk)) hval (argsK_len hpre.args) hou (fun _ _ _ => Iff.rfl)
                  refine ⟨rv, fun _ _ _ => False, _, rfl, winv_unfix H.W, by rw [hr]; exact scs_unfix (resSc_sound hrs r3), outs_unfix o1, fun _ _ _ h => h.elim, fun i j k ⟨j', n, _, hp, hφ⟩ => H.B.mine n (o2 _ _ _ hp).1 id k hφ, fun i j k ⟨j', n, _, hp, hφ⟩ lo hi hlb => ?_, fun _ _ _ _ _ h => h.elim, fun i j i' j' k ⟨q, n, e1, hp, hφ⟩ ⟨q', n', e1', hp', hφ'⟩ => ?_, fun _ _ _ _ _ h => h.elim⟩
                  · obtain ⟨hlv, e, sz, ys, hrow⟩ := o2 _ _ _ hp
                    obtain ⟨b, hb, hbr⟩ := H.B.rel n hlv id
                    rw [hrow] at hb; cases hb
                    exact hbr.2.2.2 k lo hi hφ hlb
                  · have : n = n' := Classical.byContradiction fun hne => H.B.disj n n' (o2 _ _ _ hp).1 id (o2 _ _ _ hp').1 id hne k hφ hφ'
                    subst this
                    obtain ⟨e2, e3⟩ := posI_inj hnd hp hp'
                    exact ⟨e2, by omega⟩
                · cases hres
              · cases hres
            · cases hres
          split at hres
          · rename_i rs' st1 hro
            split at hres
            · rename_i outs' st2 hou
              cases hres
              refine ⟨hdef.1, valOf rv, run_results r1 r2, ?_⟩
              have hK : ∃ G1 Ξ, Inv C Rf G1 st1 a' w' ∧ Gle G1 G ∧ ResK P R w' (sig f).r rs rv Ξ ∧ (∀ i j k, Ξ i j k → k < w'.heap.size ∧ (R.L k ∨ R.w0.heap.size ≤ k) ∧ ∀ lo hi, ¬ R.LB k lo hi) ∧ Apart3 Ξ ∧ (∀ i j k n, Ξ i j k → G1.live n → G1.φ n k → False) := by
                cases hr : (sig f).r with
                | sc zs =>
                  rw [hr] at hro
                  simp only [resOfs] at hro
                  split at hro
                  · rename_i rr hrr
                    cases hro
                    exact ⟨G, fun _ _ _ => False, H, Gle.refl G, scs_unfix (resSc_sound hrr r3), fun _ _ _ h => h.elim, fun _ _ _ _ _ h => h.elim, fun _ _ _ _ h => h.elim⟩
                  · cases hro
                | fresh kss =>
                  rw [hr] at hro
                  simp only [resOfs] at hro
                  obtain ⟨G1, Ξ, q1, q2, _, q4, q5, q6, _, q8⟩ := resFr_sound (G0 := G) (h0 := st'.h) kss us rv st' G rs st1 H (Gle.refl G) (Has.refl _ _) (fun ks hk => hsg.2 kss hr ks hk) r3 hro
                  exact ⟨G1, Ξ, q1, q2, rets_unfix q4, q5, q6, q8⟩
                | nptr ks => rw [hr] at hro; simp [resOfs] at hro
              obtain ⟨G1, Ξ, q1, q2, q3, q4, q5, q6⟩ := hK
              have hpl : Places G1 0 (sig f).ms vs := places_of (fun n hn => by
                obtain ⟨_, h2, _⟩ := q1.B.fix n (G2.base n) (by show fixOf G2 (ptrNames 0 (sig f).ms) n = _; simp [fixOf, hn])
                exact h2) i4
              obtain ⟨G', Ω, o1, o2, o3, o4, o5, o6, o7, o8, o9⟩ := outsOf_sound (R := Rf) (sig f).ms 0 vs st1 G1 outs st2 q1 (fun ks hk => hsg.1 ks (.inl (.inl hk))) (fixes_of fun _ h => h) hpl hou
              exact ⟨rv, Ξ, Ω, rfl, winv_unfix q1.W, q3, outs_unfix o3, q4, o4, o5, q5, o6, fun i j i' j' k h1 h2 => by
                obtain ⟨n, n1, n2⟩ := o7 _ _ _ h2
                exact q6 i j k n h1 n1 n2⟩
            · cases hres
          · cases hres
        · cases hres
      cases hden : den C k c st with
      | none => rw [hden] at hF; simp [fin] at hF
      | some r =>
        obtain ⟨ex, st'⟩ := r
        rw [hden] at hF
        have hsz0 : fn.ntmps ≤ a0.tmps.size := by
          show fn.ntmps ≤ (vs.toArray ++ Array.replicate (fn.ntmps - vs.toArray.size) undef).size
          simp
          omega
        refine den_sound hC a0.tmps.size (ioIx 0 (sig f).ms) a0 k c st st' ex a0 R.w0 _ hden ⟨G2, H1, hl', rfl, Still.refl _ _⟩ (chkCode_mono hsz0 hchk) (fun a' w' hA => ?_)
        cases ex with
        | normal => exact out (ex := .normal) (.inl rfl) hF a' w' hA
        | ret => exact out (ex := .ret) (.inr rfl) hF a' w' hA
        | exit i => simp [fin] at hF
    · cases hF
  · cases hF
end Go.Den

/- All functions together. -/
namespace Go.Den
open Go

abbrev Rs := Option (List DV × List (List D))
/-- The functions of less depth than d. -/
def Gd (G : Nat → List DV → Bool × List DV × List (List D)) (dep : Nat → Nat) (d f : Nat) (xs : List DV) : Bool × List DV × List (List D) := if dep f < d then G f xs else (false, [], [])
/-- What the kernel looks at, of a function. -/
def FnOk (P : Program) (sig : Nat → Sig) (f : Nat) : Prop :=
  ∃ fn c, P.funcs[f]? = some fn ∧ fn.body = some c ∧ (fn.name == "runtime.NumGoroutine") = false ∧ chkCode (sig f).ord fn.ntmps (ioIx 0 (sig f).ms) c = true ∧ SigOk P (sig f)
def eOkB (P : Program) (k : Option (Nat × Nat)) : Bool :=
  match k with
  | none => true
  | some (e, sz) => match P.info? e with | some i => decide (i.size = sz) && decide (0 < sz) | none => false
def sigOkB (P : Program) (sg : Sig) : Bool :=
  (sg.ms.all fun m => match m with | .ptr ks => ks.all (eOkB P) | .own ks => ks.all (eOkB P) | .io ks => ks.all (eOkB P) | _ => true) &&
  (match sg.r with | .fresh kss => kss.all fun ks => ks.all (eOkB P) | _ => true)
def fnOkB (P : Program) (sig : Nat → Sig) (f : Nat) : Bool :=
  match P.funcs[f]? with
  | some fn => (match fn.body with
    | some c => !(fn.name == "runtime.NumGoroutine") && chkCode (sig f).ord fn.ntmps (ioIx 0 (sig f).ms) c && sigOkB P (sig f)
    | none => false)
  | none => false
theorem kOk_of {P : Program} {ks : List (Option (Nat × Nat))} (h : ks.all (eOkB P) = true) : KOk P ks := fun e sz hm => by
  have := List.all_eq_true.1 h _ hm
  unfold eOkB at this
  dsimp only at this
  split at this
  · rename_i i hi
    simp only [Bool.and_eq_true, decide_eq_true_eq] at this
    exact ⟨⟨i, hi, this.1⟩, this.2⟩
  · cases this
theorem sigOk_of {P : Program} {sg : Sig} (h : sigOkB P sg = true) : SigOk P sg := by
  simp only [sigOkB, Bool.and_eq_true, List.all_eq_true] at h
  refine ⟨fun ks hk => ?_, fun kss hr ks hk => ?_⟩
  · rcases hk with (hk | hk) | hk
    · exact kOk_of (h.1 _ hk)
    · exact kOk_of (h.1 _ hk)
    · exact kOk_of (h.1 _ hk)
  · have := h.2
    rw [hr] at this
    exact kOk_of (List.all_eq_true.2 fun x hx => (List.all_eq_true.1 this ks hk |> fun h => List.all_eq_true.1 h x hx))
theorem fnOk_of {P : Program} {sig : Nat → Sig} {f : Nat} (h : fnOkB P sig f = true) : FnOk P sig f := by
  unfold fnOkB at h
  split at h
  · rename_i fn hfn
    split at h
    · rename_i c hc
      simp only [Bool.and_eq_true, Bool.not_eq_true'] at h
      exact ⟨fn, c, hfn, hc, h.1.1, h.1.2, sigOk_of h.2⟩
    · cases h
  · cases h
theorem G_ctx {P : Program} {sig : Nat → Sig} {G : Nat → List DV → Bool × List DV × List (List D)} {dep : Nat → Nat} {k : Nat} (hm : P.follows .mixedOrders = true)
    (hG : ∀ f xs r, opt (G f xs) = some r → FnOk P sig f ∧ evalBody P sig (Gd G dep (dep f)) k f xs = some r) (keep : List Nat) (ord : List (Nat × List (Nat × Nat × List Nat))) : ∀ d, CtxOk ⟨P, sig, Gd G dep d, keep, ord⟩ := by
  intro d
  induction d using Nat.strongRecOn generalizing keep ord with
  | _ d ih =>
    have mem : ∀ {f : Nat} {xs : List DV} {r : List DV × List (List D)}, opt (Gd G dep d f xs) = some r → dep f < d ∧ opt (G f xs) = some r := fun {f xs r} h => by
      unfold Gd at h
      split at h
      · rename_i hd; exact ⟨hd, h⟩
      · simp [opt] at h
    refine ⟨fun f R xs vs Θ rs outs hF => ?_, fun f xs r hF => ?_, fun f xs r hF => ?_, hm⟩
    · obtain ⟨h1, h2⟩ := mem hF
      obtain ⟨⟨fn, c, e1, e2, e3, e4, e5⟩, h3⟩ := hG f xs _ h2
      exact spec_body (ih (dep f) h1 (sig f).keep (sig f).ord) e1 e2 e4 e5 R xs vs Θ rs outs h3
    · obtain ⟨⟨fn, c, e1, e2, e3, _⟩, _⟩ := hG f xs r (mem hF).2
      exact ⟨fn, c, e1, e2, e3⟩
    · obtain ⟨⟨fn, c, _, _, _, _, e5⟩, _⟩ := hG f xs r (mem hF).2
      exact e5
theorem G_spec {P : Program} {sig : Nat → Sig} {G : Nat → List DV → Bool × List DV × List (List D)} {dep : Nat → Nat} {k : Nat} (hm : P.follows .mixedOrders = true)
    (hG : ∀ f xs r, opt (G f xs) = some r → FnOk P sig f ∧ evalBody P sig (Gd G dep (dep f)) k f xs = some r) (f : Nat) : SpecOk P (sig f) (fun xs => opt (G f xs)) f := fun R xs vs Θ rs outs hF => by
  obtain ⟨⟨fn, c, e1, e2, e3, e4, e5⟩, h3⟩ := hG f xs _ hF
  exact spec_body (G_ctx hm hG (sig f).keep (sig f).ord (dep f)) e1 e2 e4 e5 R xs vs Θ rs outs h3
end Go.Den
