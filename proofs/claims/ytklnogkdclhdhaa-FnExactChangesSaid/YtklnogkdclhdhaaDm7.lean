/- The evaluator of Go code over plain data, and its soundness: part 7 of 8. -/
import Derived.Test.YtklnogkdclhdhaaDm6
import Derived.LoopN
import Derived.ReadAgain
import Derived.ChangeArms
import Derived.RowKit3
import Derived.RowKit
import Derived.SizedLaws
set_option linter.unusedVariables false
set_option linter.unusedSimpArgs false
/- Code. -/
namespace Go.Den
open Go
variable {C : Ctx} {R : Rt} {G G0 G1 : Gh} {st st1 st2 : St} {a : Act} {w w' : World} {o : Oper} {v : SV}

/-- What the regions must be (the kernel looks). -/
def chkCode (ord : List (Nat × List (Nat × Nat × List Nat))) (n : Nat) (p : List Nat) : Code → Bool
  | .region i ops d => (if d then chkDraw n ops (lkO ord i) else chkOps n [] ops.toList) && loOps p ops.toList
  | .seq a b => chkCode ord n p a && chkCode ord n p b
  | .cond _ a b => chkCode ord n p a && chkCode ord n p b
  | .block _ a => chkCode ord n p a
  | .loop a => chkCode ord n p a
  | _ => true
def exOf : Ex → Exit | .normal => .normal | .exit i => .exit i | .ret => .ret

/-! what a round leaves behind -/
def Gh.keep (G : Gh) (ns : List Nat) : Gh := { G with live := fun k => G.live k ∧ k ∈ ns }
theorem hlk_keepH (ns : List Nat) (h : List (Nat × Blk)) : ∀ (l : List Nat) (n : Nat), hlk (keepH ns h l) n = if n ∈ l then (hlk h n).map (keepB ns) else none
  | [], n => by simp [keepH, hlk]
  | k :: r, n => by
    simp only [keepH]
    cases hb : hlk h k with
    | none =>
      simp only [hlk_keepH ns h r n]
      by_cases hkn : n = k
      · subst hkn; simp [hb]
      · simp [hkn]
    | some b =>
      simp only [hlk, hlk_keepH ns h r n]
      by_cases hkn : k = n
      · subst hkn; simp [hb]
      · rw [if_neg hkn]; simp [Ne.symm hkn]
theorem keepC_in {ns : List Nat} {h h' : List (Nat × Blk)} {G' : Gh} {x : SV} {u : Value} (hs : ∀ n ∈ ns, Same G h G' h' n) (hx : CRel R G h x u) : CRel R G' h' (keepC ns x) u := keepC_rel (fun n hn _ => hs n hn) hx
theorem keepV_in {ns : List Nat} {h h' : List (Nat × Blk)} {G' : Gh} {x : SV} {u : Value} (hs : ∀ n ∈ ns, Same G h G' h' n) (hx : VRel R G h x u) : VRel R G' h' (keepV ns x) u := by
  cases x with
  | agg cs =>
    obtain ⟨vs, h1, h2, h3⟩ := hx
    refine ⟨vs, h1, by rw [keepCs_len]; exact h2, fun j y hj => ?_⟩
    rw [keepCs_get, Option.map_eq_some_iff] at hj
    obtain ⟨y', hy, rfl⟩ := hj
    obtain ⟨z, h4, h5, h6⟩ := h3 j y' hy
    exact ⟨z, h4, h5, keepC_in hs h6⟩
  | tup vs => trivial
  | own n => simp only [keepV]; exact arel_one (keepC_in hs (x := .own n) hx)
  | rp n i q => simp only [keepV]; exact arel_one (keepC_in hs (x := .rp n i q) hx)
  | ptr n q => simp only [keepV]; exact arel_one (keepC_in hs (x := .ptr n q) hx)
  | fp f n q => simp only [keepV]; exact arel_one (keepC_in hs (x := .fp f n q) hx)
  | op b cs => exact hx
  | fb f cs => exact hx
  | d x => exact hx
  | nils => exact hx
  | nilp => exact hx
  | pv cs o => exact hx
  | fn f => exact hx
  | undef => trivial
theorem lkm_keepM (ns : List Nat) : ∀ (ks : List Nat) (m : List SV) (t : Nat), lkm ks (keepM ns m) t = keepV ns (lkm ks m t)
  | [], m, t => by cases m <;> rfl
  | k :: ks, [], t => rfl
  | k :: ks, v :: vs, t => by simp only [keepM, lkm, lkm_keepM ns ks vs t]; split <;> rfl
theorem keepM_len (ns : List Nat) : ∀ (m : List SV), (keepM ns m).length = m.length
  | [] => rfl
  | v :: vs => by simp [keepM, keepM_len ns vs]
theorem trim_inv {ns : List Nat} (H : Inv C R G st a w) (hl : st.l = []) (hfix : ∀ n b, R.fix n = some b → n ∈ ns) : Inv C R (G.keep ns) (trim ns st) a w := by
  have hs : ∀ n ∈ ns, Same G st.h (G.keep ns) (trim ns st).h n := fun n hn hlive => ⟨⟨hlive, hn⟩, rfl, rfl, fun e sz xs hx => ⟨xs, by
    show hlk (keepH ns st.h ns) n = _
    rw [hlk_keepH, if_pos hn, hx]; rfl⟩⟩
  refine ⟨H.W, ⟨fun n hn _ => ?_, fun n m hn _ hm _ => H.B.disj n m hn.1 id hm.1 id, fun n hn _ => H.B.mine n hn.1 id, fun n b hf => ?_⟩, fun _ _ _ => id, fun t => ?_, fun t q c v h => (by cases h), by simp only [trim, keepM_len]; exact H.m⟩
  · obtain ⟨b, h1, h2⟩ := H.B.rel n hn.1 id
    cases b with
    | row e sz xs =>
      refine ⟨.row e sz xs, ?_, h2⟩
      show hlk (keepH ns st.h ns) n = _
      rw [hlk_keepH, if_pos hn.2, h1]; rfl
    | box cs =>
      obtain ⟨cur, e, r1, r2, r3, r4, r5⟩ := h2
      refine ⟨.box (keepCs ns cs), ?_, cur, e, r1, r2, by rw [keepCs_len]; exact r3, by rw [keepCs_len]; exact r4, fun j x hj => ?_⟩
      · show hlk (keepH ns st.h ns) n = _
        rw [hlk_keepH, if_pos hn.2, h1]; rfl
      · rw [keepCs_get, Option.map_eq_some_iff] at hj
        obtain ⟨y, hy, rfl⟩ := hj
        obtain ⟨u, k1, k2, k3⟩ := r5 j y hy
        exact ⟨u, k1, k2, keepC_in hs k3⟩
  · obtain ⟨h1, h2, h3⟩ := H.B.fix n b hf
    obtain ⟨cs, hc⟩ := h3 id
    refine ⟨⟨h1, hfix n b hf⟩, h2, fun _ => ⟨keepCs ns cs, ?_⟩⟩
    show hlk (keepH ns st.h ns) n = _
    rw [hlk_keepH, if_pos (hfix n b hf), hc]; rfl
  · have hx := H.slots t
    unfold SlotR at hx ⊢
    rw [hl] at hx
    simp only [trim, lk] at hx ⊢
    rw [lkm_keepM]
    exact keepV_in hs hx
/-! names of own rows -/
def Gh.ren (G : Gh) (k k' : Nat) : Gh := { live := fun n => if n = k' then G.live k else if n = k then False else G.live n, base := fun n => if n = k' then G.base k else G.base n, hv := fun n => if n = k' then G.hv k else G.hv n, φ := fun n => if n = k' then G.φ k else G.φ n }
theorem hlk_renH (k k' : Nat) (hne : k ≠ k') : ∀ (h : List (Nat × Blk)) (n : Nat), hlk h k' = none → hlk (renH k k' h) n = if n = k' then (hlk h k).map (renB k k') else if n = k then none else (hlk h n).map (renB k k')
  | [], n, _ => by simp [renH, hlk]
  | (b, v) :: r, n, hk' => by
    simp only [hlk] at hk'
    by_cases hb : b = k'
    · rw [if_pos hb] at hk'; cases hk'
    · rw [if_neg hb] at hk'
      simp only [renH, hlk, hlk_renH k k' hne r n hk']
      by_cases hbk : b = k
      · subst hbk
        simp only [if_true]
        by_cases hn : n = k'
        · simp [hn]
        · rw [if_neg (Ne.symm hn), if_neg hn, if_neg hn]
          by_cases hnb : n = b
          · simp [hnb]
          · simp [hnb, Ne.symm hnb]
      · simp only [if_neg hbk]
        by_cases hn : n = k'
        · subst hn; simp [hb]
        · simp only [if_neg hn]
          by_cases hnk : n = k
          · subst hnk; simp [hbk]
          · by_cases hbn : b = n
            · simp [hbn, hnk]
            · simp [hbn, hnk]
theorem renCs_len (k k' : Nat) : ∀ (cs : List SV), (renCs k k' cs).length = cs.length
  | [] => rfl
  | c :: cs => by simp [renCs, renCs_len k k' cs]
theorem renCs_get (k k' : Nat) : ∀ (cs : List SV) (j : Nat), (renCs k k' cs)[j]? = (cs[j]?).map (renC k k')
  | [], j => by simp [renCs]
  | c :: cs, 0 => by simp [renCs]
  | c :: cs, j + 1 => by simp [renCs, renCs_get k k' cs]
theorem renAs_len (k k' : Nat) : ∀ (cs : List SV), (renAs k k' cs).length = cs.length
  | [] => rfl
  | c :: cs => by simp [renAs, renAs_len k k' cs]
theorem renAs_get (k k' : Nat) : ∀ (cs : List SV) (j : Nat), (renAs k k' cs)[j]? = (cs[j]?).map (renA k k')
  | [], j => by simp [renAs]
  | c :: cs, 0 => by simp [renAs]
  | c :: cs, j + 1 => by simp [renAs, renAs_get k k' cs]
theorem renM_len (k k' : Nat) : ∀ (m : List SV), (renM k k' m).length = m.length
  | [] => rfl
  | v :: vs => by simp [renM, renM_len k k' vs]
theorem lkm_renM (k k' : Nat) : ∀ (ks : List Nat) (m : List SV) (t : Nat), lkm ks (renM k k' m) t = renV k k' (lkm ks m t)
  | [], m, t => by cases m <;> rfl
  | a :: ks, [], t => rfl
  | a :: ks, v :: vs, t => by simp only [renM, lkm, lkm_renM k k' ks vs t]; split <;> rfl
section
variable {k k' : Nat}
theorem crel_ren (hne : k ≠ k') (hlv : ∀ n, G.live n → n ≠ k') (hk' : hlk st.h k' = none) {x : SV} {u : Value} (hx : CRel R G st.h x u) : CRel R (G.ren k k') (renH k k' st.h) (renC k k' x) u := by
  have nm : ∀ n, G.live n → (G.ren k k').live (if n = k then k' else n) ∧ (G.ren k k').base (if n = k then k' else n) = G.base n ∧ (G.ren k k').hv (if n = k then k' else n) = G.hv n := fun n hn => by
    have h1 := hlv n hn
    by_cases e : n = k
    · subst e; simp [Gh.ren, hn]
    · simp [Gh.ren, e, h1, hn]
  cases x with
  | own n => obtain ⟨h1, h2, h3⟩ := hx; obtain ⟨a1, _, a3⟩ := nm n h1; exact ⟨a1, by rw [a3]; exact h2, h3⟩
  | ptr n o => obtain ⟨h1, h2⟩ := hx; obtain ⟨a1, a2, _⟩ := nm n h1; exact ⟨a1, by rw [a2]; exact h2⟩
  | fp f n o => obtain ⟨h1, h2⟩ := hx; obtain ⟨a1, a2, _⟩ := nm n h1; exact ⟨a1, by rw [a2]; exact h2⟩
  | rp n i o =>
    obtain ⟨h1, e, sz, xs, h2, g, b, len, cap, h3, h4⟩ := hx
    obtain ⟨a1, _, a3⟩ := nm n h1
    refine ⟨a1, e, sz, xs, ?_, g, b, len, cap, by rw [a3]; exact h3, h4⟩
    rw [hlk_renH k k' hne _ _ hk']
    have h5 := hlv n h1
    by_cases en : n = k
    · subst en; simp [h2, renB]
    · simp [en, h5, h2, renB]
  | _ => exact hx
theorem arel_ren (hne : k ≠ k') (hlv : ∀ n, G.live n → n ≠ k') (hk' : hlk st.h k' = none) {x : SV} {u : Value} (hx : ARel R G st.h x u) : ARel R (G.ren k k') (renH k k' st.h) (renA k k' x) u := by
  by_cases hc : ∃ cs, x = .agg cs
  · obtain ⟨cs, rfl⟩ := hc
    obtain ⟨vs, h1, h2, h3⟩ := hx
    refine ⟨vs, h1, by rw [renCs_len]; exact h2, fun j y hj => ?_⟩
    rw [renCs_get, Option.map_eq_some_iff] at hj
    obtain ⟨y', hy, rfl⟩ := hj
    obtain ⟨z, h4, h5, h6⟩ := h3 j y' hy
    exact ⟨z, h4, h5, crel_ren hne hlv hk' h6⟩
  · have hc' : ∀ cs, x ≠ .agg cs := fun cs e => hc ⟨cs, e⟩
    rw [arel_c hc'] at hx
    have e1 : renA k k' x = renC k k' x := by cases x <;> first | rfl | exact absurd rfl (hc' _)
    rw [e1]
    have hc2 : ∀ cs, renC k k' x ≠ .agg cs := fun cs e => by cases x <;> simp [renC] at e; exact hc' _ rfl
    rw [arel_c hc2]
    exact crel_ren hne hlv hk' hx
theorem vrel_ren (hne : k ≠ k') (hlv : ∀ n, G.live n → n ≠ k') (hk' : hlk st.h k' = none) {x : SV} {u : Value} (hx : VRel R G st.h x u) : VRel R (G.ren k k') (renH k k' st.h) (renV k k' x) u := by
  by_cases hc : ∃ cs, x = .tup cs
  · obtain ⟨cs, rfl⟩ := hc
    obtain ⟨vs, h1, h2, h3⟩ := hx
    refine ⟨vs, h1, by rw [renAs_len]; exact h2, fun j y hj => ?_⟩
    rw [renAs_get, Option.map_eq_some_iff] at hj
    obtain ⟨y', hy, rfl⟩ := hj
    obtain ⟨z, h4, h5⟩ := h3 j y' hy
    exact ⟨z, h4, arel_ren hne hlv hk' h5⟩
  · have hc' : ∀ cs, x ≠ .tup cs := fun cs e => hc ⟨cs, e⟩
    rw [vrel_a hc'] at hx
    have e1 : renV k k' x = renA k k' x := by cases x <;> first | rfl | exact absurd rfl (hc' _)
    rw [e1]
    have hc2 : ∀ cs, renA k k' x ≠ .tup cs := fun cs e => by cases x <;> simp [renA, renC] at e; exact hc' _ rfl
    rw [vrel_a hc2]
    exact arel_ren hne hlv hk' hx
theorem ren_inv (H : Inv C R G st a w) (hl : st.l = []) (hk : ∃ e sz xs, hlk st.h k = some (.row e sz xs)) (hk' : hlk st.h k' = none) (hne : k ≠ k') : Inv C R (G.ren k k') (ren k k' st) a w := by
  have hlv : ∀ n, G.live n → n ≠ k' := fun n hn e => by
    subst e
    obtain ⟨b, hb, _⟩ := H.B.rel n hn id
    rw [hk'] at hb; cases hb
  have hh : ∀ n, hlk (ren k k' st).h n = if n = k' then (hlk st.h k).map (renB k k') else if n = k then none else (hlk st.h n).map (renB k k') := fun n => hlk_renH k k' hne st.h n hk'
  have old : ∀ n, (G.ren k k').live n → ∃ n0, G.live n0 ∧ n = (if n0 = k then k' else n0) ∧ (G.ren k k').base n = G.base n0 ∧ (G.ren k k').hv n = G.hv n0 ∧ (G.ren k k').φ n = G.φ n0 ∧ hlk (ren k k' st).h n = (hlk st.h n0).map (renB k k') := fun n hn => by
    rw [hh]
    simp only [Gh.ren] at hn
    by_cases e : n = k'
    · subst e
      rw [if_pos rfl] at hn
      exact ⟨k, hn, by simp, by simp [Gh.ren], by simp [Gh.ren], by simp [Gh.ren], by simp⟩
    · rw [if_neg e] at hn
      by_cases e2 : n = k
      · rw [if_pos e2] at hn; exact hn.elim
      · rw [if_neg e2] at hn
        exact ⟨n, hn, by simp [e2], by simp [Gh.ren, e], by simp [Gh.ren, e], by simp [Gh.ren, e], by simp [e, e2]⟩
  refine ⟨H.W, ⟨fun n hn _ => ?_, fun n m hn _ hm _ hnm j hj1 hj2 => ?_, fun n hn _ j hj => ?_, fun n b hf => ?_⟩, fun _ _ _ => id, fun t => ?_, by show PI st.l; exact H.l, by show (renM k k' st.m).length = _; rw [renM_len]; exact H.m⟩
  · obtain ⟨n0, h1, h2, h3, h4, h5, h6⟩ := old n hn
    obtain ⟨b, hb, hbr⟩ := H.B.rel n0 h1 id
    refine ⟨renB k k' b, by rw [h6, hb]; rfl, ?_⟩
    cases b with
    | row e sz xs =>
      show RowX w e sz ((G.ren k k').φ n) xs ((G.ren k k').hv n) ∧ _
      rw [h4, h5]; exact hbr
    | box cs =>
      obtain ⟨cur, e, r1, r2, r3, r4, r5⟩ := hbr
      refine ⟨cur, e, by rw [h3]; exact r1, by rw [h3, h5]; exact r2, by rw [h3, renCs_len]; exact r3, by rw [h3, renCs_len]; exact r4, fun j x hj => ?_⟩
      rw [renCs_get, Option.map_eq_some_iff] at hj
      obtain ⟨y, hy, rfl⟩ := hj
      obtain ⟨u, k1, k2, k3⟩ := r5 j y hy
      exact ⟨u, by rw [h3]; exact k1, k2, crel_ren hne hlv hk' k3⟩
  · obtain ⟨n0, h1, h2, _, _, h5, _⟩ := old n hn
    obtain ⟨m0, g1, g2, _, _, g5, _⟩ := old m hm
    rw [h5] at hj1; rw [g5] at hj2
    exact H.B.disj n0 m0 h1 id g1 id (fun e => hnm (by rw [h2, g2, e])) j hj1 hj2
  · obtain ⟨n0, h1, _, _, _, h5, _⟩ := old n hn
    rw [h5] at hj
    exact H.B.mine n0 h1 id j hj
  · obtain ⟨h1, h2, h3⟩ := H.B.fix n b hf
    obtain ⟨cs, hc⟩ := h3 id
    obtain ⟨e, sz, xs, hrow⟩ := hk
    have e1 : n ≠ k := fun e => by subst e; rw [hrow] at hc; cases hc
    have e2 := hlv n h1
    exact ⟨by simp [Gh.ren, e1, e2, h1], by simp [Gh.ren, e2, h2], fun _ => ⟨renCs k k' cs, by rw [hh]; simp [e1, e2, hc, renB]⟩⟩
  · have hx := H.slots t
    unfold SlotR at hx ⊢
    rw [hl] at hx
    rw [show (ren k k' st).l = [] from hl]
    simp only [lk] at hx ⊢
    rw [show (ren k k' st).m = renM k k' st.m from rfl, lkm_renM]
    exact vrel_ren hne hlv hk' hx
end
theorem canonC_inv (n : Nat) : ∀ (cs : List SV) (j : Nat) (sn : List Nat) (st : St) (G : Gh), Inv C R G st a w → st.l = [] → ∃ G', Inv C R G' (canonC n j cs sn st).1 a w ∧ (canonC n j cs sn st).1.l = []
  | [], j, sn, st, G, H, hl => ⟨G, H, hl⟩
  | c :: cs, j, sn, st, G, H, hl => by
    cases c with
    | own k =>
      simp only [canonC]
      split
      · exact canonC_inv n cs (j + 1) sn st G H hl
      · split
        · exact canonC_inv n cs (j + 1) _ st G H hl
        · rename_i hne
          split
          · rename_i e sz xs h1 h2
            exact canonC_inv n cs (j + 1) _ _ _ (ren_inv H hl ⟨e, sz, xs, h1⟩ h2 hne) hl
          · exact canonC_inv n cs (j + 1) _ st G H hl
    | _ => exact canonC_inv n cs (j + 1) sn st G H hl
theorem canonH_inv : ∀ (h : List (Nat × Blk)) (sn : List Nat) (st : St) (G : Gh), Inv C R G st a w → st.l = [] → ∃ G', Inv C R G' (canonH h sn st) a w ∧ (canonH h sn st).l = []
  | [], sn, st, G, H, hl => ⟨G, H, hl⟩
  | (n, b) :: r, sn, st, G, H, hl => by
    cases b with
    | row e sz xs => exact canonH_inv r sn st G H hl
    | box cs =>
      obtain ⟨G1, H1, hl1⟩ := canonC_inv n cs 0 sn st G H hl
      exact canonH_inv r _ _ G1 H1 hl1
theorem canon_after {n : Nat} {p : List Nat} {a0 : Act} (H : After C R n p a0 st a w) : After C R n p a0 (canonS st) a w := by
  obtain ⟨G, H1, hl, hs, hd⟩ := H
  obtain ⟨G', H2, hl2⟩ := canonH_inv st.h [] st G H1 hl
  exact ⟨G', H2, hl2, hs, hd⟩
theorem row_none {w : World} {e sz : Nat} : RowX w e sz (fun _ => False) [] (.slice none 0 0) := .inl (.inl ⟨rfl, rfl⟩)
theorem eok_of {P : Program} {e sz : Nat} (h : eokB P e sz = true) : EOk P e sz := by
  unfold eokB at h
  rw [Bool.and_eq_true] at h
  obtain ⟨h1, h2⟩ := h
  rw [Bool.or_eq_true] at h1
  rcases h1 with h1 | h1
  · exact ⟨.inl (by simpa using h1), by simpa using h2⟩
  split at h1
  · rename_i i hi; exact ⟨.inr ⟨i, hi, by simpa using h1⟩, by simpa using h2⟩
  · cases h1
theorem wake_row {C : Ctx} {R : Rt} {G : Gh} {st : St} {a : Act} {w : World} {m e sz : Nat} (H : Inv C R G st a w) (hm : hlk st.h m = none) (hE : EOk C.P e sz) : Inv C R (G.add m (0, 0) (.slice none 0 0) (fun _ => False)) { st with h := st.h ++ [(m, .row e sz [])] } a w :=
  add_inv H hm id (fun k hk => hk.elim) (fun k m hk => hk.elim) ⟨by simpa [Gh.add] using row_none, hE.1, hE.2, fun k lo hi hk => by simp [Gh.add] at hk⟩
/-- A variable that is not there may be listed in any way. -/
theorem dead_box {C : Ctx} {R : Rt} {G : Gh} {st : St} {a : Act} {w : World} {n : Nat} {cs cs' : List SV} (H : Inv C R G st a w) (hl : ¬ G.live n) (hb : hlk st.h n = some (.box cs)) : Inv C R G { st with h := hset st.h n (.box cs') } a w := by
  have hs := same_hset (G := G) (cs' := cs') hb
  refine ⟨H.W, ⟨fun k hk _ => ?_, fun k m hk _ hm _ => H.B.disj k m hk id hm id, fun k hk _ => H.B.mine k hk id, fun k b' hf => ?_⟩, fun _ _ _ => id, fun t => slot_same hs (H.slots t), H.l, H.m⟩
  · obtain ⟨b, h1, h2⟩ := H.B.rel k hk id
    have hkn : ¬ k = n := fun e => hl (e ▸ hk)
    exact ⟨b, by simp [hlk_hset, hkn, h1], brel_same hs rfl rfl rfl h2⟩
  · obtain ⟨h1, h2, h3⟩ := H.B.fix k b' hf
    have hkn : ¬ k = n := fun e => hl (e ▸ h1)
    obtain ⟨ds, hc⟩ := h3 id
    exact ⟨h1, h2, fun _ => ⟨ds, by simp [hlk_hset, hkn, hc]⟩⟩
theorem wakeB_inv {C : Ctx} {R : Rt} {G : Gh} {st : St} {a : Act} {w : World} (n j e sz : Nat) (H : Inv C R G st a w) (hl : st.l = []) : ∃ G', Inv C R G' (wakeB C n j e sz st) a w ∧ (wakeB C n j e sz st).l = [] := by
  unfold wakeB
  split
  · rename_i cs hb hm
    split
    · rename_i hc
      split
      · rename_i hE
        have H1 := wake_row H hm (eok_of hE)
        have hne : ¬ nm n (j + 1) = n := fun e => by rw [e, hb] at hm; cases hm
        have hb1 : hlk (st.h ++ [(nm n (j + 1), .row e sz [])]) n = some (.box cs) := by rw [hlk_snoc, hb]
        rw [nth?_eq] at hc
        have hj : j + 1 ≤ cs.length := by have := (List.getElem?_eq_some_iff.1 hc).1; omega
        have hsr := setRange_get cs j [.own (nm n (j + 1))] hj
        by_cases hlv : (G.add (nm n (j + 1)) (0, 0) (.slice none 0 0) (fun _ => False)).live n
        · obtain ⟨b, hb2, hbr⟩ := H1.B.rel n hlv id
          rw [show ({ st with h := st.h ++ [(nm n (j + 1), .row e sz [])] } : St).h = st.h ++ [(nm n (j + 1), .row e sz [])] from rfl, hb1] at hb2
          cases hb2
          obtain ⟨cur, e', r1, r2, r3, r4, r5⟩ := hbr
          refine ⟨_, (set_box (w' := w) (cur' := cur) H1 hlv hb1 ⟨rfl, rfl, rfl, rfl, r1, r1, rfl, fun _ _ => rfl⟩ hsr.1 (fun _ _ => rfl) (fun i x hx => ?_)).1, hl⟩
          rw [hsr.2] at hx
          by_cases hi : j ≤ i ∧ i < j + [SV.own (nm n (j + 1))].length
          · rw [if_pos hi] at hx
            have : i = j := by simp at hi; omega
            subst this
            simp at hx
            subst hx
            obtain ⟨u, k1, k2, k3⟩ := r5 i _ hc
            exact ⟨u, k1, k2, .inr rfl, by rw [show u = .slice none 0 0 from k3]; simp [Gh.add], k2⟩
          · rw [if_neg hi] at hx
            exact r5 i x hx
        · exact ⟨_, dead_box H1 hlv hb1, hl⟩
      · exact ⟨G, H, hl⟩
    · exact ⟨G, H, hl⟩
  · exact ⟨G, H, hl⟩
theorem wakeT_inv {C : Ctx} {R : Rt} {G : Gh} {st : St} {a : Act} {w : World} (t e sz : Nat) (H : Inv C R G st a w) (hl : st.l = []) : ∃ G', Inv C R G' (wakeT C t e sz st) a w ∧ (wakeT C t e sz st).l = [] := by
  unfold wakeT
  split
  · rename_i hc hm
    split
    · rename_i hE
      rw [Bool.and_eq_true] at hE
      have H1 := wake_row H hm (eok_of hE.2)
      refine ⟨_, ⟨H1.W, H1.B, H1.all, fun u => ?_, H1.l, by rw [← H1.m]; exact stm_len _ _ _ _⟩, hl⟩
      have hx := H1.slots u
      unfold SlotR at hx ⊢
      rw [show ({ st with h := st.h ++ [(nm t 60, .row e sz [])] } : St).l = [] from hl] at hx
      rw [show ({ st with m := stm C.keep st.m t (.own (nm t 60)), h := st.h ++ [(nm t 60, .row e sz [])] } : St).l = [] from hl]
      simp only [lk] at hx ⊢
      rw [lkm_stm hE.1 H.m]
      by_cases hu : u = t
      · subst hu
        rw [if_pos rfl]
        rw [hc] at hx
        exact ⟨.inr rfl, by rw [show a.tmps.getD u undef = .slice none 0 0 from hx]; simp [Gh.add], by rw [show a.tmps.getD u undef = .slice none 0 0 from hx]; rfl⟩
      · rw [if_neg hu]; exact hx
    · exact ⟨G, H, hl⟩
  · exact ⟨G, H, hl⟩
theorem dropR_inv {C : Ctx} {R : Rt} {G : Gh} {st : St} {a : Act} {w : World} (n : Nat) (H : Inv C R G st a w) (hl : st.l = []) : ∃ G', Inv C R G' (dropR n st) a w ∧ (dropR n st).l = [] := by
  unfold dropR
  split
  · rename_i e sz xs hr
    exact ⟨_, give_inv H hr, by show killL n st.l = []; rw [hl]; rfl⟩
  · exact ⟨G, H, hl⟩
theorem wakes_inv {C : Ctx} {R : Rt} {a : Act} {w : World} : ∀ (r : List (Nat × Nat × List Nat)) (st : St) (G : Gh), Inv C R G st a w → st.l = [] → ∃ G', Inv C R G' (wakes C r st) a w ∧ (wakes C r st).l = []
  | [], st, G, H, hl => ⟨G, H, hl⟩
  | (n, j, l) :: r, st, G, H, hl => by
    unfold wakes
    split
    · rename_i h; cases h
    · rename_i h
      cases h
      obtain ⟨G1, H1, hl1⟩ := dropR_inv _ H hl
      exact wakes_inv _ _ G1 H1 hl1
    · rename_i h
      cases h
      obtain ⟨G1, H1, hl1⟩ := wakeB_inv _ _ _ _ H hl
      exact wakes_inv _ _ G1 H1 hl1
    · rename_i h
      cases h
      obtain ⟨G1, H1, hl1⟩ := wakeT_inv _ _ _ H hl
      exact wakes_inv _ _ G1 H1 hl1
    · rename_i h
      cases h
      exact wakes_inv _ _ G H hl
theorem hlk_ins (n : Nat) (b : Blk) (k : Nat) : ∀ (r : List (Nat × Blk)), hlk (insH n b r) k = if n = k then some b else hlk r k
  | [] => rfl
  | (j, x) :: r => by
    simp only [insH]
    split
    · rfl
    · simp only [hlk]
      split
      · rename_i h1 h2; subst h2; rw [if_neg (by omega)]
      · exact hlk_ins n b k r
theorem hlk_sort (k : Nat) : ∀ (h : List (Nat × Blk)), hlk (sortH h) k = hlk h k
  | [] => rfl
  | (n, b) :: r => by simp only [sortH, hlk_ins, hlk, hlk_sort k r]
theorem inv_hlk {C : Ctx} {R : Rt} {G : Gh} {st : St} {a : Act} {w : World} {h' : List (Nat × Blk)} (H : Inv C R G st a w) (e : ∀ n, hlk h' n = hlk st.h n) : Inv C R G ⟨st.m, st.l, h'⟩ a w := by
  have hs : ∀ n, Same G st.h G h' n := fun n hl => ⟨hl, rfl, rfl, fun e' sz xs hx => ⟨xs, by rw [e]; exact hx⟩⟩
  refine ⟨H.W, ⟨fun k hk _ => ?_, fun k m hk _ hm _ => H.B.disj k m hk id hm id, fun k hk _ => H.B.mine k hk id, fun k b' hf => ?_⟩, fun _ _ _ => id, fun t => slot_same hs (H.slots t), H.l, H.m⟩
  · obtain ⟨b, h1, h2⟩ := H.B.rel k hk id
    exact ⟨b, by show hlk h' k = _; rw [e, h1], brel_same hs rfl rfl rfl h2⟩
  · obtain ⟨h1, h2, h3⟩ := H.B.fix k b' hf
    obtain ⟨ds, hc⟩ := h3 id
    exact ⟨h1, h2, fun _ => ⟨ds, by show hlk h' k = _; rw [e, hc]⟩⟩
theorem end_after {C : Ctx} {R : Rt} {a : Act} {w : World} {st : St} {n : Nat} {p : List Nat} {a0 : Act} (i : Nat) (H : After C R n p a0 st a w) : After C R n p a0 (endS C i st) a w := by
  obtain ⟨G, H1, hl, hs, hd⟩ := canon_after H
  obtain ⟨G', H2, hl2⟩ := wakes_inv _ _ G H1 hl
  exact ⟨G', inv_hlk H2 (fun n => hlk_sort n _), hl2, hs, hd⟩
theorem mem_names : ∀ {h : List (Nat × Blk)} {n : Nat} {b : Blk}, hlk h n = some b → n ∈ names h
  | [], n, b, h => by cases h
  | (k, x) :: r, n, b, h => by
    simp only [hlk] at h
    simp only [names, List.mem_cons]
    split at h
    · rename_i e; exact .inl e.symm
    · exact .inr (mem_names h)

theorem den_sound (hC : CtxOk C) (n : Nat) (p : List Nat) (a0 : Act) (k : Nat) : ∀ (c : Code) (st st' : St) (ex : Ex) (a : Act) (w : World) (Q : Exit → Act → World → Prop), den C k c st = some (ex, st') → After C R n p a0 st a w → chkCode C.ord n p c = true → (∀ a' w', After C R n p a0 st' a' w' → Q (exOf ex) a' w') → c.wp C.P Q a w := by
  intro c
  induction c with
  | skip => intro st st' ex a w Q h H _ hQ; simp only [den] at h; cases h; exact wp_skip (hQ a w H)
  | exit i => intro st st' ex a w Q h H _ hQ; simp only [den] at h; cases h; exact wp_exit (hQ a w H)
  | ret => intro st st' ex a w Q h H _ hQ; simp only [den] at h; cases h; exact wp_ret (hQ a w H)
  | region i ops d =>
    intro st st' ex a w Q h H hc hQ
    cases d with
    | false =>
      simp only [chkCode, Bool.false_eq_true, if_false, Bool.and_eq_true] at hc
      obtain ⟨hc, hlo⟩ := hc
      simp only [den, Bool.false_eq_true, if_false] at h
      rw [Option.map_eq_some_iff] at h
      obtain ⟨st2, h1, h2⟩ := h
      cases h2
      obtain ⟨G, H1, hl, hs, hd⟩ := H
      refine wp_region ?_
      have hlen : ops.size = ops.toList.length := by simp
      rw [List.range_eq_range', hlen]
      exact runReg_sound hC H1 hl (by rw [hs]; exact hc) hlo h1 (fun a' w' G' k1 k2 k3 k4 => hQ a' w' (end_after _ ⟨G', k1, k2, k3.trans hs, hd.trans k4⟩))
    | true =>
      simp only [chkCode, if_true, Bool.and_eq_true] at hc
      obtain ⟨hc, hlo⟩ := hc
      simp only [den, if_true] at h
      rw [Option.map_eq_some_iff] at h
      obtain ⟨st2, h1, h2⟩ := h
      cases h2
      refine wp_region_any hC.mixed ?_
      obtain ⟨G, H1, hl, hs, hd⟩ := H
      exact draw_sound hC ⟨G, inv_ext H1 ⟨rfl, rfl, rfl, Nat.le_refl _, fun _ _ => rfl⟩, hl, hs, hd⟩ hlo hc h1 (fun a' w' hA => hQ a' w' (end_after _ hA))
  | seq x y ihx ihy =>
    intro st st' ex a w Q h H hc hQ
    simp only [chkCode, Bool.and_eq_true] at hc
    simp only [den] at h
    refine wp_seq ?_
    cases hx : den C k x st with
    | none => rw [hx] at h; simp [andThen] at h
    | some r =>
      obtain ⟨e1, st1⟩ := r
      rw [hx] at h
      refine ihx st st1 e1 a w _ hx H hc.1 (fun a' w' H' => ?_)
      cases e1 with
      | normal => exact ihy st1 st' ex a' w' Q h H' hc.2 hQ
      | exit i => simp only [andThen] at h; cases h; exact hQ a' w' H'
      | ret => simp only [andThen] at h; cases h; exact hQ a' w' H'
  | cond c x y ihx ihy =>
    intro st st' ex a w Q h H hc hQ
    simp only [chkCode, Bool.and_eq_true] at hc
    simp only [den] at h
    split at h
    · rename_i b hb
      obtain ⟨G, H1, hl, hs, hd⟩ := H
      have hv : a.eval c = .bool b := vrel_b (H1.evE hb)
      refine wp_cond hv ?_
      cases b with
      | true => exact ihx st st' ex a w Q (by simpa using h) ⟨G, H1, hl, hs, hd⟩ hc.1 hQ
      | false => exact ihy st st' ex a w Q (by simpa using h) ⟨G, H1, hl, hs, hd⟩ hc.2 hQ
    · cases h
  | block i x ih =>
    intro st st' ex a w Q h H hc hQ
    simp only [chkCode] at hc
    simp only [den] at h
    refine wp_block ?_
    cases hx : den C k x st with
    | none => rw [hx] at h; simp [inBlock] at h
    | some r =>
      obtain ⟨e1, st1⟩ := r
      rw [hx] at h
      refine ih st st1 e1 a w _ hx H hc (fun a' w' H' => ?_)
      cases e1 with
      | normal => simp only [inBlock] at h; cases h; exact hQ a' w' H'
      | exit j =>
        simp only [inBlock] at h
        show (if j = i then Q .normal a' w' else Q (.exit j) a' w')
        split at h
        · rename_i e; rw [if_pos e]; cases h; exact hQ a' w' H'
        · rename_i e; rw [if_neg e]; cases h; exact hQ a' w' H'
      | ret => simp only [inBlock] at h; cases h; exact hQ a' w' H'
  | loop x ih =>
    intro st st' ex a w Q h H hc hQ
    simp only [chkCode] at hc
    simp only [den] at h
    refine wp_loop_rounds k ?_
    have hfix : ∀ m b, R.fix m = some b → m ∈ names st.h := fun m b hf => by
      obtain ⟨G, H1, _⟩ := H
      obtain ⟨_, _, h3⟩ := H1.B.fix m b hf
      obtain ⟨cs, hcs⟩ := h3 id
      exact mem_names hcs
    generalize names st.h = ns at h hfix
    have key : ∀ (m : Nat) (st : St) (a : Act) (w : World), iter ns (den C k x) m st = some (ex, st') → After C R n p a0 st a w → Code.rounds C.P x Q m a w := by
      intro m
      induction m with
      | zero => intro st a w h _; simp [iter] at h
      | succ m ihm =>
        intro st a w h H
        simp only [iter] at h
        rw [rounds_succ]
        cases hx : den C k x st with
        | none => rw [hx] at h; cases h
        | some r =>
          obtain ⟨e1, st1⟩ := r
          rw [hx] at h
          refine ih st st1 e1 a w _ hx H hc (fun a' w' H' => ?_)
          obtain ⟨G', H1, hl, hs, hd⟩ := H'
          cases e1 with
          | normal => exact ihm (trim ns st1) a' w' h ⟨_, trim_inv H1 hl hfix, rfl, hs, hd⟩
          | exit j => dsimp only at h; cases h; exact hQ a' w' ⟨_, trim_inv H1 hl hfix, rfl, hs, hd⟩
          | ret => dsimp only at h; cases h; exact hQ a' w' ⟨G', H1, hl, hs, hd⟩
    exact key k st a w h H
  | _ => intro st st' ex a w Q h; simp [den] at h
end Go.Den

/- Results. -/
namespace Go.Den
open Go
variable {C : Ctx} {R : Rt} {G G0 G1 : Gh} {st st1 st2 : St} {a : Act} {w w' : World} {o : Oper} {v : SV}

/-- One result's value. -/
def resSem (tmps : Array Value) : ResultVar → Sem Value
  | .tmp t => pure (tmps.getD t undef)
  | .cell a t => do loadVar t (← asAddr (tmps.getD a undef))
def resRun (P : Program) (tmps : Array Value) (w : World) (r : ResultVar) (v : Value) : Prop := (resSem tmps r).run P w = .ok v w
theorem run_mapM_res {P : Program} {tmps : Array Value} : ∀ (rs : List ResultVar) (vs : List Value), rs.length = vs.length → (∀ (j : Nat) r v, rs[j]? = some r → vs[j]? = some v → resRun P tmps w r v) →
    (rs.mapM (resSem tmps)).run P w = .ok vs w
  | [], [], _, _ => by simp
  | r :: rs, v :: vs, hl, h => by
    have h1 := h 0 r v rfl rfl
    have h2 := run_mapM_res rs vs (by simpa using hl) (fun j r v hr hv => h (j + 1) r v (by simpa using hr) (by simpa using hv))
    unfold resRun at h1
    rw [List.mapM_cons]
    simp only [Sem.run_bind]
    rw [h1]
    simp only [Result.andThen_ok]
    rw [h2]
    simp
  | [], _ :: _, hl, _ => by simp at hl
  | _ :: _, [], hl, _ => by simp at hl
theorem results_eq (fn : Func) (tmps : Array Value) : results fn tmps = (do
    let vs ← fn.results.mapM (resSem tmps)
    pure (if h : vs.size = 1 then vs[0] else .tuple vs)) := by
  unfold results
  congr 1
theorem run_results {P : Program} {fn : Func} {tmps : Array Value} {vs : List Value} (hl : fn.results.toList.length = vs.length) (h : ∀ (j : Nat) r v, fn.results.toList[j]? = some r → vs[j]? = some v → resRun P tmps w r v) : (results fn tmps).run P w = .ok (valOf vs) w := by
  have h1 := run_mapM_res (P := P) (w := w) (tmps := tmps) fn.results.toList vs hl h
  rw [results_eq]
  have e : fn.results.mapM (resSem tmps) = List.toArray <$> fn.results.toList.mapM (resSem tmps) := by
    conv => lhs; rw [← Array.toArray_toList (xs := fn.results)]
    rw [List.mapM_toArray]
  rw [e]
  simp only [Sem.run_bind, Sem.run_map, h1, Result.andThen_ok]
  match vs with
  | [] => rfl
  | [v] => rfl
  | u :: v :: vs => simp [valOf]
theorem resV_sound {r : ResultVar} {x : SV} (H : Inv C R G st a w) (h : resV C st r = some x) : ∃ v, resRun C.P a.tmps w r v ∧ VRel R G st.h x v := by
  cases r with
  | tmp t =>
    simp only [resV, Option.some.injEq] at h
    subst h
    exact ⟨a.tmps.getD t undef, by simp [resRun, resSem], gt_rel H.here.good (H.slots t)⟩
  | cell b t =>
    simp only [resV] at h
    have hd := does_load (o := ⟨none, .load t (.tmp b), 0, "", #[], none⟩) (p := []) (x := .tmp b) (t := t) H.here (fun t _ => H.slots t) rfl h
    obtain ⟨val, h1, h2⟩ := hd
    refine ⟨val, ?_, h2⟩
    have hv := H.ev (.tmp b)
    simp only [resRun]
    simp only [execOp] at h1
    have hp : ∃ ad, a.tmps.getD b undef = .pointer (some ad) := by
      have hv : VRel R G st.h (gt C st [] b) (a.tmps.getD b undef) := gt_rel H.here.good (H.slots b)
      generalize gt C st [] b = sx at h hv
      cases sx <;> simp only [load] at h <;> first | cases h | skip
      · exact ⟨_, hv.2⟩
      · obtain ⟨g, o, e, _⟩ := hv; exact ⟨_, e⟩
    obtain ⟨ad, hp⟩ := hp
    have he : a.eval (.tmp b) = .pointer (some ad) := hp
    rw [he] at h1
    simp only [Sem.run_bind] at h1
    simp only [resSem, hp, asAddr, Sem.run_bind, Sem.run_pure, Result.andThen_ok]
    simp only [Instr.loadAt, Instr.sureAddr, Sem.run_bind, Sem.run_pure, Result.andThen_ok] at h1
    revert h1
    generalize (loadVar t ad).run C.P w = q
    intro h1
    cases q with
    | ok u w1 => simp at h1; rw [h1.1, h1.2]
    | halt x w1 => simp at h1
end Go.Den

/- What a function gives back. -/
namespace Go.Den
open Go
variable {C : Ctx} {R : Rt} {G G0 G1 : Gh} {st st1 st2 : St} {a : Act} {w w' : World} {o : Oper} {v : SV}

theorem scDs_get : ∀ {vs : List SV} {xs : List D}, scDs vs = some xs → xs.length = vs.length ∧ ∀ (j : Nat) x, xs[j]? = some x → vs[j]? = some (.d x) ∧ isSc x = true
  | [], xs, h => by simp [scDs] at h; subst h; simp
  | v :: vs, xs, h => by
    simp only [scDs] at h
    split at h
    · rename_i x ys h1 h2
      cases h
      obtain ⟨h3, h4⟩ := scDs_get h2
      refine ⟨by simp [h3], fun j y hj => ?_⟩
      cases j with
      | zero =>
        simp at hj; subst hj
        cases v <;> simp only [scD] at h1 <;> first | cases h1 | skip
        split at h1
        · rename_i hs; cases h1; exact ⟨rfl, hs⟩
        · cases h1
      | succ j => simpa using h4 j y (by simpa using hj)
    · cases h
theorem resSc_sound : ∀ {vs : List SV} {rs : List DV} {rv : List Value}, resSc vs = some rs → ValsAt R G st.h vs rv → ScsK R rs rv
  | [], rs, rv, h, hv => by
    simp only [resSc, Option.some.injEq] at h
    subst h
    have : rv = [] := List.eq_nil_of_length_eq_zero (by simpa using hv.1)
    subst this
    trivial
  | v :: vs, rs, rv, h, hv => by
    obtain ⟨u, rv', rfl, h1, hv'⟩ := hv.tail
    simp only [resSc] at h
    split at h
    · rename_i xs hxs
      split at h
      · rename_i x r hx hr
        cases h
        obtain ⟨h2, h3⟩ := scDs_get hxs
        refine ⟨?_, resSc_sound hr hv'⟩
        by_cases hag : ∃ cs, v = .agg cs
        · obtain ⟨cs, rfl⟩ := hag
          obtain ⟨us, e1, e2, e3⟩ := h1
          simp only [dvOf, Option.some.injEq] at hx
          subst hx
          refine ⟨us, e1, by rw [e2, h2]; rfl, fun j d hj => ?_⟩
          obtain ⟨k1, k2⟩ := h3 j d hj
          obtain ⟨q, q1, q2, q3⟩ := e3 j _ k1
          exact ⟨k2, q, q1, q3⟩
        · have hc : ∃ d, x = .one d ∧ xs = [d] := by
            cases v <;> first | exact absurd ⟨_, rfl⟩ hag | (simp [dvOf] at hx; done) | skip
            all_goals
              match xs, hx with
              | [d], hx => simp only [dvOf, Option.some.injEq] at hx; exact ⟨d, hx.symm, rfl⟩
          obtain ⟨d, rfl, rfl⟩ := hc
          obtain ⟨k1, k2⟩ := h3 0 d rfl
          have hv : v = .d d := by
            cases v <;> first | exact absurd ⟨_, rfl⟩ hag | (simp [cellsOf] at k1; done) | (simp [cellsOf] at k1; rw [k1])
          subst hv
          exact ⟨k2, h1⟩
      · cases h
    · cases h

/-- What was given back, one value after the other. -/
theorem resFr_sound {h0 : List (Nat × Blk)} : ∀ (kss : List (List (Option (Nat × Nat)))) (vs : List SV) (rv : List Value) (st : St) (G : Gh) (rs : List DV) (st' : St), Inv C R G st a w → Gle G G0 → Has G0 h0 G st.h → (∀ ks ∈ kss, KOk C.P ks) → ValsAt R G0 h0 vs rv → resFr st kss vs = some (rs, st') →
    ∃ G' Ξ, Inv C R G' st' a w ∧ Gle G' G ∧ Has G0 h0 G' st'.h ∧ RetsK C.P R w kss rs rv Ξ ∧ (∀ i j k, Ξ i j k → k < w.heap.size ∧ (R.L k ∨ R.w0.heap.size ≤ k) ∧ ∀ lo hi, ¬ R.LB k lo hi) ∧ Apart3 Ξ ∧ (∀ i j k, Ξ i j k → ∃ n, G.live n ∧ G.φ n k) ∧ (∀ i j k n, Ξ i j k → G'.live n → G'.φ n k → False)
  | [], vs, rv, st, G, rs, st', H, hG, hH, hk, hv, h => by
    cases vs with
    | cons v vs => simp [resFr] at h
    | nil =>
      simp only [resFr, Option.some.injEq, Prod.mk.injEq] at h
      obtain ⟨rfl, rfl⟩ := h
      have : rv = [] := List.eq_nil_of_length_eq_zero (by simpa using hv.1)
      subst this
      exact ⟨G, fun _ _ _ => False, H, Gle.refl G, hH, trivial, fun _ _ _ h => h.elim, fun _ _ _ _ _ h => h.elim, fun _ _ _ h => h.elim, fun _ _ _ _ h => h.elim⟩
  | ks :: kss, vs, rv, st, G, rs, st', H, hG, hH, hk, hv, h => by
    cases vs with
    | nil => simp [resFr] at h
    | cons v vs =>
      obtain ⟨u, rv', rfl, h1, hv'⟩ := hv.tail
      simp only [resFr] at h
      split at h
      · rename_i xs st1 hgive
        split at h
        · rename_i x r st2 hx hr
          cases h
          unfold giveK at hgive
          split at hgive
          · rename_i ys st3 htk
            split at hgive
            · rename_i hsc
              cases hgive
              have hok := takeK_ok htk
              obtain ⟨c1, c2⟩ := cells_ok h1 hok
              obtain ⟨G1, θ, i1, i2, i8, i3, i4, i5, i6, i7, i9, i10, i11⟩ := takeK_sound ks (cellsOf v) u.cells.toList st G xs st1 H hG hH (fun e sz hm => hk ks (by simp) e sz hm) ⟨by simpa using c1, fun j y hj => by obtain ⟨q, k1, k2, k3⟩ := c2 j y hj; exact ⟨q, by simpa using k1, k2, k3⟩⟩ htk
              obtain ⟨G', Ξ, j1, j2, j3, j4, j5, j6, j7, j8⟩ := resFr_sound kss vs rv' st1 G1 r st' i1 (i2.trans hG) i8 (fun ks' hm => hk ks' (by simp [hm])) hv' hr
              refine ⟨G', consT θ Ξ, j1, j2.trans i2, j3, ⟨?_, j4⟩, fun i j k hh => ?_, fun i j i' j' k hh hh' => ?_, fun i j k hh => ?_, fun i j k n hh hn hφ => ?_⟩
              · by_cases hag : ∃ cs, v = .agg cs
                · obtain ⟨cs, rfl⟩ := hag
                  obtain ⟨us, rfl, _⟩ := agg_cells h1
                  simp only [dvOf, Option.some.injEq] at hx
                  subst hx
                  have i3' : KC C.P R w ks xs us θ := by simpa [Value.cells] using i3
                  exact ⟨⟨us, rfl, i3'⟩, hsc⟩
                · have hna : ∀ cs, v ≠ .agg cs := fun cs e => hag ⟨cs, e⟩
                  obtain ⟨o1, o2⟩ := vrel_one h1 hok hna
                  rw [one_cells o1] at i3
                  have hc : ∃ d, x = .one d ∧ xs = [d] := by
                    cases v <;> first | exact absurd rfl (hna _) | (simp [dvOf] at hx; done) | skip
                    all_goals
                      match xs, hx with
                      | [d], hx => simp only [dvOf, Option.some.injEq] at hx; exact ⟨d, hx.symm, rfl⟩
                  obtain ⟨d, rfl, rfl⟩ := hc
                  exact ⟨i3, hsc⟩
              · cases i with
                | zero => exact i4 j k hh
                | succ i => exact j5 i j k hh
              · have cross : ∀ {i j j' : Nat}, θ j k → Ξ i j' k → False := fun e1 e2 => by
                  obtain ⟨n, n1, n2⟩ := j7 _ _ _ e2
                  exact i7 _ k n e1 n1 id n2
                cases i with
                | zero =>
                  cases i' with
                  | zero => exact ⟨rfl, i5 j j' k hh hh'⟩
                  | succ i' => exact (cross hh hh').elim
                | succ i =>
                  cases i' with
                  | zero => exact (cross hh' hh).elim
                  | succ i' => obtain ⟨e1, e2⟩ := j6 i j i' j' k hh hh'; exact ⟨by omega, e2⟩
              · cases i with
                | zero => obtain ⟨n, n1, n2⟩ := i6 j k hh; exact ⟨n, n1.1, n2⟩
                | succ i => obtain ⟨n, n1, n2⟩ := j7 i j k hh; exact ⟨n, i2.1 n n1, by rw [← i2.2.2.2]; exact n2⟩
              · cases i with
                | zero => exact i7 j k n hh (j2.1 n hn) id (by rw [← j2.2.2.2]; exact hφ)
                | succ i => exact j8 i j k n hh hn hφ
            · cases hgive
          · cases hgive
        · cases h
      · cases h

/-- The places of the variables that were handed over. -/
def Places (G : Gh) : Nat → List Mode → List Value → Prop
  | s, .ptr _ :: ms, v :: vs => v = .pointer (some ⟨(G.base (nm s 0)).1, (G.base (nm s 0)).2, none⟩) ∧ Places G (s + 1) ms vs
  | s, _ :: ms, _ :: vs => Places G (s + 1) ms vs
  | _, [], [] => True
  | _, _, _ => False
/-- They are fixed. -/
def Fixes (R : Rt) : Nat → List Mode → Prop
  | s, .ptr _ :: ms => (∃ b, R.fix (nm s 0) = some b) ∧ Fixes R (s + 1) ms
  | s, _ :: ms => Fixes R (s + 1) ms
  | _, [] => True
theorem box_phi {n : Nat} {b : Nat × Nat} (H : Inv C R G st a w) (hf : R.fix n = some b) : G.live n ∧ G.φ n (G.base n).1 ∧ ∃ cs, hlk st.h n = some (.box cs) := by
  obtain ⟨h1, _, h3⟩ := H.B.fix n b hf
  obtain ⟨cs, hc⟩ := h3 id
  obtain ⟨b, hb, hbr⟩ := H.B.rel n h1 id
  rw [hc] at hb; cases hb
  obtain ⟨cur, e, r1, r2, _⟩ := hbr
  exact ⟨h1, r2, cs, hc⟩
theorem nm_inj {a b : Nat} (h : nm a 0 = nm b 0) : a = b := by unfold nm at h; omega
theorem places_gle {G' : Gh} (hb : G'.base = G.base) : ∀ (ms : List Mode) (s : Nat) (vs : List Value), Places G s ms vs → Places G' s ms vs
  | [], s, vs, h => by cases vs <;> exact h
  | m :: ms, s, vs, h => by
    cases vs with
    | nil => cases m <;> exact h
    | cons v vs =>
      cases m with
      | ptr ks => exact ⟨by rw [hb]; exact h.1, places_gle hb ms _ vs h.2⟩
      | _ => exact places_gle hb ms _ vs h
theorem outsOf_sound : ∀ (ms : List Mode) (s : Nat) (vs : List Value) (st : St) (G : Gh) (os : List (List D)) (st' : St), Inv C R G st a w → (∀ ks, Mode.ptr ks ∈ ms → KOk C.P ks) → Fixes R s ms → Places G s ms vs → outsOf s st ms = some (os, st') →
    ∃ G' Ω, Inv C R G' st' a w ∧ Gle G' G ∧ OutsK C.P R w ms vs os Ω ∧ (∀ i j k, Ω i j k → k < w.heap.size ∧ (R.L k ∨ R.w0.heap.size ≤ k)) ∧ (∀ i j k, Ω i (j + 1) k → ∀ lo hi, ¬ R.LB k lo hi) ∧ Apart3 Ω ∧ (∀ i j k, Ω i j k → ∃ n, G.live n ∧ G.φ n k) ∧ (∀ i j k n, Ω i (j + 1) k → G'.live n → G'.φ n k → False) ∧ (∀ i k, Ω i 0 k → k = (G.base (nm (s + i) 0)).1 ∧ ∃ b, R.fix (nm (s + i) 0) = some b)
  | [], s, vs, st, G, os, st', H, hk, hf, hp, h => by
    simp only [outsOf, Option.some.injEq, Prod.mk.injEq] at h
    obtain ⟨rfl, rfl⟩ := h
    cases vs with
    | cons v vs => exact hp.elim
    | nil => exact ⟨G, fun _ _ _ => False, H, Gle.refl G, trivial, fun _ _ _ h => h.elim, fun _ _ _ h => h.elim, fun _ _ _ _ _ h => h.elim, fun _ _ _ h => h.elim, fun _ _ _ _ h => h.elim, fun _ _ h => h.elim⟩
  | m :: ms, s, [], st, G, os, st', H, hk, hf, hp, h => by cases m <;> exact hp.elim
  | m :: ms, s, v :: vs, st, G, os, st', H, hk, hf, hp, h => by
    by_cases hpt : ∃ ks, m = .ptr ks
    · obtain ⟨ks, rfl⟩ := hpt
      obtain ⟨⟨b, hfb⟩, hf'⟩ := hf
      obtain ⟨hv, hp'⟩ := hp
      simp only [outsOf] at h
      split at h
      · rename_i cs hcs
        split at h
        · rename_i x st1 htk
          split at h
          · rename_i r st2 hr
            cases h
            obtain ⟨hl, _, _⟩ := box_phi H hfb
            obtain ⟨bb, hb', hbr⟩ := H.B.rel _ hl id
            rw [hcs] at hb'; cases hb'
            obtain ⟨cur, e, r1, r2, r3, r4, r5⟩ := hbr
            have hus : CellsAt R G st.h cs ((cur.toList.drop (G.base (nm s 0)).2).take cs.length) := by
              refine ⟨by simp; omega, fun j y hj => ?_⟩
              have hjl : j < cs.length := (List.getElem?_eq_some_iff.1 hj).1
              obtain ⟨q, k2, k3, k4⟩ := r5 j y hj
              refine ⟨q, ?_, k3, k4⟩
              rw [List.getElem?_take, if_pos hjl, List.getElem?_drop]
              simpa using k2
            obtain ⟨G1, θ, i1, i2, i8, i3, i4, i5, i6, i7, i9, i10, i11⟩ := takeK_sound (G0 := G) (h0 := st.h) ks cs _ st G x st1 H (Gle.refl G) (Has.refl _ _) (fun e sz hm => hk ks (by simp) e sz hm) hus htk
            obtain ⟨G', Ω, j1, j2, j3, j4, j5, j6, j7, j8, j9⟩ := outsOf_sound ms (s + 1) vs st1 G1 r st' i1 (fun ks' hm => hk ks' (by simp [hm])) hf' (places_gle i2.2.1 ms _ vs hp') hr
            have hxl : x.length = cs.length := by rw [← i3.2.1, hus.1]
            obtain ⟨hl1, hφ1, _⟩ := box_phi i1 hfb
            have hb1 : (G1.base (nm s 0)).1 = (G.base (nm s 0)).1 := by rw [i2.2.1]
            refine ⟨G', consT (behind θ (· = (G.base (nm s 0)).1)) Ω, j1, j2.trans i2, ⟨⟨_, _, cur, e, _, hv, r1, rfl, by rw [hxl]; exact r4, fun j u hj => ?_, i3⟩, j3⟩, fun i j k hh => ?_, fun i j k hh => ?_, fun i j i' j' k hh hh' => ?_, fun i j k hh => ?_, fun i j k n hh hn hφ => ?_, fun i k hh => ?_⟩
            · rw [List.getElem?_take] at hj
              split at hj
              · rw [List.getElem?_drop] at hj; simpa using hj
              · cases hj
            · cases i with
              | zero =>
                cases j with
                | zero => rw [show k = (G.base (nm s 0)).1 from hh]; exact H.B.mine _ hl id _ r2
                | succ j => exact ⟨(i4 j k hh).1, (i4 j k hh).2.1⟩
              | succ i => exact j4 i j k hh
            · cases i with
              | zero => exact (i4 j k hh).2.2
              | succ i => exact j5 i j k hh
            · have boxrow : ∀ {j : Nat}, k = (G.base (nm s 0)).1 → θ j k → False := fun e1 e2 => i7 _ k (nm s 0) e2 hl1 id (by rw [e1, ← hb1]; exact hφ1)
              have cross : ∀ {j i j' : Nat}, behind θ (· = (G.base (nm s 0)).1) j k → Ω i j' k → False := fun {j i j'} e1 e2 => by
                cases j with
                | succ j =>
                  obtain ⟨n, n1, n2⟩ := j7 _ _ _ e2
                  exact i7 j k n e1 n1 id n2
                | zero =>
                  have e1' : k = (G.base (nm s 0)).1 := e1
                  cases j' with
                  | succ j' =>
                    obtain ⟨hl2, hφ2, _⟩ := box_phi j1 hfb
                    refine j8 i j' k (nm s 0) e2 hl2 ?_
                    rw [e1', ← hb1, ← j2.2.1]; exact hφ2
                  | zero =>
                    obtain ⟨q1, b', q2⟩ := j9 i k e2
                    obtain ⟨hl3, hφ3, _⟩ := box_phi i1 q2
                    refine i1.B.disj (nm s 0) (nm (s + 1 + i) 0) hl1 id hl3 id (fun e => by have := nm_inj e; omega) k ?_ ?_
                    · rw [e1', ← hb1]; exact hφ1
                    · rw [q1]; exact hφ3
              cases i with
              | zero =>
                cases i' with
                | zero =>
                  cases j with
                  | zero =>
                    cases j' with
                    | zero => exact ⟨rfl, rfl⟩
                    | succ j' => exact (boxrow hh hh').elim
                  | succ j =>
                    cases j' with
                    | zero => exact (boxrow hh' hh).elim
                    | succ j' => exact ⟨rfl, by rw [i5 j j' k hh hh']⟩
                | succ i' => exact (cross hh hh').elim
              | succ i =>
                cases i' with
                | zero => exact (cross hh' hh).elim
                | succ i' => obtain ⟨e1, e2⟩ := j6 i j i' j' k hh hh'; exact ⟨by omega, e2⟩
            · cases i with
              | zero =>
                cases j with
                | zero => exact ⟨nm s 0, hl, by rw [show k = (G.base (nm s 0)).1 from hh]; exact r2⟩
                | succ j => obtain ⟨n, n1, n2⟩ := i6 j k hh; exact ⟨n, n1.1, n2⟩
              | succ i => obtain ⟨n, n1, n2⟩ := j7 i j k hh; exact ⟨n, i2.1 n n1, by rw [← i2.2.2.2]; exact n2⟩
            · cases i with
              | zero => exact i7 j k n hh (j2.1 n hn) id (by rw [← j2.2.2.2]; exact hφ)
              | succ i => exact j8 i j k n hh hn hφ
            · cases i with
              | zero => exact ⟨hh, b, hfb⟩
              | succ i =>
                obtain ⟨q1, q2⟩ := j9 i k hh
                rw [show s + (i + 1) = s + 1 + i by omega]
                exact ⟨by rw [q1, i2.2.1], q2⟩
          · cases h
        · cases h
      · cases h
    · have hio : ¬ ∃ ks, m = .io ks := fun ⟨ks, e⟩ => by subst e; simp [outsOf] at h
      have hf' : Fixes R (s + 1) ms := by cases m <;> first | exact absurd ⟨_, rfl⟩ hpt | exact hf
      have hp' : Places G (s + 1) ms vs := by cases m <;> first | exact absurd ⟨_, rfl⟩ hpt | exact hp
      have h' : outsOf (s + 1) st ms = some (os, st') := by cases m <;> first | exact absurd ⟨_, rfl⟩ hpt | exact absurd ⟨_, rfl⟩ hio | (simpa [outsOf] using h)
      obtain ⟨G', Ω, j1, j2, j3, j4, j5, j6, j7, j8, j9⟩ := outsOf_sound ms (s + 1) vs st G os st' H (fun ks' hm => hk ks' (by simp [hm])) hf' hp' h'
      have hO : OutsK C.P R w (m :: ms) (v :: vs) os (consT (fun _ _ => False) Ω) := by cases m <;> first | exact absurd ⟨_, rfl⟩ hpt | exact absurd ⟨_, rfl⟩ hio | (cases os <;> exact j3)
      refine ⟨G', consT (fun _ _ => False) Ω, j1, j2, hO, fun i j k hh => ?_, fun i j k hh => ?_, fun i j i' j' k hh hh' => ?_, fun i j k hh => ?_, fun i j k n hh => ?_, fun i k hh => ?_⟩
      · cases i with | zero => exact hh.elim | succ i => exact j4 i j k hh
      · cases i with | zero => exact hh.elim | succ i => exact j5 i j k hh
      · cases i with
        | zero => exact hh.elim
        | succ i => cases i' with | zero => exact hh'.elim | succ i' => obtain ⟨e1, e2⟩ := j6 i j i' j' k hh hh'; exact ⟨by omega, e2⟩
      · cases i with | zero => exact hh.elim | succ i => exact j7 i j k hh
      · cases i with | zero => exact hh.elim | succ i => exact j8 i j k n hh
      · cases i with
        | zero => exact hh.elim
        | succ i =>
          rw [show s + (i + 1) = s + 1 + i by omega]
          exact j9 i k hh
end Go.Den

/- A function: what it is handed, what it gives back. -/
namespace Go.Den
open Go
variable {C : Ctx} {R : Rt} {G G0 G1 : Gh} {st st1 st2 : St} {a : Act} {w w' : World} {o : Oper} {v : SV}

theorem adds_keep : ∀ {xs : List (Nat × Blk)} {st st1 : St}, adds st xs = some st1 → (∀ n b, hlk st.h n = some b → hlk st1.h n = some b) ∧ st1.m = st.m ∧ st1.l = st.l
  | [], st, st1, h => by simp [adds] at h; subst h; exact ⟨fun _ _ h => h, rfl, rfl⟩
  | (k, x) :: r, st, st1, h => by
    simp only [adds] at h
    split at h
    · cases h
    · obtain ⟨h1, h2, h3⟩ := adds_keep h
      exact ⟨fun n b hb => h1 n b (by show hlk (st.h ++ [(k, x)]) n = _; rw [hlk_snoc, hb]), h2, h3⟩
/-- The variables that were handed over are there. -/
def Born (G : Gh) (h : List (Nat × Blk)) : Nat → List Mode → Prop
  | s, .ptr _ :: ms => (G.live (nm s 0) ∧ ∃ cs, hlk h (nm s 0) = some (.box cs)) ∧ Born G h (s + 1) ms
  | s, _ :: ms => Born G h (s + 1) ms
  | _, [] => True
theorem init_sound (hw : w = R.w0) : ∀ (ms : List Mode) (s : Nat) (xs : List DV) (vs : List Value) (Θ : Nat → Nat → Nat → Prop) (svs : List SV) (h : List (Nat × Blk)) (st : St) (G : Gh) (st2 : St), initP s ms xs = some (svs, h) → ArgsK C.P R ms xs vs Θ → Inv C R G st a w →
    (∀ i j k, Θ i j k → k < w.heap.size ∧ R.L k) → (∀ i j k, Θ i (j + 1) k → ∀ lo hi, ¬ R.LB k lo hi) → Apart3 Θ → (∀ i j k n, Θ i j k → G.live n → G.φ n k → False) → adds st h = some st2 →
    ∃ G2, Inv C R G2 st2 a w ∧ (∀ n, Same G st.h G2 st2.h n) ∧ ValsAt R G2 st2.h svs vs ∧ Places G2 s ms vs ∧ Born G2 st2.h s ms := by
  subst hw
  intro ms
  induction ms with
  | nil =>
    intro s xs vs Θ svs h st G st2 hi hA H hm hlb hap hsep ha
    cases xs with
    | cons x xs => simp [initP] at hi
    | nil =>
      cases vs with
      | cons v vs => exact hA.elim
      | nil =>
        simp only [initP, Option.some.injEq, Prod.mk.injEq] at hi
        obtain ⟨rfl, rfl⟩ := hi
        simp only [adds, Option.some.injEq] at ha
        subst ha
        exact ⟨G, H, Same.refl G st.h, ⟨rfl, fun j x hj => by simp at hj⟩, trivial, trivial⟩
  | cons m ms ih =>
    intro s xs vs Θ svs h st G st2 hi hA H hm hlb hap hsep ha
    cases xs with
    | nil => cases m <;> simp [initP] at hi
    | cons x xs =>
      cases vs with
      | nil => exact hA.elim
      | cons v vs =>
        obtain ⟨hA1, hA2⟩ := hA
        have apt : Apart3 fun i => Θ (i + 1) := fun i j i' j' k h1 h2 => by obtain ⟨e1, e2⟩ := hap _ _ _ _ _ h1 h2; exact ⟨by omega, e2⟩
        -- the others, behind the first
        have tail : ∀ {st1 : St} {G1 : Gh} {sx : SV} {svs' : List SV} {h' : List (Nat × Blk)}, initP (s + 1) ms xs = some (svs', h') → Inv C R G1 st1 a R.w0 → (∀ n, Same G st.h G1 st1.h n) → VRel R G1 st1.h sx v → (∀ i j k n, Θ (i + 1) j k → G1.live n → G1.φ n k → False) → adds st1 h' = some st2 →
            ∃ G2, Inv C R G2 st2 a R.w0 ∧ (∀ n, Same G st.h G2 st2.h n) ∧ (∀ n, Same G1 st1.h G2 st2.h n) ∧ ValsAt R G2 st2.h (sx :: svs') (v :: vs) ∧ Places G2 (s + 1) ms vs ∧ Born G2 st2.h (s + 1) ms := by
          intro st1 G1 sx svs' h' hi' H1 hS hv hsep1 ha'
          obtain ⟨G2, j1, j2, j3, j4, j5⟩ := ih (s + 1) xs vs (fun i => Θ (i + 1)) svs' h' st1 G1 st2 hi' hA2 H1 (fun i j k => hm (i + 1) j k) (fun i j k => hlb (i + 1) j k) apt hsep1 ha'
          refine ⟨G2, j1, fun n => (hS n).trans (j2 n), j2, ⟨by simp [j3.1], fun j y hj => ?_⟩, j4, j5⟩
          cases j with
          | zero => simp at hj; subst hj; exact ⟨v, rfl, vrel_same j2 hv⟩
          | succ j => simpa using j3.2 j y (by simpa using hj)
        have sepR : ∀ i j k n, Θ (i + 1) j k → G.live n → G.φ n k → False := fun i j k n => hsep (i + 1) j k n
        -- cells laid down first
        have laid : ∀ {ks : List (Option (Nat × Nat))} {ds : List D} {us : List Value} {c : List SV} {d : List (Nat × Blk)} {stA : St}, layK (nmsF s 1 ks.length) ks ds = some (c, d) → KC C.P R R.w0 ks ds us (fun j => Θ 0 (j + 1)) → adds st d = some stA →
            ∃ GA, Inv C R GA stA a R.w0 ∧ (∀ n, Same G st.h GA stA.h n) ∧ CellsAt R GA stA.h c us ∧ (∀ i j k n, Θ (i + 1) j k → GA.live n → GA.φ n k → False) ∧ ∀ k n, Θ 0 0 k → GA.live n → GA.φ n k → False := by
          intro ks ds us c d stA hl hk hd
          obtain ⟨GA, i1, i2, i3, i4, i5, i6⟩ := lay_sound _ ks ds us (fun j => Θ 0 (j + 1)) c d G st stA hl H hk (fun j k h => ⟨(hm 0 (j + 1) k h).1, .inl (hm 0 (j + 1) k h).2, hlb 0 j k h⟩) (fun i j k h1 h2 => by have := (hap _ _ _ _ _ h1 h2).2; omega) (fun j k n h h2 _ h3 => hsep 0 (j + 1) k n h h2 h3) (fun _ _ => id) hd
          refine ⟨GA, i1, i2, i3, fun i j k n hh hn hφ => ?_, fun k n hh hn hφ => ?_⟩
          · rcases i5 n k hn hφ with ⟨h1, h2⟩ | ⟨j', hj'⟩
            · exact hsep (i + 1) j k n hh h1 h2
            · have := (hap _ _ _ _ _ hh hj').1; omega
          · rcases i5 n k hn hφ with ⟨h1, h2⟩ | ⟨j', hj'⟩
            · exact hsep 0 0 k n hh h1 h2
            · have := (hap _ _ _ _ _ hh hj').2; omega
        cases m with
        | bor =>
          cases x with
          | ptr ds => exact hA1.elim
          | one d =>
            simp only [initP] at hi
            split at hi
            · rename_i svs' h' hi'
              cases hi
              obtain ⟨G2, j1, j2, _, j3, j4, j5⟩ := tail (sx := .d d) hi' H (Same.refl G st.h) hA1 sepR ha
              exact ⟨G2, j1, j2, j3, j4, j5⟩
            · cases hi
          | agg ds =>
            simp only [initP] at hi
            split at hi
            · rename_i svs' h' hi'
              cases hi
              obtain ⟨us, e1, e2, e3⟩ := hA1
              obtain ⟨G2, j1, j2, _, j3, j4, j5⟩ := tail (sx := .agg (ds.map .d)) hi' H (Same.refl G st.h) ⟨us, e1, by simp [e2], fun j y hj => by
                rw [List.getElem?_map, Option.map_eq_some_iff] at hj
                obtain ⟨d, hd, rfl⟩ := hj
                obtain ⟨u, k1, k2⟩ := e3 j d hd
                exact ⟨u, k1, k2.one, k2⟩⟩ sepR ha
              exact ⟨G2, j1, j2, j3, j4, j5⟩
            · cases hi
        | rptr sz =>
          cases x with
          | one d => exact hA1.elim
          | agg d => exact hA1.elim
          | ptr ds =>
            simp only [initP] at hi
            split at hi
            · split at hi
              · rename_i svs' h' hi'
                cases hi
                obtain ⟨G2, j1, j2, _, j3, j4, j5⟩ := tail (sx := .pv ds 0) hi' H (Same.refl G st.h) hA1.2 sepR ha
                exact ⟨G2, j1, j2, j3, j4, j5⟩
              · cases hi
            · cases hi
        | fnp f sz =>
          cases x with
          | one d => exact hA1.elim
          | agg d => exact hA1.elim
          | ptr ds =>
            simp only [initP] at hi
            split at hi
            · split at hi
              · rename_i svs' h' hi'
                cases hi
                obtain ⟨G2, j1, j2, _, j3, j4, j5⟩ := tail (sx := .fb f ds) hi' H (Same.refl G st.h) hA1.2 sepR ha
                exact ⟨G2, j1, j2, j3, j4, j5⟩
              · cases hi
            · cases hi
        | own ks =>
          cases x with
          | ptr ds => simp [initP] at hi
          | one d =>
            simp only [initP] at hi
            split at hi
            · rename_i c dd svs' h' hl hi'
              cases hi
              rw [adds_append] at ha
              split at ha
              · rename_i stA hA'
                obtain ⟨GA, i1, i2, i3, i4, _⟩ := laid hl hA1 hA'
                obtain ⟨q, q1, q2, q3⟩ := i3.2 0 c rfl
                simp at q1; subst q1
                obtain ⟨G2, j1, j2, _, j3, j4, j5⟩ := tail (sx := c) hi' i1 i2 (arel_one q3) i4 ha
                exact ⟨G2, j1, j2, j3, j4, j5⟩
              · cases ha
            · cases hi
          | agg ds =>
            simp only [initP] at hi
            split at hi
            · rename_i c dd svs' h' hl hi'
              cases hi
              obtain ⟨us, rfl, hk⟩ := hA1
              rw [adds_append] at ha
              split at ha
              · rename_i stA hA'
                obtain ⟨GA, i1, i2, i3, i4, _⟩ := laid hl hk hA'
                obtain ⟨G2, j1, j2, _, j3, j4, j5⟩ := tail (sx := .agg c) hi' i1 i2 ⟨us, rfl, i3.1, i3.2⟩ i4 ha
                exact ⟨G2, j1, j2, j3, j4, j5⟩
              · cases ha
            · cases hi
        | io ks =>
          cases x with
          | ptr ds => simp [initP] at hi
          | one d =>
            simp only [initP] at hi
            split at hi
            · rename_i c dd svs' h' hl hi'
              cases hi
              rw [adds_append] at ha
              split at ha
              · rename_i stA hA'
                obtain ⟨GA, i1, i2, i3, i4, _⟩ := laid hl hA1.1 hA'
                obtain ⟨q, q1, q2, q3⟩ := i3.2 0 c rfl
                simp at q1; subst q1
                obtain ⟨G2, j1, j2, _, j3, j4, j5⟩ := tail (sx := c) hi' i1 i2 (arel_one q3) i4 ha
                exact ⟨G2, j1, j2, j3, j4, j5⟩
              · cases ha
            · cases hi
          | agg ds =>
            simp only [initP] at hi
            split at hi
            · rename_i c dd svs' h' hl hi'
              cases hi
              obtain ⟨us, rfl, hk⟩ := hA1
              rw [adds_append] at ha
              split at ha
              · rename_i stA hA'
                obtain ⟨GA, i1, i2, i3, i4, _⟩ := laid hl hk hA'
                obtain ⟨G2, j1, j2, _, j3, j4, j5⟩ := tail (sx := .agg c) hi' i1 i2 ⟨us, rfl, i3.1, i3.2⟩ i4 ha
                exact ⟨G2, j1, j2, j3, j4, j5⟩
              · cases ha
            · cases hi
        | ptr ks =>
          cases x with
          | one d => exact hA1.elim
          | agg d => exact hA1.elim
          | ptr ds =>
            simp only [initP] at hi
            split at hi
            · rename_i c dd svs' h' hl hi'
              cases hi
              obtain ⟨g, b, cur, e, us, rfl, k2, k3, k4, k5, k6, k7⟩ := hA1
              rw [adds_append] at ha
              split at ha
              · rename_i stA hA'
                obtain ⟨GA, i1, i2, i3, i4, i5⟩ := laid hl k6 hA'
                simp only [adds] at ha
                split at ha
                · cases ha
                · rename_i hnone
                  have hnl : ¬ GA.live (nm s 0) := fun h => by obtain ⟨b, hb, _⟩ := i1.B.rel _ h id; rw [hnone] at hb; cases hb
                  have hcl := i3.1.symm.trans k6.2.1
                  have hadd := add_inv (n := nm s 0) (b := (g, b)) (v := undef) (ψ := Θ 0 0) (x := .box c) i1 hnone id (fun k hk => ⟨(hm 0 0 k hk).1, .inl (hm 0 0 k hk).2⟩) (fun k n hk hn _ hφ => i5 k n hk hn hφ) ⟨cur, e, by simp [Gh.add, k2], by simp [Gh.add, k3], fun lo hi hlb' => by
                      simp only [Gh.add, if_true] at hlb' ⊢
                      rw [hcl]; exact k7 lo hi hlb', by simp [Gh.add, hcl]; exact k4, fun j x hj => by
                      obtain ⟨q, q1, q2, q3⟩ := i3.2 j x hj
                      exact ⟨q, by simp only [Gh.add, if_true]; exact k5 j q q1, q2, crel_same (fun m _ => same_add hnl _ _ _ _ m) q3⟩⟩
                  have hsep' : ∀ i j k n, Θ (i + 1) j k → (GA.add (nm s 0) (g, b) undef (Θ 0 0)).live n → (GA.add (nm s 0) (g, b) undef (Θ 0 0)).φ n k → False := fun i j k n hh hn hφ => by
                    simp only [Gh.add] at hφ
                    split at hφ
                    · have := (hap _ _ _ _ _ hh hφ).1; omega
                    · rename_i hne
                      rcases hn with hn | hn
                      · exact i4 i j k n hh hn hφ
                      · exact hne hn
                  obtain ⟨G2, j1, j2, j2', j3, j4, j5⟩ := tail (sx := .ptr (nm s 0) 0) hi' hadd (fun n => (i2 n).trans (same_add hnl _ _ _ _ n)) ⟨.inr rfl, by simp [Gh.add]⟩ hsep' ha
                  have hlive := j2' (nm s 0) (.inr rfl)
                  refine ⟨G2, j1, j2, j3, ⟨?_, j4⟩, ⟨hlive.1, c, ?_⟩, j5⟩
                  · rw [hlive.2.1]; simp [Gh.add]
                  · exact (adds_keep ha).1 _ _ (by show hlk (stA.h ++ [(nm s 0, .box c)]) (nm s 0) = _; rw [hlk_snoc, hnone]; simp)
              · cases ha
            · cases hi
end Go.Den

/- A function keeps its promise. -/
namespace Go.Den
open Go
variable {C : Ctx} {R : Rt} {G G0 G1 : Gh} {st st1 st2 : St} {a : Act} {w w' : World} {o : Oper} {v : SV}

theorem chkOps_mono {n m : Nat} (h : n ≤ m) : ∀ {os : List Oper} {seen : List Nat}, chkOps n seen os = true → chkOps m seen os = true
  | [], _, _ => rfl
  | o :: os, seen, hc => by
    simp only [chkOps] at hc ⊢
    split at hc
    · exact chkOps_mono h hc
    · simp only [Bool.and_eq_true, decide_eq_true_eq] at hc ⊢
      exact ⟨⟨Nat.lt_of_lt_of_le hc.1.1 h, hc.1.2⟩, chkOps_mono h hc.2⟩
theorem chkDraw_mono {n m : Nat} (h : n ≤ m) {ops : Array Oper} {order : List (Nat × Nat × List Nat)} (hc : chkDraw n ops order = true) : chkDraw m ops order = true := by
  simp only [chkDraw, Bool.and_eq_true] at hc ⊢
  exact ⟨⟨chkOps_mono h hc.1.1, hc.1.2⟩, hc.2⟩
theorem chkCode_mono {ord : List (Nat × List (Nat × Nat × List Nat))} {n m : Nat} {p : List Nat} (h : n ≤ m) : ∀ {c : Code}, chkCode ord n p c = true → chkCode ord m p c = true := by
  intro c
  induction c with
  | region i ops d =>
    intro hc
    simp only [chkCode, Bool.and_eq_true] at hc ⊢
    refine ⟨?_, hc.2⟩
    have hc := hc.1
    split
    · rename_i hd; rw [if_pos hd] at hc; exact chkDraw_mono h hc
    · rename_i hd; rw [if_neg hd] at hc; exact chkOps_mono h hc
  | seq x y ihx ihy => intro hc; simp only [chkCode, Bool.and_eq_true] at hc ⊢; exact ⟨ihx hc.1, ihy hc.2⟩
  | cond c x y ihx ihy => intro hc; simp only [chkCode, Bool.and_eq_true] at hc ⊢; exact ⟨ihx hc.1, ihy hc.2⟩
  | block i x ih => intro hc; simp only [chkCode] at hc ⊢; exact ih hc
  | loop x ih => intro hc; simp only [chkCode] at hc ⊢; exact ih hc
  | _ => intro _; rfl
theorem adds_h (m : List SV) (l : List (Nat × Path × Bool × SV)) : ∀ {xs : List (Nat × Blk)} {st st1 : St}, adds st xs = some st1 → adds ⟨m, l, st.h⟩ xs = some ⟨m, l, st1.h⟩
  | [], st, st1, h => by simp [adds] at h; subst h; rfl
  | (k, x) :: r, st, st1, h => by
    simp only [adds] at h ⊢
    split at h
    · cases h
    · exact adds_h m l h
theorem lkm_initM (vs : List SV) : ∀ (ks : List Nat) (t : Nat), lkm ks (initM ks vs) t = if isIn ks t then nth vs t .undef else .undef
  | [], t => rfl
  | k :: ks, t => by
    simp only [initM, lkm, isIn]
    by_cases h : k = t
    · subst h; simp
    · simp only [if_neg h]; exact lkm_initM vs ks t
theorem initM_len (vs : List SV) : ∀ (ks : List Nat), (initM ks vs).length = ks.length
  | [] => rfl
  | k :: ks => by simp [initM, initM_len vs ks]
theorem nth_eq {α : Type} : ∀ (l : List α) (n : Nat) (z : α), nth l n z = (l[n]?).getD z
  | [], n, z => by simp [nth]
  | x :: xs, 0, z => rfl
  | x :: xs, n + 1, z => by simp [nth, nth_eq xs n z]
/-- The names of the variables that were handed over. -/
def ptrNames : Nat → List Mode → List Nat
  | s, .ptr _ :: ms => nm s 0 :: ptrNames (s + 1) ms
  | s, _ :: ms => ptrNames (s + 1) ms
  | _, [] => []
def Rt.fixed (R : Rt) (f : Nat → Option (Nat × Nat)) : Rt := { R with fix := f }
def fixOf (G : Gh) (ns : List Nat) : Nat → Option (Nat × Nat) := fun n => if n ∈ ns then some (G.base n) else none
theorem born_names : ∀ {ms : List Mode} {s : Nat} {h : List (Nat × Blk)}, Born G h s ms → ∀ n ∈ ptrNames s ms, G.live n ∧ ∃ cs, hlk h n = some (.box cs)
  | [], s, h, _, n, hn => by simp [ptrNames] at hn
  | m :: ms, s, h, hb, n, hn => by
    cases m with
    | ptr ks =>
      simp only [ptrNames, List.mem_cons] at hn
      rcases hn with rfl | hn
      · exact hb.1
      · exact born_names hb.2 n hn
    | _ => exact born_names (s := s + 1) hb n hn
theorem fixes_of {ns : List Nat} : ∀ {ms : List Mode} {s : Nat}, (∀ n ∈ ptrNames s ms, n ∈ ns) → Fixes (R.fixed (fixOf G ns)) s ms
  | [], s, _ => trivial
  | m :: ms, s, h => by
    cases m with
    | ptr ks => exact ⟨⟨G.base (nm s 0), by simp [Rt.fixed, fixOf, h (nm s 0) (by simp [ptrNames])]⟩, fixes_of (fun n hn => h n (by simp [ptrNames, hn]))⟩
    | _ => exact fixes_of (s := s + 1) (fun n hn => h n hn)
theorem places_of {G' : Gh} : ∀ {ms : List Mode} {s : Nat} {vs : List Value}, (∀ n ∈ ptrNames s ms, G'.base n = G.base n) → Places G s ms vs → Places G' s ms vs
  | [], s, vs, _, h => by cases vs <;> exact h
  | m :: ms, s, vs, hb, h => by
    cases vs with
    | nil => cases m <;> exact h
    | cons v vs =>
      cases m with
      | ptr ks => exact ⟨by rw [hb (nm s 0) (by simp [ptrNames])]; exact h.1, places_of (fun n hn => hb n (by simp [ptrNames, hn])) h.2⟩
      | _ => exact places_of (s := s + 1) (fun n hn => hb n hn) h
theorem winv_fixed {f : Nat → Option (Nat × Nat)} (H : WInv R w) : WInv (R.fixed f) w := ⟨H.os, H.tape, H.output, H.size, H.T, H.old, H.out⟩
theorem winv_unfix {f : Nat → Option (Nat × Nat)} (H : WInv (R.fixed f) w) : WInv R w := ⟨H.os, H.tape, H.output, H.size, H.T, H.old, H.out⟩
theorem rets_unfix {P : Program} {f : Nat → Option (Nat × Nat)} : ∀ {kss : List (List (Option (Nat × Nat)))} {rs : List DV} {vs : List Value} {Θ : Nat → Nat → Nat → Prop}, RetsK P (R.fixed f) w kss rs vs Θ → RetsK P R w kss rs vs Θ
  | [], rs, vs, Θ, h => by cases rs <;> cases vs <;> exact h
  | ks :: kss, rs, vs, Θ, h => by
    cases rs with
    | nil => exact h
    | cons r rs =>
      cases vs with
      | nil => exact h
      | cons v vs => exact ⟨by cases r <;> exact h.1, rets_unfix h.2⟩
theorem retK_bool {P : Program} {ks : List (Option (Nat × Nat))} {b : Bool} {v : Value} {θ : Nat → Nat → Prop} (h : KC P R w ks [.b b] [v] θ) : v = .bool b := by
  obtain ⟨h1, _, h3⟩ := h
  cases ks with
  | nil => simp at h1
  | cons k ks =>
    have := (h3 0 k (.b b) v rfl rfl rfl).2
    cases k with
    | none => cases this; rfl
    | some p =>
      obtain ⟨e, sz⟩ := p
      obtain ⟨xs, e, _⟩ := this
      cases e
theorem rets_last {P : Program} {b : Bool} : ∀ {kss : List (List (Option (Nat × Nat)))} {rs : List DV} {vs : List Value} {Θ : Nat → Nat → Nat → Prop}, RetsK P R w kss rs vs Θ → lastB rs = some b → ∃ us, vs = us ++ [.bool b]
  | [], [], _, Θ, _, hb => by cases hb
  | [], _ :: _, [], Θ, h, _ => h.elim
  | [], _ :: _, _ :: _, Θ, h, _ => h.elim
  | _ :: _, [], [], Θ, h, _ => h.elim
  | _ :: _, [], _ :: _, Θ, h, _ => h.elim
  | _ :: _, _ :: _, [], Θ, h, _ => h.elim
  | ks :: kss, [x], v :: vs, Θ, h, hb => by
    have hx : x = .one (.b b) := by
      match x, hb with
      | .one (.b y), hb => simp only [lastB, Option.some.injEq] at hb; rw [hb]
      | .one (.i _ _), hb => simp [lastB] at hb
      | .one (.s _), hb => simp [lastB] at hb
      | .one (.l _), hb => simp [lastB] at hb
      | .agg _, hb => simp [lastB] at hb
      | .ptr _, hb => simp [lastB] at hb
    subst hx
    have hv : vs = [] := by
      cases kss with
      | nil => cases vs with
        | nil => rfl
        | cons _ _ => exact h.2.elim
      | cons _ _ => cases vs <;> exact h.2.elim
    subst hv
    have h1 := h.1.1
    have : v = .bool b := retK_bool h1
    rw [this]; exact ⟨[], rfl⟩
  | ks :: kss, x :: y :: rs, v :: vs, Θ, h, hb => by
    have hb' : lastB (y :: rs) = some b := by
      have e : lastB (x :: y :: rs) = lastB (y :: rs) := by
        cases x with
        | one d => cases d <;> rfl
        | _ => rfl
      rw [← e]; exact hb
    obtain ⟨us, e1⟩ := rets_last h.2 hb'
    exact ⟨v :: us, by rw [e1]; rfl⟩
theorem lastF_vals {h : List (Nat × Blk)} : ∀ {xs : List SV} {vs : List Value}, ValsAt R G h xs vs → lastF xs = true → ∃ us, vs = us ++ [.bool false]
  | [], vs, _, hb => by cases hb
  | [x], vs, hv, hb => by
    obtain ⟨v, vs', rfl, h1, h2⟩ := hv.tail
    have : vs' = [] := List.eq_nil_of_length_eq_zero (by simpa using h2.1)
    subst this
    have hx : x = .d (.b false) := by
      match x, hb with
      | .d (.b false), _ => rfl
    subst hx
    have h1' : Rep R.w0 R.T (.b false) v := h1
    cases h1'
    exact ⟨[], rfl⟩
  | x :: y :: xs, vs, hv, hb => by
    obtain ⟨v, vs', rfl, h1, h2⟩ := hv.tail
    have e : lastF (x :: y :: xs) = lastF (y :: xs) := by
      match x with
      | .d (.b false) => rfl
      | .d (.b true) => rfl
      | .d (.i _ _) => rfl
      | .d (.s _) => rfl
      | .d (.l _) => rfl
      | .nils => rfl
      | .own _ => rfl
      | .ptr _ _ => rfl
      | .nilp => rfl
      | .pv _ _ => rfl
      | .rp _ _ _ => rfl
      | .fn _ => rfl
      | .op _ _ => rfl
      | .fp _ _ _ => rfl
      | .fb _ _ => rfl
      | .undef => rfl
      | .agg _ => rfl
      | .tup _ => rfl
    rw [e] at hb
    obtain ⟨us, e1⟩ := lastF_vals h2 hb
    exact ⟨v :: us, by rw [e1]; rfl⟩
theorem kc_one {P : Program} {ks : List (Option (Nat × Nat))} {ds : List D} {us : List Value} {θ : Nat → Nat → Prop} (h : KC P R w ks ds us θ) : us.length = ds.length ∧ ∀ u ∈ us, u.oneCell' = true := by
  obtain ⟨h1, h2, h3⟩ := h
  refine ⟨h2, fun u hu => ?_⟩
  obtain ⟨j, hj, rfl⟩ := List.mem_iff_getElem.1 hu
  exact (h3 j ks[j] ds[j] us[j] (by simp) (by simp) (by simp)).1
theorem rets_shape {P : Program} : ∀ {zs : List DV} {kss : List (List (Option (Nat × Nat)))} {rs : List DV} {vs : List Value} {Θ : Nat → Nat → Nat → Prop}, RetsK P R w kss rs vs Θ → shD zs rs = true → ShV zs vs
  | [], kss, [], vs, Θ, h, _ => by
    cases kss <;> cases vs <;> first | exact h.elim | trivial
  | [], _, _ :: _, _, _, _, hs => by simp [shD] at hs
  | z :: zs, kss, [], vs, Θ, _, hs => by cases z <;> simp [shD] at hs
  | z :: zs, kss, r :: rs, vs, Θ, h, hs => by
    cases kss with
    | nil => cases vs <;> exact h.elim
    | cons ks kss =>
      cases vs with
      | nil => exact h.elim
      | cons v vs =>
        cases z with
        | agg a =>
          cases r with
          | agg b =>
            simp only [shD, Bool.and_eq_true, decide_eq_true_eq] at hs
            obtain ⟨⟨us, e, hk⟩, _⟩ := h.1
            exact ⟨⟨us, e, by rw [(kc_one hk).1, hs.1], (kc_one hk).2⟩, rets_shape h.2 hs.2⟩
          | one _ => simp [shD] at hs
          | ptr _ => simp [shD] at hs
        | one d =>
          cases r with
          | one _ =>
            simp only [shD] at hs
            exact (show ShV zs vs from rets_shape h.2 hs)
          | agg _ => simp [shD] at hs
          | ptr _ => simp [shD] at hs
        | ptr _ => cases r <;> simp [shD] at hs
theorem shS_vals {h : List (Nat × Blk)} : ∀ {zs : List DV} {xs : List SV} {vs : List Value}, ValsAt R G h xs vs → shS zs xs = true → ShV zs vs
  | [], [], vs, hv, _ => by
    have : vs = [] := List.eq_nil_of_length_eq_zero (by simpa using hv.1)
    subst this; trivial
  | [], _ :: _, _, _, hs => by simp [shS] at hs
  | z :: zs, [], vs, _, hs => by cases z <;> simp [shS] at hs
  | z :: zs, x :: xs, vs, hv, hs => by
    obtain ⟨v, vs', rfl, h1, h2⟩ := hv.tail
    cases z with
    | agg a =>
      cases x with
      | agg c =>
        simp only [shS, Bool.and_eq_true, decide_eq_true_eq] at hs
        obtain ⟨us, e, hl, hc⟩ := h1
        refine ⟨⟨us, e, by rw [hl, hs.1], fun u hu => ?_⟩, shS_vals h2 hs.2⟩
        obtain ⟨j, hj, rfl⟩ := List.mem_iff_getElem.1 hu
        obtain ⟨u', e1, e2, _⟩ := hc j c[j] (by simp)
        rw [List.getElem?_eq_getElem hj] at e1
        cases e1; exact e2
      | _ => simp [shS] at hs
    | one d =>
      simp only [shS] at hs
      exact (show ShV zs vs' from shS_vals h2 hs)
    | ptr _ => simp [shS] at hs
theorem epD_ok {h : List (Nat × Blk)} {f : Nat → Option (Nat × Nat)} {zs : List D} {x : SV} {b : Bool} {ds : List D} {u : Value} (he : epD zs x = some (b, ds)) (hx : VRel (R.fixed f) G h x u) : (b = true → PvR R ds 0 u) ∧ (b = false → u = .pointer none) := by
  unfold epD at he
  split at he
  · cases he; exact ⟨fun e => (by cases e), fun _ => hx⟩
  · rename_i cs off
    split at he
    · cases he
      obtain ⟨g, o, h1, h2, h3⟩ := hx
      refine ⟨fun _ => ⟨g, o + off, by simpa using h1, h2, fun j d hj => ?_⟩, fun e => (by cases e)⟩
      rw [List.getElem?_take] at hj
      split at hj
      · rw [List.getElem?_drop] at hj
        obtain ⟨v, k1, k2⟩ := h3 (off + j) d hj
        exact ⟨v, by rw [Nat.add_assoc]; exact k1, k2⟩
      · cases hj
    · cases he
  · split at he
    · cases he; exact hx
    · cases he
  · cases he
theorem scs_unfix {f : Nat → Option (Nat × Nat)} : ∀ {rs : List DV} {vs : List Value}, ScsK (R.fixed f) rs vs → ScsK R rs vs
  | [], vs, h => by cases vs <;> exact h
  | r :: rs, vs, h => by
    cases vs with
    | nil => exact h
    | cons v vs => exact ⟨by cases r <;> exact h.1, scs_unfix h.2⟩
theorem outs_unfix {P : Program} {f : Nat → Option (Nat × Nat)} : ∀ {ms : List Mode} {vs : List Value} {os : List (List D)} {Θ : Nat → Nat → Nat → Prop}, OutsK P (R.fixed f) w ms vs os Θ → OutsK P R w ms vs os Θ
  | [], vs, os, Θ, h => by cases vs <;> cases os <;> exact h
  | m :: ms, vs, os, Θ, h => by
    cases m with
    | ptr ks =>
      cases vs with
      | nil => exact h
      | cons v vs =>
        cases os with
        | nil => exact h
        | cons o os => exact ⟨h.1, outs_unfix h.2⟩
    | io ks =>
      cases vs with
      | nil => exact h
      | cons v vs =>
        cases os with
        | nil => exact h
        | cons o os => exact ⟨h.1, outs_unfix h.2⟩
    | _ =>
      cases vs with
      | nil => cases os <;> exact h
      | cons v vs => cases os <;> exact outs_unfix (Θ := fun i => Θ (i + 1)) h
/-- The parameters, as they are then. -/
def parS (C : Ctx) (st : St) : Nat → List Mode → List SV | _, [] => [] | s, _ :: ms => lkm C.keep st.m s :: parS C st (s + 1) ms
theorem ioNames_eq : ∀ (ms : List Mode) (s : Nat), ioNames C st s ms = ioNs ms (parS C st s ms)
  | [], s => rfl
  | m :: ms, s => by cases m <;> simp only [ioNames, parS, ioNs, ioNames_eq ms (s + 1)]
theorem takeI_okSV {ks : List (Option (Nat × Nat))} {x : SV} {ds : List D} (h : takeI st ks (cellsOf x) = some ds) : okSV x = true := by
  cases x <;> first | rfl | skip
  all_goals
    cases ks with
    | nil => simp [cellsOf, takeI] at h
    | cons k ks => cases k <;> simp [cellsOf, takeI] at h
theorem ioOuts_ok (H : Inv C R G st a w) : ∀ (ms : List Mode) (s : Nat) (vs : List Value) (os : List (List D)) (Ω : Nat → Nat → Nat → Prop), ioModes ms = true → (∀ ks, Mode.io ks ∈ ms → KOk C.P ks) → (∀ (i : Nat) ks v, ms[i]? = some (.io ks) → vs[i]? = some v → VRel R G st.h (lkm C.keep st.m (s + i)) v) → vs.length = ms.length → ioOuts C st s ms = some os → (∀ i j k, Ω i j k ↔ thI G ms (parS C st s ms) i j k) →
    OutsK C.P R w ms vs os Ω ∧ ∀ i j n, PosI ms (parS C st s ms) i j n → G.live n ∧ ∃ e sz ys, hlk st.h n = some (.row e sz ys)
  | [], s, vs, os, Ω, _, _, _, hl, h, _ => by
    simp only [ioOuts, Option.some.injEq] at h
    subst h
    cases vs with
    | nil => exact ⟨trivial, fun i j n hp => by simp [PosI] at hp⟩
    | cons v vs => simp at hl
  | m :: ms, s, [], os, Ω, _, _, _, hl, h, _ => by simp at hl
  | m :: ms, s, v :: vs, os, Ω, hm, hk, hv, hl, h, hΩ => by
    have hm' : ioModes ms = true := by cases m <;> simp_all [ioModes]
    have hv' : ∀ (i : Nat) ks u, ms[i]? = some (.io ks) → vs[i]? = some u → VRel R G st.h (lkm C.keep st.m (s + 1 + i)) u := fun i ks u h1 h2 => by
      have := hv (i + 1) ks u (by simpa using h1) (by simpa using h2)
      rwa [show s + (i + 1) = s + 1 + i by omega] at this
    have hΩ' : ∀ i j k, Ω (i + 1) j k ↔ thI G ms (parS C st (s + 1) ms) i j k := fun i j k => by
      rw [hΩ]; simp only [thI, parS, posI_tail]
    cases m with
    | io ks =>
      simp only [ioOuts] at h
      split at h
      · rename_i x r ht hr
        cases h
        have hx := hv 0 ks v rfl rfl
        rw [Nat.add_zero] at hx
        have hok := takeI_okSV ht
        obtain ⟨c1, c2⟩ := cells_ok hx hok
        have hu : CellsAt R G st.h (cellsOf (lkm C.keep st.m s)) v.cells.toList := ⟨by simpa using c1, fun j y hj => by obtain ⟨q, k1, k2, k3⟩ := c2 j y hj; exact ⟨q, by simpa using k1, k2, k3⟩⟩
        have hK := takeI_kc' (Rr := R) (fun h => h) H hu ht
        obtain ⟨o1, o2⟩ := ioOuts_ok H ms (s + 1) vs r (fun i => Ω (i + 1)) hm' (fun ks' hq => hk ks' (by simp [hq])) hv' (by simpa using hl) hr hΩ'
        have e2 : (fun j => Ω 0 (j + 1)) = fun j k => ∃ n, (cellsOf (lkm C.keep st.m s))[j]? = some (.own n) ∧ G.φ n k := by
          funext j k
          refine propext ?_
          rw [hΩ]
          constructor
          · rintro ⟨j', n, e1, ⟨ks', v', p1, p2, p3⟩, e3⟩
            simp [parS] at p2; subst p2
            have : j = j' := by omega
            subst this
            exact ⟨n, p3, e3⟩
          · rintro ⟨n, e1, e3⟩
            exact ⟨j, n, rfl, ⟨ks, _, rfl, by simp [parS], e1⟩, e3⟩
        refine ⟨⟨by rw [e2]; exact hK, o1⟩, fun i j n hp => ?_⟩
        cases i with
        | zero =>
          obtain ⟨ks', v', p1, p2, p3⟩ := hp
          simp [parS] at p2; subst p2
          obtain ⟨y, _, _, hy⟩ := c2 j _ p3
          obtain ⟨t1, t2, t3⟩ := takeI_get ht
          have hj : j < (cellsOf (lkm C.keep st.m s)).length := (List.getElem?_eq_some_iff.1 p3).1
          rcases t3 j (ks[j]'(by omega)) _ (x[j]'(by omega)) (by simp) p3 (by simp) with ⟨_, e⟩ | ⟨e, sz, n', ys, _, e5, _, hrow⟩
          · cases e
          · cases e5; exact ⟨hy.1, e, sz, ys, hrow⟩
        | succ i => exact o2 i j n (posI_tail.1 hp)
      · cases h
    | bor =>
      have h' : ioOuts C st (s + 1) ms = some os := by simpa [ioOuts] using h
      obtain ⟨o1, o2⟩ := ioOuts_ok H ms (s + 1) vs os (fun i => Ω (i + 1)) hm' (fun ks' hq => hk ks' (by simp [hq])) hv' (by simpa using hl) h' hΩ'
      refine ⟨by cases os <;> exact o1, fun i j n hp => ?_⟩
      cases i with
      | zero => obtain ⟨ks', v', p1, _⟩ := hp; simp at p1
      | succ i => exact o2 i j n (posI_tail.1 hp)
    | _ => simp [ioModes] at hm
theorem argsK_len {P : Program} : ∀ {ms : List Mode} {xs : List DV} {vs : List Value} {Θ : Nat → Nat → Nat → Prop}, ArgsK P R ms xs vs Θ → vs.length = ms.length
  | [], [], [], _, _ => rfl
  | [], [], _ :: _, _, h => h.elim
  | [], _ :: _, vs, _, h => by cases vs <;> exact h.elim
  | _ :: _, [], vs, _, h => by cases vs <;> exact h.elim
  | _ :: _, _ :: _, [], _, h => h.elim
  | m :: ms, x :: xs, v :: vs, _, h => by simp [argsK_len h.2]
/-- The parameters whose memory is handed back where it stood. -/
def ioIx : Nat → List Mode → List Nat | _, [] => [] | s, .io _ :: ms => s :: ioIx (s + 1) ms | s, _ :: ms => ioIx (s + 1) ms
theorem mem_ioIx : ∀ {ms : List Mode} {s i : Nat} {ks : List (Option (Nat × Nat))}, ms[i]? = some (.io ks) → s + i ∈ ioIx s ms
  | [], s, i, ks, h => by simp at h
  | m :: ms, s, 0, ks, h => by simp at h; subst h; simp [ioIx]
  | m :: ms, s, i + 1, ks, h => by
    have := mem_ioIx (s := s + 1) (i := i) (ks := ks) (ms := ms) (by simpa using h)
    rw [show s + (i + 1) = s + 1 + i by omega]
    cases m <;> simp [ioIx, this]

theorem resVs_sound : ∀ {rs : List ResultVar} {vs : List SV}, Inv C R G st a w → resVs C st rs = some vs → ∃ rv : List Value, rs.length = rv.length ∧ (∀ (j : Nat) r v, rs[j]? = some r → rv[j]? = some v → resRun C.P a.tmps w r v) ∧ ValsAt R G st.h vs rv
  | [], vs, H, h => by
    simp only [resVs, Option.some.injEq] at h
    subst h
    exact ⟨[], rfl, fun j r v hj => by simp at hj, rfl, fun j x hj => by simp at hj⟩
  | r :: rs, vs, H, h => by
    simp only [resVs] at h
    split at h
    · rename_i x xs hx hxs
      cases h
      obtain ⟨u, h1, h2⟩ := resV_sound H hx
      obtain ⟨rv, h3, h4, h5⟩ := resVs_sound H hxs
      refine ⟨u :: rv, by simp [h3], fun j r' v hj hv => ?_, by simp [h5.1], fun j y hj => ?_⟩
      · cases j with
        | zero => simp at hj hv; subst hj hv; exact h1
        | succ j => exact h4 j r' v (by simpa using hj) (by simpa using hv)
      · cases j with
        | zero => simp at hj; subst hj; exact ⟨u, rfl, h2⟩
        | succ j => simpa using h5.2 j y (by simpa using hj)
    · cases h

theorem spec_body {P : Program} {sig : Nat → Sig} {F : Nat → List DV → Bool × List DV × List (List D)} {k f : Nat} {fn : Func} {c : Code} (hC : CtxOk ⟨P, sig, F, (sig f).keep, (sig f).ord⟩) (hfn : P.funcs[f]? = some fn) (hbody : fn.body = some c) (hchk : chkCode (sig f).ord fn.ntmps (ioIx 0 (sig f).ms) c = true) (hsg : SigOk P (sig f)) : SpecOk P (sig f) (evalBody P sig F k f) f := by
  intro R xs vs Θ rs outs hF hfix hpre
  unfold evalBody at hF
  rw [hfn] at hF
  dsimp only at hF
  rw [hbody] at hF
  dsimp only at hF
  split at hF
  · rename_i svs h hinit
    split at hF
    · rename_i st hadds
      let C : Ctx := ⟨P, sig, F, (sig f).keep, (sig f).ord⟩
      let a0 : Act := { tmps := vs.toArray ++ Array.replicate (fn.ntmps - vs.toArray.size) undef, defers := [] }
      -- the beginning
      have H0 : Inv C R ⟨fun _ => False, fun _ => (0, 0), fun _ => undef, fun _ _ => False⟩ ⟨List.replicate C.keep.length .undef, [], []⟩ a0 R.w0 :=
        ⟨hpre.W, ⟨fun n hn => hn.elim, fun n m hn => hn.elim, fun n hn => hn.elim, fun n b hb => by rw [hfix] at hb; cases hb⟩, fun _ _ _ => id, fun t => by unfold SlotR; simp only [lk, lkm_replicate]; trivial, fun t q c v h => (by cases h), by simp⟩
      obtain ⟨G2, i1, i2, i3, i4, i5⟩ := init_sound (C := C) rfl (sig f).ms 0 xs vs Θ svs h _ _ _ hinit hpre.args H0 hpre.mine hpre.lb hpre.apart (fun _ _ _ _ _ hl => hl.elim) (adds_h (List.replicate C.keep.length .undef) [] hadds)
      obtain ⟨_, hm, hl⟩ := adds_keep hadds
      have hm' : st.m = initM (sig f).keep svs := hm
      have hl' : st.l = [] := hl
      have hborn := born_names i5
      let Rf := R.fixed (fixOf G2 (ptrNames 0 (sig f).ms))
      have hslots : ∀ t, SlotR C Rf G2 st a0 t := fun t => by
        show SlotR C R G2 st a0 t
        unfold SlotR
        rw [hl', hm']
        simp only [lk]
        show VRel R G2 st.h (lkm (sig f).keep (initM (sig f).keep svs) t) _
        rw [lkm_initM, nth_eq]
        split
        · cases ht : svs[t]? with
          | none => trivial
          | some x =>
            obtain ⟨u, h1, h2⟩ := i3.2 t x ht
            have : a0.tmps.getD t undef = u := by
              have hlt : t < vs.length := (List.getElem?_eq_some_iff.1 h1).1
              show (vs.toArray ++ Array.replicate (fn.ntmps - vs.toArray.size) undef).getD t undef = u
              rw [Array.getD_eq_getD_getElem?, Array.getElem?_append_left (by simpa using hlt)]
              simp [h1]
            rw [this]
            exact h2
        · trivial
      have H1 : Inv C Rf G2 st a0 R.w0 :=
        ⟨winv_fixed i1.W, ⟨i1.B.rel, i1.B.disj, i1.B.mine, fun n b hb => by
          show G2.live n ∧ G2.base n = b ∧ _
          have hb' : fixOf G2 (ptrNames 0 (sig f).ms) n = some b := hb
          unfold fixOf at hb'
          split at hb'
          · rename_i hn
            cases hb'
            exact ⟨(hborn n hn).1, rfl, fun _ => (hborn n hn).2⟩
          · cases hb'⟩, fun _ _ _ => id, hslots, by rw [hl']; exact fun t q c v h => (by cases h), by rw [hm', initM_len]⟩
      refine calls_of_wp hfn hbody ?_
      show c.wp P _ a0 R.w0
      -- the way out
      have out : ∀ {ex : Ex} {st' : St}, (ex = .normal ∨ ex = .ret) → (match resVs C st' fn.results.toList with
          | some vs => if hasIo (sig f).ms then finIo C (sig f) st' vs else (match resOfs st' (sig f).r vs with
            | some (rs, st1) => (match outsOf 0 st1 (sig f).ms with | some (outs, _) => some (rs, outs) | none => none)
            | none => none)
          | none => none) = some (rs, outs) → ∀ a' w', After C Rf a0.tmps.size (ioIx 0 (sig f).ms) a0 st' a' w' → a'.defers = [] ∧ ∃ v, (results fn a'.tmps).run P w' = .ok v w' ∧ ∃ rv Ξ Ω, Ending.returned v = .returned (valOf rv) ∧ Post P (sig f) R vs rs outs rv w' Ξ Ω := by
        intro ex st' _ hres a' w' ⟨G, H, hl0, hsz, hdef⟩
        split at hres
        · rename_i us hus
          obtain ⟨rv, r1, r2, r3⟩ := resVs_sound H hus
          split at hres
          · refine ⟨hdef.1, valOf rv, run_results r1 r2, ?_⟩
            unfold finIo at hres
            split at hres
            · rename_i zs hr
              split at hres
              · rename_i hck
                simp only [Bool.and_eq_true] at hck
                split at hres
                · rename_i rs1 outs1 hrs hou
                  cases hres
                  have hnd := nodupB_ok hck.1
                  rw [ioNames_eq] at hnd
                  have hval : ∀ (i : Nat) ks v, (sig f).ms[i]? = some (.io ks) → vs[i]? = some v → VRel Rf G st'.h (lkm C.keep st'.m (0 + i)) v := fun i ks v h1 h2 => by
                    have h3 := H.slots i
                    unfold SlotR at h3
                    rw [hl0] at h3
                    simp only [lk] at h3
                    have h4 := hdef.2 (0 + i) (mem_ioIx h1)
                    rw [Nat.zero_add] at h4 ⊢
                    have h5 : a0.tmps[i]? = some v := by
                      have hlt : i < vs.length := (List.getElem?_eq_some_iff.1 h2).1
                      show (vs.toArray ++ Array.replicate (fn.ntmps - vs.toArray.size) undef)[i]? = some v
                      rw [Array.getElem?_append_left (by simpa using hlt)]
                      simpa using h2
                    rw [h5] at h4
                    rw [Array.getD_eq_getD_getElem?, h4] at h3
                    exact h3
                  obtain ⟨o1, o2⟩ := ioOuts_ok (R := Rf) H (sig f).ms 0 vs _ (thI G (sig f).ms (parS C st' 0 (sig f).ms)) hck.2 (fun ks hk => hsg.1 ks (.inr hk)) hval (argsK_len hpre.args) hou (fun _ _ _ => Iff.rfl)
                  refine ⟨rv, fun _ _ _ => False, _, rfl, winv_unfix H.W, by rw [hr]; exact scs_unfix (resSc_sound hrs r3), outs_unfix o1, fun _ _ _ h => h.elim, fun i j k ⟨j', n, _, hp, hφ⟩ => H.B.mine n (o2 _ _ _ hp).1 id k hφ, fun i j k ⟨j', n, _, hp, hφ⟩ lo hi hlb => ?_, fun _ _ _ _ _ h => h.elim, fun i j i' j' k ⟨q, n, e1, hp, hφ⟩ ⟨q', n', e1', hp', hφ'⟩ => ?_, fun _ _ _ _ _ h => h.elim⟩
                  · obtain ⟨hlv, e, sz, ys, hrow⟩ := o2 _ _ _ hp
                    obtain ⟨b, hb, hbr⟩ := H.B.rel n hlv id
                    rw [hrow] at hb; cases hb
                    exact hbr.2.2.2 k lo hi hφ hlb
                  · have : n = n' := Classical.byContradiction fun hne => H.B.disj n n' (o2 _ _ _ hp).1 id (o2 _ _ _ hp').1 id hne k hφ hφ'
                    subst this
                    obtain ⟨e2, e3⟩ := posI_inj hnd hp hp'
                    exact ⟨e2, by omega⟩
                · cases hres
              · cases hres
            · cases hres
          split at hres
          · rename_i rs' st1 hro
            split at hres
            · rename_i outs' st2 hou
              cases hres
              refine ⟨hdef.1, valOf rv, run_results r1 r2, ?_⟩
              have hK : ∃ G1 Ξ, Inv C Rf G1 st1 a' w' ∧ Gle G1 G ∧ ResK P R w' (sig f).r rs rv Ξ ∧ (∀ i j k, Ξ i j k → k < w'.heap.size ∧ (R.L k ∨ R.w0.heap.size ≤ k) ∧ ∀ lo hi, ¬ R.LB k lo hi) ∧ Apart3 Ξ ∧ (∀ i j k n, Ξ i j k → G1.live n → G1.φ n k → False) := by
                cases hr : (sig f).r with
                | sc zs =>
                  rw [hr] at hro
                  simp only [resOfs] at hro
                  split at hro
                  · rename_i rr hrr
                    cases hro
                    exact ⟨G, fun _ _ _ => False, H, Gle.refl G, scs_unfix (resSc_sound hrr r3), fun _ _ _ h => h.elim, fun _ _ _ _ _ h => h.elim, fun _ _ _ _ h => h.elim⟩
                  · cases hro
                | fresh kss =>
                  rw [hr] at hro
                  simp only [resOfs] at hro
                  obtain ⟨G1, Ξ, q1, q2, _, q4, q5, q6, _, q8⟩ := resFr_sound (G0 := G) (h0 := st'.h) kss us rv st' G rs st1 H (Gle.refl G) (Has.refl _ _) (fun ks hk => hsg.2 kss (.inl hr) ks hk) r3 hro
                  exact ⟨G1, Ξ, q1, q2, rets_unfix q4, q5, q6, q8⟩
                | freshT zs kss =>
                  rw [hr] at hro
                  simp only [resOfs] at hro
                  split at hro
                  · rename_i rs2 st2 hfr
                    split at hro
                    · rename_i b hb
                      split at hro
                      · rename_i hsh
                        cases hro
                        obtain ⟨G1, Ξ, q1, q2, _, q4, q5, q6, _, q8⟩ := resFr_sound (G0 := G) (h0 := st'.h) kss us rv st' G rs st1 H (Gle.refl G) (Has.refl _ _) (fun ks hk => hsg.2 kss (.inr ⟨zs, hr⟩) ks hk) r3 hfr
                        obtain ⟨us', e1⟩ := rets_last (rets_unfix q4) hb
                        exact ⟨G1, Ξ, q1, q2, ⟨b, us', hb, e1, rets_shape (rets_unfix q4) hsh, fun _ => rets_unfix q4⟩, q5, q6, q8⟩
                      · cases hro
                    · cases hro
                  · split at hro
                    · rename_i hck
                      cases hro
                      simp only [Bool.and_eq_true] at hck
                      obtain ⟨us', e1⟩ := lastF_vals r3 hck.1.1
                      have hz : lastB rs = some false := by
                        have := hck.1.2
                        unfold lastN at this
                        split at this
                        · assumption
                        · cases this
                      exact ⟨G, fun _ _ _ => False, H, Gle.refl G, ⟨false, us', hz, e1, shS_vals r3 hck.2, fun h => (by cases h)⟩, fun _ _ _ h => h.elim, fun _ _ _ _ _ h => h.elim, fun _ _ _ _ h => h.elim⟩
                    · cases hro
                | nptr ks => rw [hr] at hro; simp [resOfs] at hro
                | ep zs =>
                  rw [hr] at hro
                  match us, r3, hro with
                  | [x], r3, hro =>
                    simp only [resOfs] at hro
                    split at hro
                    · rename_i b ds hep
                      cases hro
                      obtain ⟨u, rv', rfl, hx, hnil⟩ := r3.tail
                      have hrv : rv' = [] := List.eq_nil_of_length_eq_zero (by simpa using hnil.1)
                      subst hrv
                      exact ⟨G, fun _ _ _ => False, H, Gle.refl G, ⟨b, ds, u, rfl, rfl, epD_ok hep hx⟩, fun _ _ _ h => h.elim, fun _ _ _ _ _ h => h.elim, fun _ _ _ _ h => h.elim⟩
                    · cases hro
                  | [], _, hro => simp [resOfs] at hro
                  | _ :: _ :: _, _, hro => simp [resOfs] at hro
              obtain ⟨G1, Ξ, q1, q2, q3, q4, q5, q6⟩ := hK
              have hpl : Places G1 0 (sig f).ms vs := places_of (fun n hn => by
                obtain ⟨_, h2, _⟩ := q1.B.fix n (G2.base n) (by show fixOf G2 (ptrNames 0 (sig f).ms) n = _; simp [fixOf, hn])
                exact h2) i4
              obtain ⟨G', Ω, o1, o2, o3, o4, o5, o6, o7, o8, o9⟩ := outsOf_sound (R := Rf) (sig f).ms 0 vs st1 G1 outs st2 q1 (fun ks hk => hsg.1 ks (.inl (.inl hk))) (fixes_of fun _ h => h) hpl hou
              exact ⟨rv, Ξ, Ω, rfl, winv_unfix q1.W, q3, outs_unfix o3, q4, o4, o5, q5, o6, fun i j i' j' k h1 h2 => by
                obtain ⟨n, n1, n2⟩ := o7 _ _ _ h2
                exact q6 i j k n h1 n1 n2⟩
            · cases hres
          · cases hres
        · cases hres
      cases hden : den C k c st with
      | none => rw [hden] at hF; simp [fin] at hF
      | some r =>
        obtain ⟨ex, st'⟩ := r
        rw [hden] at hF
        have hsz0 : fn.ntmps ≤ a0.tmps.size := by
          show fn.ntmps ≤ (vs.toArray ++ Array.replicate (fn.ntmps - vs.toArray.size) undef).size
          simp
          omega
        refine den_sound hC a0.tmps.size (ioIx 0 (sig f).ms) a0 k c st st' ex a0 R.w0 _ hden ⟨G2, H1, hl', rfl, Still.refl _ _⟩ (chkCode_mono hsz0 hchk) (fun a' w' hA => ?_)
        cases ex with
        | normal => exact out (ex := .normal) (.inl rfl) hF a' w' hA
        | ret => exact out (ex := .ret) (.inr rfl) hF a' w' hA
        | exit i => simp [fin] at hF
    · cases hF
  · cases hF
end Go.Den

/- All functions together. -/
namespace Go.Den
open Go

abbrev Rs := Option (List DV × List (List D))
/-- The functions of less depth than d. -/
def Gd (G : Nat → List DV → Bool × List DV × List (List D)) (dep : Nat → Nat) (d f : Nat) (xs : List DV) : Bool × List DV × List (List D) := if dep f < d then G f xs else (false, [], [])
/-- What the kernel looks at, of a function. -/
def FnOk (P : Program) (sig : Nat → Sig) (f : Nat) : Prop :=
  ∃ fn c, P.funcs[f]? = some fn ∧ fn.body = some c ∧ (fn.name == "runtime.NumGoroutine") = false ∧ chkCode (sig f).ord fn.ntmps (ioIx 0 (sig f).ms) c = true ∧ SigOk P (sig f)
def eOkB (P : Program) (k : Option (Nat × Nat)) : Bool :=
  match k with
  | none => true
  | some (e, sz) => if e = wk then decide (0 < sz) else match P.info? e with | some i => decide (i.size = sz) && decide (0 < sz) | none => false
def sigOkB (P : Program) (sg : Sig) : Bool :=
  (sg.ms.all fun m => match m with | .ptr ks => ks.all (eOkB P) | .own ks => ks.all (eOkB P) | .io ks => ks.all (eOkB P) | _ => true) &&
  (match sg.r with | .fresh kss => (kss.all fun ks => ks.all (eOkB P)) | .freshT _ kss => (kss.all fun ks => ks.all (eOkB P)) | _ => true)
def fnOkB (P : Program) (sig : Nat → Sig) (f : Nat) : Bool :=
  match P.funcs[f]? with
  | some fn => (match fn.body with
    | some c => !(fn.name == "runtime.NumGoroutine") && chkCode (sig f).ord fn.ntmps (ioIx 0 (sig f).ms) c && sigOkB P (sig f)
    | none => false)
  | none => false
theorem kOk_of {P : Program} {ks : List (Option (Nat × Nat))} (h : ks.all (eOkB P) = true) : KOk P ks := fun e sz hm => by
  have := List.all_eq_true.1 h _ hm
  unfold eOkB at this
  dsimp only at this
  split at this
  · rename_i hwk; exact ⟨.inl hwk, by simpa using this⟩
  split at this
  · rename_i i hi
    simp only [Bool.and_eq_true, decide_eq_true_eq] at this
    exact ⟨.inr ⟨i, hi, this.1⟩, this.2⟩
  · cases this
theorem sigOk_of {P : Program} {sg : Sig} (h : sigOkB P sg = true) : SigOk P sg := by
  simp only [sigOkB, Bool.and_eq_true, List.all_eq_true] at h
  refine ⟨fun ks hk => ?_, fun kss hr ks hk => ?_⟩
  · rcases hk with (hk | hk) | hk
    · exact kOk_of (h.1 _ hk)
    · exact kOk_of (h.1 _ hk)
    · exact kOk_of (h.1 _ hk)
  · have := h.2
    rcases hr with hr | ⟨_, hr⟩ <;> rw [hr] at this <;> exact kOk_of (List.all_eq_true.2 fun x hx => (List.all_eq_true.1 this ks hk |> fun h => List.all_eq_true.1 h x hx))
theorem fnOk_of {P : Program} {sig : Nat → Sig} {f : Nat} (h : fnOkB P sig f = true) : FnOk P sig f := by
  unfold fnOkB at h
  split at h
  · rename_i fn hfn
    split at h
    · rename_i c hc
      simp only [Bool.and_eq_true, Bool.not_eq_true'] at h
      exact ⟨fn, c, hfn, hc, h.1.1, h.1.2, sigOk_of h.2⟩
    · cases h
  · cases h
theorem G_ctx {P : Program} {sig : Nat → Sig} {G : Nat → List DV → Bool × List DV × List (List D)} {dep : Nat → Nat} {k : Nat} (hm : P.follows .mixedOrders = true)
    (hG : ∀ f xs r, opt (G f xs) = some r → FnOk P sig f ∧ evalBody P sig (Gd G dep (dep f)) k f xs = some r) (keep : List Nat) (ord : List (Nat × List (Nat × Nat × List Nat))) : ∀ d, CtxOk ⟨P, sig, Gd G dep d, keep, ord⟩ := by
  intro d
  induction d using Nat.strongRecOn generalizing keep ord with
  | _ d ih =>
    have mem : ∀ {f : Nat} {xs : List DV} {r : List DV × List (List D)}, opt (Gd G dep d f xs) = some r → dep f < d ∧ opt (G f xs) = some r := fun {f xs r} h => by
      unfold Gd at h
      split at h
      · rename_i hd; exact ⟨hd, h⟩
      · simp [opt] at h
    refine ⟨fun f R xs vs Θ rs outs hF => ?_, fun f xs r hF => ?_, fun f xs r hF => ?_, hm⟩
    · obtain ⟨h1, h2⟩ := mem hF
      obtain ⟨⟨fn, c, e1, e2, e3, e4, e5⟩, h3⟩ := hG f xs _ h2
      exact spec_body (ih (dep f) h1 (sig f).keep (sig f).ord) e1 e2 e4 e5 R xs vs Θ rs outs h3
    · obtain ⟨⟨fn, c, e1, e2, e3, _⟩, _⟩ := hG f xs r (mem hF).2
      exact ⟨fn, c, e1, e2, e3⟩
    · obtain ⟨⟨fn, c, _, _, _, _, e5⟩, _⟩ := hG f xs r (mem hF).2
      exact e5
theorem G_spec {P : Program} {sig : Nat → Sig} {G : Nat → List DV → Bool × List DV × List (List D)} {dep : Nat → Nat} {k : Nat} (hm : P.follows .mixedOrders = true)
    (hG : ∀ f xs r, opt (G f xs) = some r → FnOk P sig f ∧ evalBody P sig (Gd G dep (dep f)) k f xs = some r) (f : Nat) : SpecOk P (sig f) (fun xs => opt (G f xs)) f := fun R xs vs Θ rs outs hF => by
  obtain ⟨⟨fn, c, e1, e2, e3, e4, e5⟩, h3⟩ := hG f xs _ hF
  exact spec_body (G_ctx hm hG (sig f).keep (sig f).ord (dep f)) e1 e2 e4 e5 R xs vs Θ rs outs h3
end Go.Den

/- From a function's promise to a law's row: arguments that can be read are data. -/
namespace Go.Den
open Go Go.ChangeShapes Go.WideShapes Go.RowKit

/-- The shape of a cell. -/
inductive Sh where
  | b | i (k : IntKind) | s | l (e : List Sh)
mutual
def typD : Sh → D → Prop
  | .b, d => ∃ x, d = .b x
  | .i k, d => ∃ n, d = .i k n ∧ (Lit.int k n).wf = true
  | .s, d => ∃ x, d = .s x ∧ x.size ≤ maxLen
  | .l es, d => ∃ xs, d = .l xs ∧ xs.length ≤ maxLen ∧ ∀ r ∈ xs, typL es r
def typL : List Sh → List D → Prop
  | [], ds => ds = []
  | e :: es, ds => ∃ d r, ds = d :: r ∧ typD e d ∧ typL es r
end
def shFs (f : TypeId → Option (List Sh)) (P : Program) : Nat → List Field → Option (List Sh)
  | n, [] => some []
  | n, x :: xs => if x.offset = n then (match f x.type with
    | some es => if P.cellsOf x.type = es.length then (match shFs f P (n + es.length) xs with | some r => some (es ++ r) | none => none) else none
    | none => none) else none
def shOf (P : Program) : Nat → TypeId → Option (List Sh)
  | 0, _ => none
  | d + 1, t => match P.underlying t with
    | some .bool => some [.b]
    | some (.int k) => some [.i k]
    | some .string => some [.s]
    | some (.slice e) => (match shOf P d e with | some (x :: xs) => if P.cellsOf e = (x :: xs).length then some [.l (x :: xs)] else none | _ => none)
    | some (.struct fs) => (match shFs (shOf P d) P 0 fs.toList with | some es => if P.cellsOf t = es.length then some es else none | none => none)
    | _ => none
/-- Cells that stand for data. -/
def Reps (w : World) (T : Nat → Prop) : List D → List Value → Prop
  | [], vs => vs = []
  | d :: ds, vs => ∃ v r, vs = v :: r ∧ Rep w T d v ∧ Reps w T ds r
theorem typL_len : ∀ {es : List Sh} {ds : List D}, typL es ds → ds.length = es.length
  | [], ds, h => by simp only [typL] at h; rw [h]; rfl
  | e :: es, ds, h => by simp only [typL] at h; obtain ⟨d, r, rfl, _, h⟩ := h; simp [typL_len h]
theorem Reps.len {w : World} {T : Nat → Prop} : ∀ {ds : List D} {vs : List Value}, Reps w T ds vs → vs.length = ds.length
  | [], vs, h => by simp only [Reps] at h; rw [h]; rfl
  | d :: ds, vs, h => by obtain ⟨v, r, rfl, _, h⟩ := h; simp [h.len]
theorem Reps.get {w : World} {T : Nat → Prop} : ∀ {ds : List D} {vs : List Value}, Reps w T ds vs → ∀ (j : Nat) d, ds[j]? = some d → ∃ v, vs[j]? = some v ∧ Rep w T d v
  | [], vs, h, j, d, hj => by simp at hj
  | d :: ds, vs, h, j, x, hj => by
    obtain ⟨v, r, rfl, h1, h2⟩ := h
    cases j with
    | zero => simp at hj; subst hj; exact ⟨v, rfl, h1⟩
    | succ j => simpa using h2.get j x (by simpa using hj)
theorem typL_append : ∀ {es es' : List Sh} {ds ds' : List D}, typL es ds → typL es' ds' → typL (es ++ es') (ds ++ ds')
  | [], es', ds, ds', h, h' => by simp only [typL] at h; subst h; simpa using h'
  | e :: es, es', ds, ds', h, h' => by simp only [typL] at h; obtain ⟨d, r, rfl, h1, h2⟩ := h; simp only [List.cons_append, typL]; exact ⟨d, _, rfl, h1, typL_append h2 h'⟩
theorem Reps.append {w : World} {T : Nat → Prop} : ∀ {ds ds' : List D} {vs vs' : List Value}, Reps w T ds vs → Reps w T ds' vs' → Reps w T (ds ++ ds') (vs ++ vs')
  | [], ds', vs, vs', h, h' => by simp only [Reps] at h; subst h; simpa using h'
  | d :: ds, ds', vs, vs', h, h' => by obtain ⟨v, r, rfl, h1, h2⟩ := h; exact ⟨v, _, rfl, h1, h2.append h'⟩

theorem cells_at {w : World} {a : Addr} {n : Nat} {cs : List Value} (h : w.cells? 0 a n = some cs) : cs.length = n ∧ ∀ j v, cs[j]? = some v → w.cell? (a.add j) = some v := by
  unfold World.cells? at h
  rw [if_pos (Nat.zero_le _)] at h
  have hl := mapM_some_length h
  refine ⟨by simpa using hl, fun j v hj => ?_⟩
  have key : ∀ (l : List Nat) (r : List Value), l.mapM (fun i => w.cell? (a.add i)) = some r → ∀ (j : Nat) v, r[j]? = some v → ∃ i, l[j]? = some i ∧ w.cell? (a.add i) = some v := by
    intro l
    induction l with
    | nil => intro r h j v hj; simp at h; subst h; simp at hj
    | cons i l ih =>
      intro r h j v hj
      simp only [List.mapM_cons, Option.bind_eq_bind, Option.bind_eq_some_iff] at h
      obtain ⟨x, h1, r', h2, h3⟩ := h
      simp at h3
      subst h3
      cases j with
      | zero => simp at hj; subst hj; exact ⟨i, rfl, h1⟩
      | succ j => simpa using ih r' h2 j v (by simpa using hj)
  obtain ⟨i, h1, h2⟩ := key _ _ h j v hj
  have : j < n := by have := (List.getElem?_eq_some_iff.1 h1).1; simpa using this
  rw [List.getElem?_range this] at h1
  cases h1
  exact h2
theorem cell_none {w : World} {a : Addr} {v : Value} (h : w.cell? a = some v) : a.spot = none ∧ a.block < w.heap.size := by
  unfold World.cell? at h
  split at h
  · rename_i c _ _ hb
    split at h
    · cases h
    · rename_i hs
      refine ⟨by simpa using hs, ?_⟩
      exact (Array.getElem?_eq_some_iff.1 hb).1
  · cases h
section
variable {H : Type} {enc : TypeId × Value → H} {P : Program} {w : World} {spare : Nat → Bool} {held : Bool}
theorem read_fs {f : TypeId → Option (List Sh)} {m : Nat} (cs : List Value) (T : Nat → Prop)
    (ih : ∀ t es cs x, f t = some es → DataW.trod enc P w 0 spare held m t cs = some x → ∃ ds, typL es ds ∧ Reps w T ds cs) : ∀ (fs : List Field) (n : Nat) (es : List Sh) (xs : List (DataW H × List MemPlace)), shFs f P n fs = some es → n + es.length = cs.length →
    (∀ (j : Nat) q, fs[j]? = some q → ∃ y, DataW.trod enc P w 0 spare held m q.type ((cs.drop q.offset).take (P.cellsOf q.type)) = some y) → ∃ ds, typL es ds ∧ Reps w T ds (cs.drop n) := by
  intro fs
  induction fs with
  | nil =>
    intro n es xs h hl _
    simp only [shFs, Option.some.injEq] at h
    subst h
    refine ⟨[], by simp [typL], ?_⟩
    simp only [Reps]
    simp at hl
    exact List.drop_eq_nil_of_le (by omega)
  | cons q fs ihf =>
    intro n es xs h hl hread
    simp only [shFs] at h
    split at h
    · rename_i ho
      split at h
      · rename_i e1 h1
        split at h
        · rename_i hc
          split at h
          · rename_i r hr
            cases h
            obtain ⟨y, hy⟩ := hread 0 q rfl
            obtain ⟨ds1, d1, d2⟩ := ih _ _ _ _ h1 hy
            obtain ⟨ds2, d3, d4⟩ := ihf (n + e1.length) r xs hr (by simp at hl; omega) (fun j q' hj => hread (j + 1) q' (by simpa using hj))
            refine ⟨ds1 ++ ds2, typL_append d1 d3, ?_⟩
            rw [ho, hc] at d2
            have := d2.append d4
            rwa [← List.drop_drop, List.take_append_drop] at this
          · cases h
        · cases h
      · cases h
    · cases h
/-- What can be read stands for data of its type's shape. -/
theorem read_rep : ∀ (d : Nat) (t : TypeId) (es : List Sh) (fuel : Nat) (cs : List Value) (x : DataW H × List MemPlace), shOf P d t = some es → DataW.trod enc P w 0 spare held fuel t cs = some x → ∃ ds, typL es ds ∧ Reps w (fun k => k < w.heap.size) ds cs := by
  intro d
  induction d with
  | zero => intro t es fuel cs x h; simp [shOf] at h
  | succ d ih =>
    intro t es fuel cs x h hr
    simp only [shOf] at h
    split at h
    · rename_i ht
      cases h
      obtain ⟨b, rfl, _⟩ := DataW.trod_bool ht hr
      exact ⟨[.b b], by simp [typL, typD], .bool b, [], rfl, .b b, rfl⟩
    · rename_i k ht
      cases h
      obtain ⟨n, rfl, _, hw⟩ := DataW.trod_int ht hr
      exact ⟨[.i k n], by simp [typL, typD, hw], .int k n, [], rfl, .i k n, rfl⟩
    · rename_i ht
      cases h
      obtain ⟨s, rfl, _, hs⟩ := DataW.trod_string ht hr
      exact ⟨[.s s], by simp [typL, typD, hs], .string s, [], rfl, .s s, rfl⟩
    · rename_i e ht
      split at h
      · rename_i ex exs he
        split at h
        · rename_i hc
          cases h
          generalize hes : ex :: exs = es' at he hc ⊢
          rcases DataW.trod_slice ht hr with ⟨rfl, _⟩ | ⟨a, len, cap, elems, rest, m, _, rfl, _, _, hl, hm, hlen, hel, _, _⟩
          · exact ⟨[.l []], by simp [typL, typD], _, [], rfl, .nil _ _, rfl⟩
          · -- the elements
            have hrow : ∀ i, i < len → ∃ ds, typL es' ds ∧ ∃ us : List Value, Reps w (fun k => k < w.heap.size) ds us ∧ ∀ j u, us[j]? = some u → w.cell? ((a.add (i * P.cellsOf e)).add j) = some u := fun i hi => by
              have h1 := hel i hi
              have h2 : elems[i]? = some elems[i] := List.getElem?_eq_getElem (by omega)
              rw [h2, Option.bind_eq_some_iff] at h1
              obtain ⟨us, h3, h4⟩ := h1
              obtain ⟨ds, d1, d2⟩ := ih _ _ _ _ _ he h4
              exact ⟨ds, d1, us, d2, (cells_at h3).2⟩
            have hall : ∀ n, n ≤ len → ∃ rows : List (List D), rows.length = n ∧ ∀ i r, rows[i]? = some r → typL es' r ∧ ∃ us : List Value, Reps w (fun k => k < w.heap.size) r us ∧ ∀ j u, us[j]? = some u → w.cell? ((a.add (i * P.cellsOf e)).add j) = some u := by
              intro n
              induction n with
              | zero => intro _; exact ⟨[], rfl, fun i r h => by simp at h⟩
              | succ n ihn =>
                intro hn
                obtain ⟨rows, h1, h2⟩ := ihn (by omega)
                obtain ⟨ds, d1, us, d2, d3⟩ := hrow n (by omega)
                refine ⟨rows ++ [ds], by simp [h1], fun i r hi => ?_⟩
                by_cases hin : i < n
                · rw [List.getElem?_append_left (by omega)] at hi; exact h2 i r hi
                · have : i = n := by
                    have := (List.getElem?_eq_some_iff.1 hi).1
                    simp at this; omega
                  subst this
                  rw [List.getElem?_append_right (by omega), h1] at hi
                  simp at hi
                  subst hi
                  exact ⟨d1, us, d2, d3⟩
            obtain ⟨rows, hrl, hrows⟩ := hall len (Nat.le_refl _)
            refine ⟨[.l rows], ?_, _, [], rfl, ?_, rfl⟩
            · simp only [typL, typD]
              exact ⟨.l rows, [], rfl, ⟨rows, rfl, by omega, fun r hr => by
                obtain ⟨i, hi⟩ := List.getElem?_of_mem hr
                exact (hrows i r hi).1⟩, rfl⟩
            · by_cases hne : rows = []
              · subst hne
                simp at hrl
                subst hrl
                exact .nil _ _
              · obtain ⟨r0, hr0⟩ : ∃ r, rows[0]? = some r := by
                  cases rows with
                  | nil => exact absurd rfl hne
                  | cons r rs => exact ⟨r, rfl⟩
                have hspot : a.spot = none ∧ a.block < w.heap.size := by
                  obtain ⟨h1, us, h2, h3⟩ := hrows 0 r0 hr0
                  have hl1 := typL_len h1
                  have hl2 := h2.len
                  subst hes
                  simp only [List.length_cons] at hl1
                  obtain ⟨u, hu⟩ : ∃ u, us[0]? = some u := ⟨us[0], by simp⟩
                  have := cell_none (h3 0 u hu)
                  simpa [Addr.add] using this
                obtain ⟨g, o, sp⟩ := a
                obtain ⟨hsp, hg⟩ := hspot
                simp only at hsp hg
                subst hsp
                have hadd : ∀ o m, (⟨g, o, none⟩ : Addr).add m = ⟨g, o + m, none⟩ := fun o m => by
                  unfold Addr.add
                  split
                  · rename_i h0; subst h0; rfl
                  · rfl
                have hcells : ∀ i r, rows[i]? = some r → ∃ us : List Value, us.length = r.length ∧ (∀ j d, r[j]? = some d → ∃ u, us[j]? = some u ∧ Rep w (fun k => k < w.heap.size) d u ∧ w.cell? ⟨g, o + i * es'.length + j, none⟩ = some u) := fun i r hi => by
                  obtain ⟨_, us, h2, h3⟩ := hrows i r hi
                  refine ⟨us, h2.len, fun j d hj => ?_⟩
                  obtain ⟨u, hu, hrep⟩ := h2.get j d hj
                  refine ⟨u, hu, hrep, ?_⟩
                  have := h3 j u hu
                  rw [hadd, hadd, hc] at this
                  exact this
                rw [← hrl]
                refine .l rows g o cap es'.length (fun i j => (w.cell? ⟨g, o + i * es'.length + j, none⟩).getD default) hne hg (by omega) (fun r hr => ?_) (fun i r j d hi hj => ?_) (fun i r j d hi hj => ?_)
                · obtain ⟨i, hi⟩ := List.getElem?_of_mem hr
                  exact typL_len (hrows i r hi).1
                · obtain ⟨us, _, h2⟩ := hcells i r hi
                  obtain ⟨u, _, _, h3⟩ := h2 j d hj
                  rw [h3]; rfl
                · obtain ⟨us, _, h2⟩ := hcells i r hi
                  obtain ⟨u, _, h4, h3⟩ := h2 j d hj
                  rw [h3]; exact h4
        · cases h
      · cases h
    · rename_i fs ht
      split at h
      · rename_i es' hf
        split at h
        · rename_i hc
          cases h
          obtain ⟨xs, m, _, _, hl, hlen, hread⟩ := DataW.trod_struct ht hr
          have := read_fs (f := shOf P d) (m := m) cs (fun k => k < w.heap.size) (fun t es cs x => ih t es m cs x) fs.toList 0 es xs hf (by omega) (fun j q hj => by
            have h2 := hread j q (by simpa using hj)
            have h3 : j < xs.length := by have := (List.getElem?_eq_some_iff.1 hj).1; simp at this; omega
            exact ⟨xs[j], by rw [h2]; exact List.getElem?_eq_getElem h3⟩)
          simpa using this
        · cases h
      · cases h
    · cases h

end
/-! ### arguments -/
/-- Of a parameter: is it a struct, and its cells' shapes. -/
def prmOf (P : Program) (t : TypeId) : Option (Bool × List Sh) :=
  match shOf P 12 t with
  | some es => (match P.underlying t with | some (.struct _) => some (true, es) | some (.array _ _) => none | some _ => some (false, es) | none => none)
  | none => none
def prmsOf (P : Program) : List TypeId → Option (List (Bool × List Sh))
  | [] => some []
  | t :: ts => match prmOf P t, prmsOf P ts with | some x, some r => some (x :: r) | _, _ => none
def typP : Bool × List Sh → DV → Prop
  | (true, es), x => ∃ ds, x = .agg ds ∧ typL es ds
  | (false, es), x => ∃ d, x = .one d ∧ typL es [d]
def typPs : List (Bool × List Sh) → List DV → Prop
  | [], xs => xs = []
  | p :: ps, xs => ∃ x r, xs = x :: r ∧ typP p x ∧ typPs ps r
def borrowed : List TypeId → List Mode | [] => [] | _ :: ts => .bor :: borrowed ts

theorem args_read {H : Type} {enc : TypeId × Value → H} {P : Program} {W : World} {base : Nat} (R : Rt) (hw : R.w0 = W) (hT : R.T = fun k => k < W.heap.size) (Θ : Nat → Nat → Nat → Prop) : ∀ (ts : List TypeId) (vs : List Value) (ds : List (DataW H)) (ps : List MemPlace) (shs : List (Bool × List Sh)), DataW.TrodAll enc P W 0 (fun _ => true) true ts vs ds ps → prmsOf P ts = some shs →
    (∀ (j : Nat) t v, ts[j]? = some t → vs[j]? = some v → Value.okWide P W .any base t v) → ∃ xs, typPs shs xs ∧ ArgsK P R (borrowed ts) xs vs Θ := by
  subst hw
  intro ts
  induction ts generalizing Θ with
  | nil =>
    intro vs ds ps shs h hs _
    obtain ⟨rfl, rfl, rfl⟩ := trodAll_nil h
    simp only [prmsOf, Option.some.injEq] at hs
    subst hs
    exact ⟨[], rfl, trivial⟩
  | cons t ts ih =>
    intro vs ds ps shs h hs hok
    obtain ⟨v, vs', d, ds', p, q, rfl, rfl, rfl, ⟨fuel, h1⟩, h2⟩ := trodAll_cons h
    simp only [prmsOf] at hs
    split at hs
    · rename_i x r hx hr
      cases hs
      obtain ⟨xs, x1, x2⟩ := ih (fun i => Θ (i + 1)) vs' ds' q r h2 hr (fun j t' v' ht hv => hok (j + 1) t' v' (by simpa using ht) (by simpa using hv))
      have hv := hok 0 t v rfl rfl
      unfold prmOf at hx
      split at hx
      · rename_i es hes
        obtain ⟨cells, c1, c2⟩ := read_rep _ _ _ _ _ _ hes h1
        rw [← hT] at c2
        split at hx
        · rename_i fs ht
          cases hx
          unfold Value.okWide at hv
          rw [ht] at hv
          obtain ⟨cs, rfl, hcs, _⟩ := hv
          refine ⟨.agg cells :: xs, ⟨_, _, rfl, ⟨cells, rfl, c1⟩, x1⟩, ⟨cs.toList, by simp, ?_, fun j d hj => ?_⟩, x2⟩
          · have := c2.len; simpa [Value.cells] using this
          · obtain ⟨u, hu, hrep⟩ := c2.get j d hj
            exact ⟨u, by simpa [Value.cells] using hu, hrep⟩
        · cases hx
        · rename_i td hns hna ht
          cases hx
          have hna : ∀ cs, v ≠ .agg cs := fun cs e => by
            subst e
            unfold Value.okWide at hv
            rw [ht] at hv
            cases td <;> first | exact hns _ rfl | exact hna _ _ rfl | (simp [Cell.okWide, Cell.ok, ht] at hv)
          have hcell : v.cells.toList = [v] := by cases v <;> first | rfl | exact absurd rfl (hna _)
          rw [hcell] at c2
          have hl := c2.len
          obtain ⟨d0, rfl⟩ : ∃ d, cells = [d] := by
            match cells, hl with
            | [d], _ => exact ⟨d, rfl⟩
          obtain ⟨u, rest, hu, hrep, _⟩ := c2
          cases hu
          exact ⟨.one d0 :: xs, ⟨_, _, rfl, ⟨d0, rfl, c1⟩, x1⟩, hrep, x2⟩
        · cases hx
      · cases hx
    · cases hs

/-- A law whose function answers true on all data of its parameters' shapes: what its row asks. -/
theorem law_contract {H : Type} {enc : TypeId × Value → H} {P : Program} {f : Nat} {fn : Func} {sg : Sig} {F : List DV → Option (List DV × List (List D))} {zs : List DV} {shs : List (Bool × List Sh)} {tb : TypeId} {s : ChangeSpec}
    (hspec : SpecOk P sg F f) (hms : sg.ms = borrowed fn.params.toList) (hr : sg.r = .sc zs) (hres : fn.resultTypes = #[tb]) (htb : P.underlying tb = some .bool) (K : Kids P (· < P.types.size)) (hfull : ∀ t e, t < P.types.size → P.underlying t = some (.slice e) → 0 < P.cellsOf e) (hpt : ∀ t ∈ fn.params.toList, t < P.types.size)
    (hsh : prmsOf P fn.params.toList = some shs) (hF : ∀ xs, typPs shs xs → F xs = some ([.one (.b true)], [])) (hvars : s.vars = [])
    (hfn : ∀ ds : List (DataW H), ds.length = fn.params.size → s.fn H ds = { results := [.lit (.bool true)], args := ds })
    (W : World) (base : Nat) (args : Array Value) (ds gs : List (DataW H)) (before : List MemPlace)
    (hval : ∀ (j : Nat) t v, fn.params[j]? = some t → args[j]? = some v → Value.okWide P W .any base t v)
    (hW : DataW.Whole enc P fn.params.toList s.vars false W args.toList ds gs before) :
    Calls P f args W fun e W' => ∃ v, e = .returned v ∧ s.post enc P fn false true false false W args v W' := by
  have hW' := hW
  obtain ⟨p, q, hA, hV, rfl, _, _⟩ := hW
  rw [hvars] at hV
  obtain ⟨rfl, rfl⟩ := trodVars_none hV
  let R : Rt := ⟨W, fun k => k < W.heap.size, fun _ => False, fun _ _ _ => False, fun _ => none⟩
  obtain ⟨xs, x1, x2⟩ := args_read (base := base) R rfl rfl (fun _ _ _ => False) fn.params.toList args.toList ds p shs hA hsh (fun j t v ht hv => hval j t v (by simpa using ht) (by simpa using hv))
  have pre : Pre P sg R xs args.toList (fun _ _ _ => False) := ⟨⟨rfl, rfl, rfl, Nat.le_refl _, fun k hk => ⟨hk, fun h => h⟩, fun _ _ _ => rfl, fun _ _ _ h => h.elim⟩, by rw [hms]; exact x2, fun _ _ _ h => h.elim, fun _ _ _ h => h.elim, fun _ _ _ _ _ h => h.elim⟩
  have hc := hspec R xs args.toList (fun _ _ _ => False) _ _ (hF xs x1) rfl pre
  rw [Array.toArray_toList] at hc
  refine hc.mono fun e W' ⟨rv, Ξ, Ω, he, hp⟩ => ?_
  subst he
  have hlen : ds.length = fn.params.size := by
    have key : ∀ {ts : List TypeId} {vs : List Value} {ds : List (DataW H)} {ps : List MemPlace}, DataW.TrodAll enc P W 0 (fun _ => true) true ts vs ds ps → ds.length = ts.length := by
      intro ts
      induction ts with
      | nil => intro vs ds ps h; obtain ⟨_, rfl, _⟩ := trodAll_nil h; rfl
      | cons t ts ih => intro vs ds ps h; obtain ⟨v, vs', d, ds', p, q, rfl, rfl, rfl, _, h2⟩ := trodAll_cons h; simp [ih h2]
    simpa using key hA
  -- the result
  have hres1 : rv = [.bool true] := by
    have := hp.res
    rw [hr] at this
    match rv, this with
    | [v], ⟨h1, _⟩ =>
      obtain ⟨_, h2⟩ := h1
      cases h2
      rfl
  subst hres1
  have old : ∀ k, k < W.heap.size → W'.heap[k]? = W.heap[k]? := fun k hk => hp.W.old k hk (fun h => h)
  have kept : ∀ may, W.keptBut W' may := fun may => ⟨hp.W.os, hp.W.output, fun i hi => by
    rw [old i hi]
    cases W.heap[i]? with
    | none => trivial
    | some ob =>
      cases ob with
      | cells c t fr => obtain ⟨lo, hi'⟩ := fr; exact ⟨rfl, rfl, rfl, fun _ _ => rfl⟩
      | map es clock => exact .inr ⟨rfl, rfl⟩
      | _ => rfl⟩
  have hlt := hW'.lt
  have same : ∀ pl : MemPlace, pl.block < W.heap.size → W.sameAt W' pl := fun pl hpl => by
    cases pl with
    | cell b off => simp only [World.sameAt, World.cell?]; rw [old b hpl]
    | map b => simp only [World.sameAt]; exact old b hpl
  have carry : ∀ {ts : List TypeId} {vs : List Value} {ds : List (DataW H)} {ps : List MemPlace}, DataW.TrodAll enc P W 0 (fun _ => true) true ts vs ds ps → (∀ pl ∈ ps, pl.block < W.heap.size) → DataW.TrodAll enc P W' 0 (fun _ => true) true ts vs ds ps := by
    intro ts
    induction ts with
    | nil => intro vs ds ps h _; obtain ⟨rfl, rfl, rfl⟩ := trodAll_nil h; exact trodAll_mk0
    | cons t ts ih =>
      intro vs ds ps h hps
      obtain ⟨v, vs', d, ds', p, q, rfl, rfl, rfl, ⟨n, h1⟩, h2⟩ := trodAll_cons h
      exact ⟨p, q, ⟨n, DataW.trod_carry _ _ _ _ h1 (fun pl hpl => same pl (hps pl (List.mem_append_left _ hpl)))⟩, ih h2 (fun pl hpl => hps pl (List.mem_append_right _ hpl)), rfl⟩
  have hargs := DataW.TrodAll.respare (spare' := fun b => decide (b < W.heap.size)) K hfull hpt (carry hA (fun pl hpl => hlt pl (List.mem_append_left _ hpl))) (fun pl hpl => by simpa using hlt pl (List.mem_append_left _ hpl))
  refine ⟨_, rfl, ds, [], p ++ [], [], p, [], hW', ?_, ?_, ?_, kept _, fun h => by cases h⟩
  · rw [List.append_nil, hfn ds hlen, hres]
    exact trodAll_mk1 (shut_bool htb _)
  · rw [List.append_nil, hfn ds hlen]
    exact hargs
  · rw [hvars]
    rw [List.append_nil, hfn ds hlen]
    rfl
end Go.Den
