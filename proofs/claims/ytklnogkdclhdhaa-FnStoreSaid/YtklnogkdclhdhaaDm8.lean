/- The evaluator of Go code over plain data, and its soundness: part 8 of 8. -/
import Derived.Test.YtklnogkdclhdhaaDm7
import Derived.ReadAgain
import Derived.ChangeArms
import Derived.RowKit3
import Derived.RowKit
import Derived.SizedLaws
set_option linter.unusedVariables false
set_option linter.unusedSimpArgs false
/- A function keeps its promise. -/
namespace Go.Den
open Go
variable {C : Ctx} {R : Rt} {G G0 G1 : Gh} {st st1 st2 : St} {a : Act} {w w' : World} {o : Oper} {v : SV}

theorem chkOps_mono {n m : Nat} (h : n ≤ m) : ∀ {os : List Oper} {seen : List Nat}, chkOps n seen os = true → chkOps m seen os = true
  | [], _, _ => rfl
  | o :: os, seen, hc => by
    simp only [chkOps] at hc ⊢
    split at hc
    · exact chkOps_mono h hc
    · simp only [Bool.and_eq_true, decide_eq_true_eq] at hc ⊢
      exact ⟨⟨Nat.lt_of_lt_of_le hc.1.1 h, hc.1.2⟩, chkOps_mono h hc.2⟩
theorem chkDraw_mono {n m : Nat} (h : n ≤ m) {ops : Array Oper} {order : List (Nat × Nat × List Nat)} (hc : chkDraw n ops order = true) : chkDraw m ops order = true := by
  simp only [chkDraw, Bool.and_eq_true] at hc ⊢
  exact ⟨⟨chkOps_mono h hc.1.1, hc.1.2⟩, hc.2⟩
theorem chkCode_mono {ord : List (Nat × List (Nat × Nat × List Nat))} {n m : Nat} {p : List Nat} (h : n ≤ m) : ∀ {c : Code}, chkCode ord n p c = true → chkCode ord m p c = true := by
  intro c
  induction c with
  | region i ops d =>
    intro hc
    simp only [chkCode, Bool.and_eq_true] at hc ⊢
    refine ⟨?_, hc.2⟩
    have hc := hc.1
    split
    · rename_i hd; rw [if_pos hd] at hc; exact chkDraw_mono h hc
    · rename_i hd; rw [if_neg hd] at hc; exact chkOps_mono h hc
  | seq x y ihx ihy => intro hc; simp only [chkCode, Bool.and_eq_true] at hc ⊢; exact ⟨ihx hc.1, ihy hc.2⟩
  | cond c x y ihx ihy => intro hc; simp only [chkCode, Bool.and_eq_true] at hc ⊢; exact ⟨ihx hc.1, ihy hc.2⟩
  | block i x ih => intro hc; simp only [chkCode] at hc ⊢; exact ih hc
  | loop x ih => intro hc; simp only [chkCode] at hc ⊢; exact ih hc
  | _ => intro _; rfl
theorem adds_h (m : List SV) (l : List (Nat × Path × Bool × SV)) : ∀ {xs : List (Nat × Blk)} {st st1 : St}, adds st xs = some st1 → adds ⟨m, l, st.h⟩ xs = some ⟨m, l, st1.h⟩
  | [], st, st1, h => by simp [adds] at h; subst h; rfl
  | (k, x) :: r, st, st1, h => by
    simp only [adds] at h ⊢
    split at h
    · cases h
    · exact adds_h m l h
theorem lkm_initM (vs : List SV) : ∀ (ks : List Nat) (t : Nat), lkm ks (initM ks vs) t = if isIn ks t then nth vs t .undef else .undef
  | [], t => rfl
  | k :: ks, t => by
    simp only [initM, lkm, isIn]
    by_cases h : k = t
    · subst h; simp
    · simp only [if_neg h]; exact lkm_initM vs ks t
theorem initM_len (vs : List SV) : ∀ (ks : List Nat), (initM ks vs).length = ks.length
  | [] => rfl
  | k :: ks => by simp [initM, initM_len vs ks]
theorem nth_eq {α : Type} : ∀ (l : List α) (n : Nat) (z : α), nth l n z = (l[n]?).getD z
  | [], n, z => by simp [nth]
  | x :: xs, 0, z => rfl
  | x :: xs, n + 1, z => by simp [nth, nth_eq xs n z]
/-- The names of the variables that were handed over. -/
def ptrNames : Nat → List Mode → List Nat
  | s, .ptr _ :: ms => nm s 0 :: ptrNames (s + 1) ms
  | s, _ :: ms => ptrNames (s + 1) ms
  | _, [] => []
def Rt.fixed (R : Rt) (f : Nat → Option (Nat × Nat)) : Rt := { R with fix := f }
def fixOf (G : Gh) (ns : List Nat) : Nat → Option (Nat × Nat) := fun n => if n ∈ ns then some (G.base n) else none
theorem born_names : ∀ {ms : List Mode} {s : Nat} {h : List (Nat × Blk)}, Born G h s ms → ∀ n ∈ ptrNames s ms, G.live n ∧ ∃ cs, hlk h n = some (.box cs)
  | [], s, h, _, n, hn => by simp [ptrNames] at hn
  | m :: ms, s, h, hb, n, hn => by
    cases m with
    | ptr ks =>
      simp only [ptrNames, List.mem_cons] at hn
      rcases hn with rfl | hn
      · exact hb.1
      · exact born_names hb.2 n hn
    | _ => exact born_names (s := s + 1) hb n hn
theorem fixes_of {ns : List Nat} : ∀ {ms : List Mode} {s : Nat}, (∀ n ∈ ptrNames s ms, n ∈ ns) → Fixes (R.fixed (fixOf G ns)) s ms
  | [], s, _ => trivial
  | m :: ms, s, h => by
    cases m with
    | ptr ks => exact ⟨⟨G.base (nm s 0), by simp [Rt.fixed, fixOf, h (nm s 0) (by simp [ptrNames])]⟩, fixes_of (fun n hn => h n (by simp [ptrNames, hn]))⟩
    | _ => exact fixes_of (s := s + 1) (fun n hn => h n hn)
theorem places_of {G' : Gh} : ∀ {ms : List Mode} {s : Nat} {vs : List Value}, (∀ n ∈ ptrNames s ms, G'.base n = G.base n) → Places G s ms vs → Places G' s ms vs
  | [], s, vs, _, h => by cases vs <;> exact h
  | m :: ms, s, vs, hb, h => by
    cases vs with
    | nil => cases m <;> exact h
    | cons v vs =>
      cases m with
      | ptr ks => exact ⟨by rw [hb (nm s 0) (by simp [ptrNames])]; exact h.1, places_of (fun n hn => hb n (by simp [ptrNames, hn])) h.2⟩
      | _ => exact places_of (s := s + 1) (fun n hn => hb n hn) h
theorem winv_fixed {f : Nat → Option (Nat × Nat)} (H : WInv R w) : WInv (R.fixed f) w := ⟨H.os, H.tape, H.output, H.size, H.T, H.old, H.out⟩
theorem winv_unfix {f : Nat → Option (Nat × Nat)} (H : WInv (R.fixed f) w) : WInv R w := ⟨H.os, H.tape, H.output, H.size, H.T, H.old, H.out⟩
theorem rets_unfix {P : Program} {f : Nat → Option (Nat × Nat)} : ∀ {kss : List (List (Option (Nat × Nat)))} {rs : List DV} {vs : List Value} {Θ : Nat → Nat → Nat → Prop}, RetsK P (R.fixed f) w kss rs vs Θ → RetsK P R w kss rs vs Θ
  | [], rs, vs, Θ, h => by cases rs <;> cases vs <;> exact h
  | ks :: kss, rs, vs, Θ, h => by
    cases rs with
    | nil => exact h
    | cons r rs =>
      cases vs with
      | nil => exact h
      | cons v vs => exact ⟨by cases r <;> exact h.1, rets_unfix h.2⟩
theorem retK_bool {P : Program} {ks : List (Option (Nat × Nat))} {b : Bool} {v : Value} {θ : Nat → Nat → Prop} (h : KC P R w ks [.b b] [v] θ) : v = .bool b := by
  obtain ⟨h1, _, h3⟩ := h
  cases ks with
  | nil => simp at h1
  | cons k ks =>
    have := (h3 0 k (.b b) v rfl rfl rfl).2
    cases k with
    | none => cases this; rfl
    | some p =>
      obtain ⟨e, sz⟩ := p
      obtain ⟨xs, e, _⟩ := this
      cases e
theorem rets_last {P : Program} {b : Bool} : ∀ {kss : List (List (Option (Nat × Nat)))} {rs : List DV} {vs : List Value} {Θ : Nat → Nat → Nat → Prop}, RetsK P R w kss rs vs Θ → lastB rs = some b → ∃ us, vs = us ++ [.bool b]
  | [], [], _, Θ, _, hb => by cases hb
  | [], _ :: _, [], Θ, h, _ => h.elim
  | [], _ :: _, _ :: _, Θ, h, _ => h.elim
  | _ :: _, [], [], Θ, h, _ => h.elim
  | _ :: _, [], _ :: _, Θ, h, _ => h.elim
  | _ :: _, _ :: _, [], Θ, h, _ => h.elim
  | ks :: kss, [x], v :: vs, Θ, h, hb => by
    have hx : x = .one (.b b) := by
      match x, hb with
      | .one (.b y), hb => simp only [lastB, Option.some.injEq] at hb; rw [hb]
      | .one (.i _ _), hb => simp [lastB] at hb
      | .one (.s _), hb => simp [lastB] at hb
      | .one (.l _), hb => simp [lastB] at hb
      | .agg _, hb => simp [lastB] at hb
      | .ptr _, hb => simp [lastB] at hb
    subst hx
    have hv : vs = [] := by
      cases kss with
      | nil => cases vs with
        | nil => rfl
        | cons _ _ => exact h.2.elim
      | cons _ _ => cases vs <;> exact h.2.elim
    subst hv
    have h1 := h.1.1
    have : v = .bool b := retK_bool h1
    rw [this]; exact ⟨[], rfl⟩
  | ks :: kss, x :: y :: rs, v :: vs, Θ, h, hb => by
    have hb' : lastB (y :: rs) = some b := by
      have e : lastB (x :: y :: rs) = lastB (y :: rs) := by
        cases x with
        | one d => cases d <;> rfl
        | _ => rfl
      rw [← e]; exact hb
    obtain ⟨us, e1⟩ := rets_last h.2 hb'
    exact ⟨v :: us, by rw [e1]; rfl⟩
theorem lastF_vals {h : List (Nat × Blk)} : ∀ {xs : List SV} {vs : List Value}, ValsAt R G h xs vs → lastF xs = true → ∃ us, vs = us ++ [.bool false]
  | [], vs, _, hb => by cases hb
  | [x], vs, hv, hb => by
    obtain ⟨v, vs', rfl, h1, h2⟩ := hv.tail
    have : vs' = [] := List.eq_nil_of_length_eq_zero (by simpa using h2.1)
    subst this
    have hx : x = .d (.b false) := by
      match x, hb with
      | .d (.b false), _ => rfl
    subst hx
    have h1' : Rep R.w0 R.T (.b false) v := h1
    cases h1'
    exact ⟨[], rfl⟩
  | x :: y :: xs, vs, hv, hb => by
    obtain ⟨v, vs', rfl, h1, h2⟩ := hv.tail
    have e : lastF (x :: y :: xs) = lastF (y :: xs) := by
      match x with
      | .d (.b false) => rfl
      | .d (.b true) => rfl
      | .d (.i _ _) => rfl
      | .d (.s _) => rfl
      | .d (.l _) => rfl
      | .nils => rfl
      | .own _ => rfl
      | .ptr _ _ => rfl
      | .nilp => rfl
      | .pv _ _ => rfl
      | .rp _ _ _ => rfl
      | .fn _ => rfl
      | .op _ _ => rfl
      | .fp _ _ _ => rfl
      | .fb _ _ => rfl
      | .bx _ _ _ => rfl
      | .undef => rfl
      | .agg _ => rfl
      | .tup _ => rfl
    rw [e] at hb
    obtain ⟨us, e1⟩ := lastF_vals h2 hb
    exact ⟨v :: us, by rw [e1]; rfl⟩
theorem kc_one {P : Program} {ks : List (Option (Nat × Nat))} {ds : List D} {us : List Value} {θ : Nat → Nat → Prop} (h : KC P R w ks ds us θ) : us.length = ds.length ∧ ∀ u ∈ us, u.oneCell' = true := by
  obtain ⟨h1, h2, h3⟩ := h
  refine ⟨h2, fun u hu => ?_⟩
  obtain ⟨j, hj, rfl⟩ := List.mem_iff_getElem.1 hu
  exact (h3 j ks[j] ds[j] us[j] (by simp) (by simp) (by simp)).1
theorem rets_shape {P : Program} : ∀ {zs : List DV} {kss : List (List (Option (Nat × Nat)))} {rs : List DV} {vs : List Value} {Θ : Nat → Nat → Nat → Prop}, RetsK P R w kss rs vs Θ → shD zs rs = true → ShV zs vs
  | [], kss, [], vs, Θ, h, _ => by
    cases kss <;> cases vs <;> first | exact h.elim | trivial
  | [], _, _ :: _, _, _, _, hs => by simp [shD] at hs
  | z :: zs, kss, [], vs, Θ, _, hs => by cases z <;> simp [shD] at hs
  | z :: zs, kss, r :: rs, vs, Θ, h, hs => by
    cases kss with
    | nil => cases vs <;> exact h.elim
    | cons ks kss =>
      cases vs with
      | nil => exact h.elim
      | cons v vs =>
        cases z with
        | agg a =>
          cases r with
          | agg b =>
            simp only [shD, Bool.and_eq_true, decide_eq_true_eq] at hs
            obtain ⟨⟨us, e, hk⟩, _⟩ := h.1
            exact ⟨⟨us, e, by rw [(kc_one hk).1, hs.1], (kc_one hk).2⟩, rets_shape h.2 hs.2⟩
          | one _ => simp [shD] at hs
          | ptr _ => simp [shD] at hs
        | one d =>
          cases r with
          | one _ =>
            simp only [shD] at hs
            exact (show ShV zs vs from rets_shape h.2 hs)
          | agg _ => simp [shD] at hs
          | ptr _ => simp [shD] at hs
        | ptr _ => cases r <;> simp [shD] at hs
theorem shS_vals {h : List (Nat × Blk)} : ∀ {zs : List DV} {xs : List SV} {vs : List Value}, ValsAt R G h xs vs → shS zs xs = true → ShV zs vs
  | [], [], vs, hv, _ => by
    have : vs = [] := List.eq_nil_of_length_eq_zero (by simpa using hv.1)
    subst this; trivial
  | [], _ :: _, _, _, hs => by simp [shS] at hs
  | z :: zs, [], vs, _, hs => by cases z <;> simp [shS] at hs
  | z :: zs, x :: xs, vs, hv, hs => by
    obtain ⟨v, vs', rfl, h1, h2⟩ := hv.tail
    cases z with
    | agg a =>
      cases x with
      | agg c =>
        simp only [shS, Bool.and_eq_true, decide_eq_true_eq] at hs
        obtain ⟨us, e, hl, hc⟩ := h1
        refine ⟨⟨us, e, by rw [hl, hs.1], fun u hu => ?_⟩, shS_vals h2 hs.2⟩
        obtain ⟨j, hj, rfl⟩ := List.mem_iff_getElem.1 hu
        obtain ⟨u', e1, e2, _⟩ := hc j c[j] (by simp)
        rw [List.getElem?_eq_getElem hj] at e1
        cases e1; exact e2
      | _ => simp [shS] at hs
    | one d =>
      simp only [shS] at hs
      exact (show ShV zs vs' from shS_vals h2 hs)
    | ptr _ => simp [shS] at hs
theorem epD_ok {h : List (Nat × Blk)} {f : Nat → Option (Nat × Nat)} {zs : List D} {x : SV} {b : Bool} {ds : List D} {u : Value} (he : epD zs x = some (b, ds)) (hx : VRel (R.fixed f) G h x u) : (b = true → PvR R ds 0 u) ∧ (b = false → u = .pointer none) := by
  unfold epD at he
  split at he
  · cases he; exact ⟨fun e => (by cases e), fun _ => hx⟩
  · rename_i cs off
    split at he
    · cases he
      obtain ⟨g, o, h1, h2, h3⟩ := hx
      refine ⟨fun _ => ⟨g, o + off, by simpa using h1, h2, fun j d hj => ?_⟩, fun e => (by cases e)⟩
      rw [List.getElem?_take] at hj
      split at hj
      · rw [List.getElem?_drop] at hj
        obtain ⟨v, k1, k2⟩ := h3 (off + j) d hj
        exact ⟨v, by rw [Nat.add_assoc]; exact k1, k2⟩
      · cases hj
    · cases he
  · split at he
    · cases he; exact hx
    · cases he
  · cases he
theorem scs_unfix {f : Nat → Option (Nat × Nat)} : ∀ {rs : List DV} {vs : List Value}, ScsK (R.fixed f) rs vs → ScsK R rs vs
  | [], vs, h => by cases vs <;> exact h
  | r :: rs, vs, h => by
    cases vs with
    | nil => exact h
    | cons v vs => exact ⟨by cases r <;> exact h.1, scs_unfix h.2⟩
theorem outs_unfix {P : Program} {f : Nat → Option (Nat × Nat)} : ∀ {ms : List Mode} {vs : List Value} {os : List (List D)} {Θ : Nat → Nat → Nat → Prop}, OutsK P (R.fixed f) w ms vs os Θ → OutsK P R w ms vs os Θ
  | [], vs, os, Θ, h => by cases vs <;> cases os <;> exact h
  | m :: ms, vs, os, Θ, h => by
    cases m with
    | ptr ks =>
      cases vs with
      | nil => exact h
      | cons v vs =>
        cases os with
        | nil => exact h
        | cons o os => exact ⟨h.1, outs_unfix h.2⟩
    | io ks =>
      cases vs with
      | nil => exact h
      | cons v vs =>
        cases os with
        | nil => exact h
        | cons o os => exact ⟨h.1, outs_unfix h.2⟩
    | _ =>
      cases vs with
      | nil => cases os <;> exact h
      | cons v vs => cases os <;> exact outs_unfix (Θ := fun i => Θ (i + 1)) h
/-- The parameters, as they are then. -/
def parS (C : Ctx) (st : St) : Nat → List Mode → List SV | _, [] => [] | s, _ :: ms => lkm C.keep st.m s :: parS C st (s + 1) ms
theorem ioNames_eq : ∀ (ms : List Mode) (s : Nat), ioNames C st s ms = ioNs ms (parS C st s ms)
  | [], s => rfl
  | m :: ms, s => by cases m <;> simp only [ioNames, parS, ioNs, ioNames_eq ms (s + 1)]
theorem takeI_okSV {ks : List (Option (Nat × Nat))} {x : SV} {ds : List D} (h : takeI st ks (cellsOf x) = some ds) : okSV x = true := by
  cases x <;> first | rfl | skip
  all_goals
    cases ks with
    | nil => simp [cellsOf, takeI] at h
    | cons k ks => cases k <;> simp [cellsOf, takeI] at h
theorem ioOuts_ok (H : Inv C R G st a w) : ∀ (ms : List Mode) (s : Nat) (vs : List Value) (os : List (List D)) (Ω : Nat → Nat → Nat → Prop), ioModes ms = true → (∀ ks, Mode.io ks ∈ ms → KOk C.P ks) → (∀ (i : Nat) ks v, ms[i]? = some (.io ks) → vs[i]? = some v → VRel R G st.h (lkm C.keep st.m (s + i)) v) → vs.length = ms.length → ioOuts C st s ms = some os → (∀ i j k, Ω i j k ↔ thI G ms (parS C st s ms) i j k) →
    OutsK C.P R w ms vs os Ω ∧ ∀ i j n, PosI ms (parS C st s ms) i j n → G.live n ∧ ∃ e sz ys, hlk st.h n = some (.row e sz ys)
  | [], s, vs, os, Ω, _, _, _, hl, h, _ => by
    simp only [ioOuts, Option.some.injEq] at h
    subst h
    cases vs with
    | nil => exact ⟨trivial, fun i j n hp => by simp [PosI] at hp⟩
    | cons v vs => simp at hl
  | m :: ms, s, [], os, Ω, _, _, _, hl, h, _ => by simp at hl
  | m :: ms, s, v :: vs, os, Ω, hm, hk, hv, hl, h, hΩ => by
    have hm' : ioModes ms = true := by cases m <;> simp_all [ioModes]
    have hv' : ∀ (i : Nat) ks u, ms[i]? = some (.io ks) → vs[i]? = some u → VRel R G st.h (lkm C.keep st.m (s + 1 + i)) u := fun i ks u h1 h2 => by
      have := hv (i + 1) ks u (by simpa using h1) (by simpa using h2)
      rwa [show s + (i + 1) = s + 1 + i by omega] at this
    have hΩ' : ∀ i j k, Ω (i + 1) j k ↔ thI G ms (parS C st (s + 1) ms) i j k := fun i j k => by
      rw [hΩ]; simp only [thI, parS, posI_tail]
    cases m with
    | io ks =>
      simp only [ioOuts] at h
      split at h
      · rename_i x r ht hr
        cases h
        have hx := hv 0 ks v rfl rfl
        rw [Nat.add_zero] at hx
        have hok := takeI_okSV ht
        obtain ⟨c1, c2⟩ := cells_ok hx hok
        have hu : CellsAt R G st.h (cellsOf (lkm C.keep st.m s)) v.cells.toList := ⟨by simpa using c1, fun j y hj => by obtain ⟨q, k1, k2, k3⟩ := c2 j y hj; exact ⟨q, by simpa using k1, k2, k3⟩⟩
        have hK := takeI_kc' (Rr := R) (fun h => h) H hu ht
        obtain ⟨o1, o2⟩ := ioOuts_ok H ms (s + 1) vs r (fun i => Ω (i + 1)) hm' (fun ks' hq => hk ks' (by simp [hq])) hv' (by simpa using hl) hr hΩ'
        have e2 : (fun j => Ω 0 (j + 1)) = fun j k => ∃ n, (cellsOf (lkm C.keep st.m s))[j]? = some (.own n) ∧ G.φ n k := by
          funext j k
          refine propext ?_
          rw [hΩ]
          constructor
          · rintro ⟨j', n, e1, ⟨ks', v', p1, p2, p3⟩, e3⟩
            simp [parS] at p2; subst p2
            have : j = j' := by omega
            subst this
            exact ⟨n, p3, e3⟩
          · rintro ⟨n, e1, e3⟩
            exact ⟨j, n, rfl, ⟨ks, _, rfl, by simp [parS], e1⟩, e3⟩
        refine ⟨⟨by rw [e2]; exact hK, o1⟩, fun i j n hp => ?_⟩
        cases i with
        | zero =>
          obtain ⟨ks', v', p1, p2, p3⟩ := hp
          simp [parS] at p2; subst p2
          obtain ⟨y, _, _, hy⟩ := c2 j _ p3
          obtain ⟨t1, t2, t3⟩ := takeI_get ht
          have hj : j < (cellsOf (lkm C.keep st.m s)).length := (List.getElem?_eq_some_iff.1 p3).1
          rcases t3 j (ks[j]'(by omega)) _ (x[j]'(by omega)) (by simp) p3 (by simp) with ⟨_, e⟩ | ⟨e, sz, n', ys, _, e5, _, hrow⟩
          · cases e
          · cases e5; exact ⟨hy.1, e, sz, ys, hrow⟩
        | succ i => exact o2 i j n (posI_tail.1 hp)
      · cases h
    | bor =>
      have h' : ioOuts C st (s + 1) ms = some os := by simpa [ioOuts] using h
      obtain ⟨o1, o2⟩ := ioOuts_ok H ms (s + 1) vs os (fun i => Ω (i + 1)) hm' (fun ks' hq => hk ks' (by simp [hq])) hv' (by simpa using hl) h' hΩ'
      refine ⟨by cases os <;> exact o1, fun i j n hp => ?_⟩
      cases i with
      | zero => obtain ⟨ks', v', p1, _⟩ := hp; simp at p1
      | succ i => exact o2 i j n (posI_tail.1 hp)
    | _ => simp [ioModes] at hm
theorem argsK_len {P : Program} : ∀ {ms : List Mode} {xs : List DV} {vs : List Value} {Θ : Nat → Nat → Nat → Prop}, ArgsK P R ms xs vs Θ → vs.length = ms.length
  | [], [], [], _, _ => rfl
  | [], [], _ :: _, _, h => h.elim
  | [], _ :: _, vs, _, h => by cases vs <;> exact h.elim
  | _ :: _, [], vs, _, h => by cases vs <;> exact h.elim
  | _ :: _, _ :: _, [], _, h => h.elim
  | m :: ms, x :: xs, v :: vs, _, h => by simp [argsK_len h.2]
/-- The parameters whose memory is handed back where it stood. -/
def ioIx : Nat → List Mode → List Nat | _, [] => [] | s, .io _ :: ms => s :: ioIx (s + 1) ms | s, _ :: ms => ioIx (s + 1) ms
theorem mem_ioIx : ∀ {ms : List Mode} {s i : Nat} {ks : List (Option (Nat × Nat))}, ms[i]? = some (.io ks) → s + i ∈ ioIx s ms
  | [], s, i, ks, h => by simp at h
  | m :: ms, s, 0, ks, h => by simp at h; subst h; simp [ioIx]
  | m :: ms, s, i + 1, ks, h => by
    have := mem_ioIx (s := s + 1) (i := i) (ks := ks) (ms := ms) (by simpa using h)
    rw [show s + (i + 1) = s + 1 + i by omega]
    cases m <;> simp [ioIx, this]

theorem resVs_sound : ∀ {rs : List ResultVar} {vs : List SV}, Inv C R G st a w → resVs C st rs = some vs → ∃ rv : List Value, rs.length = rv.length ∧ (∀ (j : Nat) r v, rs[j]? = some r → rv[j]? = some v → resRun C.P a.tmps w r v) ∧ ValsAt R G st.h vs rv
  | [], vs, H, h => by
    simp only [resVs, Option.some.injEq] at h
    subst h
    exact ⟨[], rfl, fun j r v hj => by simp at hj, rfl, fun j x hj => by simp at hj⟩
  | r :: rs, vs, H, h => by
    simp only [resVs] at h
    split at h
    · rename_i x xs hx hxs
      cases h
      obtain ⟨u, h1, h2⟩ := resV_sound H hx
      obtain ⟨rv, h3, h4, h5⟩ := resVs_sound H hxs
      refine ⟨u :: rv, by simp [h3], fun j r' v hj hv => ?_, by simp [h5.1], fun j y hj => ?_⟩
      · cases j with
        | zero => simp at hj hv; subst hj hv; exact h1
        | succ j => exact h4 j r' v (by simpa using hj) (by simpa using hv)
      · cases j with
        | zero => simp at hj; subst hj; exact ⟨u, rfl, h2⟩
        | succ j => simpa using h5.2 j y (by simpa using hj)
    · cases h

theorem crel_fixed {h : List (Nat × Blk)} {x : SV} {u : Value} {f : Nat → Option (Nat × Nat)} (hf : R.fix = fun _ => none) (hx : CRel R G h x u) : CRel (R.fixed f) G h x u := by
  cases x <;> first | exact hx | skip
  obtain ⟨⟨b, hb, _⟩, _⟩ := hx
  rw [hf] at hb; cases hb
theorem arel_fixed {h : List (Nat × Blk)} {x : SV} {u : Value} {f : Nat → Option (Nat × Nat)} (hf : R.fix = fun _ => none) (hx : ARel R G h x u) : ARel (R.fixed f) G h x u := by
  cases x with
  | agg cs =>
    obtain ⟨vs, h1, h2, h3⟩ := hx
    exact ⟨vs, h1, h2, fun j y hj => by obtain ⟨q, q1, q2, q3⟩ := h3 j y hj; exact ⟨q, q1, q2, crel_fixed hf q3⟩⟩
  | bx n j d => exact crel_fixed (G := G) (h := h) (x := .bx n j d) hf hx
  | _ => exact hx
theorem vrel_fixed {h : List (Nat × Blk)} {x : SV} {u : Value} {f : Nat → Option (Nat × Nat)} (hf : R.fix = fun _ => none) (hx : VRel R G h x u) : VRel (R.fixed f) G h x u := by
  cases x with
  | tup xs =>
    obtain ⟨vs, h1, h2, h3⟩ := hx
    exact ⟨vs, h1, h2, fun j y hj => by obtain ⟨q, q1, q2⟩ := h3 j y hj; exact ⟨q, q1, arel_fixed hf q2⟩⟩
  | agg cs => exact arel_fixed (x := .agg cs) hf hx
  | bx n j d => exact crel_fixed (G := G) (h := h) (x := .bx n j d) hf hx
  | _ => exact hx
theorem brel_fixed {P : Program} {h : List (Nat × Blk)} {n : Nat} {b : Blk} {f : Nat → Option (Nat × Nat)} (hf : R.fix = fun _ => none) (hx : BRel R G h P w n b) : BRel (R.fixed f) G h P w n b := by
  cases b with
  | row e sz xs => exact hx
  | box cs =>
    obtain ⟨cur, e, h1, h2, h3, h4, h5⟩ := hx
    exact ⟨cur, e, h1, h2, h3, h4, fun j y hj => by obtain ⟨q, q1, q2, q3⟩ := h5 j y hj; exact ⟨q, q1, q2, crel_fixed hf q3⟩⟩
theorem bxs_len (n : Nat) : ∀ (j : Nat) (ks : List (Option (Nat × Nat))) (cs : List SV), (bxs n j ks cs).length = cs.length
  | j, [], cs => by cases cs <;> rfl
  | j, k :: ks, [] => by cases k <;> rfl
  | j, none :: ks, c :: cs => by cases c <;> simp only [bxs, List.length_cons, bxs_len n (j + 1) ks cs]
  | j, some p :: ks, c :: cs => by simp only [bxs, List.length_cons, bxs_len n (j + 1) ks cs]
theorem bxs_get (n : Nat) : ∀ (j0 : Nat) (ks : List (Option (Nat × Nat))) (cs : List SV) (j : Nat) (y : SV), (bxs n j0 ks cs)[j]? = some y → ∃ c, cs[j]? = some c ∧ (y = c ∨ ∃ x, c = .d x ∧ y = .bx n (j0 + j) x)
  | j0, [], cs, j, y, h => ⟨y, by cases cs <;> exact h, .inl rfl⟩
  | j0, k :: ks, [], j, y, h => by cases k <;> simp [bxs] at h
  | j0, none :: ks, c :: cs, 0, y, h => by
    cases c with
    | d x =>
      simp only [bxs, List.getElem?_cons_zero, Option.some.injEq] at h
      refine ⟨.d x, rfl, ?_⟩
      cases hs : isSc x with
      | true => rw [hs] at h; simp at h; exact .inl h.symm
      | false => rw [hs] at h; simp at h; exact .inr ⟨x, rfl, h.symm⟩
    | _ => simp only [bxs, List.getElem?_cons_zero, Option.some.injEq] at h; subst h; exact ⟨_, rfl, .inl rfl⟩
  | j0, some p :: ks, c :: cs, 0, y, h => by
    simp only [bxs, List.getElem?_cons_zero, Option.some.injEq] at h; subst h; exact ⟨_, rfl, .inl rfl⟩
  | j0, none :: ks, c :: cs, j + 1, y, h => by
    have h' : (bxs n (j0 + 1) ks cs)[j]? = some y := by cases c <;> simpa only [bxs, List.getElem?_cons_succ] using h
    obtain ⟨c', h1, h2⟩ := bxs_get n (j0 + 1) ks cs j y h'
    rw [show j0 + 1 + j = j0 + (j + 1) by omega] at h2
    exact ⟨c', by simpa using h1, h2⟩
  | j0, some p :: ks, c :: cs, j + 1, y, h => by
    have h' : (bxs n (j0 + 1) ks cs)[j]? = some y := by simpa only [bxs, List.getElem?_cons_succ] using h
    obtain ⟨c', h1, h2⟩ := bxs_get n (j0 + 1) ks cs j y h'
    rw [show j0 + 1 + j = j0 + (j + 1) by omega] at h2
    exact ⟨c', by simpa using h1, h2⟩
theorem bx_inv {n : Nat} {cs : List SV} {ks : List (Option (Nat × Nat))} (H : Inv C R G st a w) (hw : w = R.w0) (hf : R.fix n = some (G.base n)) (hb : hlk st.h n = some (.box cs)) :
    Inv C R G { st with h := hset st.h n (.box (bxs n 0 ks cs)) } a w := by
  have hs : ∀ k, Same G st.h G (hset st.h n (.box (bxs n 0 ks cs))) k := fun k hk => ⟨hk, rfl, rfl, fun e sz xs hx => ⟨xs, by rw [hlk_hset, if_neg (fun e => by subst e; rw [hb] at hx; cases hx)]; exact hx⟩⟩
  refine ⟨H.W, ⟨fun k hk hS => ?_, H.B.disj, H.B.mine, fun k b' hf' => ?_⟩, fun _ _ _ => id, fun t => slot_same hs (H.slots t), H.l, H.m⟩
  · obtain ⟨b, h1, h2⟩ := H.B.rel k hk hS
    by_cases hkn : k = n
    · subst hkn
      rw [hb] at h1; cases h1
      obtain ⟨cur, e, b1, b2, b3, b4, b5⟩ := h2
      refine ⟨.box (bxs k 0 ks cs), by show hlk (hset st.h k _) k = _; rw [hlk_hset, if_pos rfl], cur, e, b1, b2, by rw [bxs_len]; exact b3, by rw [bxs_len]; exact b4, fun j y hj => ?_⟩
      obtain ⟨c, c1, c2⟩ := bxs_get k 0 ks cs j y hj
      obtain ⟨q, q1, q2, q3⟩ := b5 j c c1
      refine ⟨q, q1, q2, ?_⟩
      rcases c2 with rfl | ⟨x, rfl, rfl⟩
      · exact crel_same (fun m _ => hs m) q3
      · exact ⟨⟨_, hf, by rw [← hw, Nat.zero_add, cell_of_row w _ _ cur e (0, 0) b1]; exact q1⟩, q3⟩
    · exact ⟨b, by show hlk (hset st.h n _) k = _; rw [hlk_hset, if_neg hkn]; exact h1, brel_same hs rfl rfl rfl h2⟩
  · obtain ⟨h1, h2, h3⟩ := H.B.fix k b' hf'
    refine ⟨h1, h2, fun hS => ?_⟩
    obtain ⟨ds, hc⟩ := h3 hS
    by_cases hkn : k = n
    · subst hkn; exact ⟨_, by show hlk (hset st.h k _) k = _; rw [hlk_hset, if_pos rfl]⟩
    · exact ⟨ds, by show hlk (hset st.h n _) k = _; rw [hlk_hset, if_neg hkn]; exact hc⟩
theorem bxH_inv (hw : w = R.w0) : ∀ (ms : List Mode) (s : Nat) (st : St), Inv C R G st a w → (∀ n ∈ ptrNames s ms, R.fix n = some (G.base n)) → Inv C R G { st with h := bxH s ms st.h } a w
  | [], s, st, H, _ => H
  | m :: ms, s, st, H, hf => by
    cases m with
    | ptr ks =>
      simp only [bxH]
      split
      · rename_i cs hb
        exact bxH_inv hw ms (s + 1) _ (bx_inv H hw (hf _ (by simp [ptrNames])) hb) (fun n hn => hf n (by simp [ptrNames, hn]))
      · exact bxH_inv hw ms (s + 1) st H (fun n hn => hf n (by simp [ptrNames, hn]))
    | _ => exact bxH_inv hw ms (s + 1) st H hf
theorem noPtr_names : ∀ {ms : List Mode} {s : Nat}, noPtr ms = true → ptrNames s ms = []
  | [], s, _ => rfl
  | m :: ms, s, h => by
    have h' : noPtr ms = true := by cases m <;> first | exact h | cases h
    cases m with
    | ptr ks => cases h
    | _ => exact noPtr_names (s := s + 1) h'
theorem spec_body {P : Program} {sig : Nat → Sig} {F : Nat → List DV → Bool × List DV × List (List D)} {k f : Nat} {fn : Func} {c : Code} (hC : CtxOk ⟨P, sig, F, (sig f).keep, (sig f).ord⟩) (hfn : P.funcs[f]? = some fn) (hbody : fn.body = some c) (hchk : chkCode (sig f).ord fn.ntmps (ioIx 0 (sig f).ms) c = true) (hsg : SigOk P (sig f)) : SpecOk P (sig f) (evalBody P sig F k f) f := by
  intro R xs vs Θ rs outs hF hfix hpre
  unfold evalBody at hF
  rw [hfn] at hF
  dsimp only at hF
  rw [hbody] at hF
  dsimp only at hF
  split at hF
  · rename_i svs h hinit
    split at hF
    · rename_i st hadds
      let C : Ctx := ⟨P, sig, F, (sig f).keep, (sig f).ord⟩
      let a0 : Act := { tmps := vs.toArray ++ Array.replicate (fn.ntmps - vs.toArray.size) undef, defers := [] }
      -- the beginning
      have H0 : Inv C R ⟨fun _ => False, fun _ => (0, 0), fun _ => undef, fun _ _ => False⟩ ⟨List.replicate C.keep.length .undef, [], []⟩ a0 R.w0 :=
        ⟨hpre.W, ⟨fun n hn => hn.elim, fun n m hn => hn.elim, fun n hn => hn.elim, fun n b hb => by rw [hfix] at hb; cases hb⟩, fun _ _ _ => id, fun t => by unfold SlotR; simp only [lk, lkm_replicate]; trivial, fun t q c v h => (by cases h), by simp⟩
      obtain ⟨G2, i1, i2, i3, i4, i5⟩ := init_sound (C := C) rfl (sig f).ms 0 xs vs Θ svs h _ _ _ hinit hpre.args H0 hpre.mine hpre.lb hpre.apart (fun _ _ _ _ _ hl => hl.elim) (adds_h (List.replicate C.keep.length .undef) [] hadds)
      obtain ⟨_, hm, hl⟩ := adds_keep hadds
      have hm' : st.m = initM (sig f).keep svs := hm
      have hl' : st.l = [] := hl
      have hborn := born_names i5
      let Rf := R.fixed (fixOf G2 (ptrNames 0 (sig f).ms))
      have hslots : ∀ t, SlotR C Rf G2 st a0 t := fun t => by
        unfold SlotR
        rw [hl', hm']
        simp only [lk]
        show VRel Rf G2 st.h (lkm (sig f).keep (initM (sig f).keep svs) t) _
        refine vrel_fixed hfix ?_
        rw [lkm_initM, nth_eq]
        split
        · cases ht : svs[t]? with
          | none => trivial
          | some x =>
            obtain ⟨u, h1, h2⟩ := i3.2 t x ht
            have : a0.tmps.getD t undef = u := by
              have hlt : t < vs.length := (List.getElem?_eq_some_iff.1 h1).1
              show (vs.toArray ++ Array.replicate (fn.ntmps - vs.toArray.size) undef).getD t undef = u
              rw [Array.getD_eq_getD_getElem?, Array.getElem?_append_left (by simpa using hlt)]
              simp [h1]
            rw [this]
            exact h2
        · trivial
      have H1 : Inv C Rf G2 st a0 R.w0 :=
        ⟨winv_fixed i1.W, ⟨fun n hn hS => by obtain ⟨b, h1, h2⟩ := i1.B.rel n hn hS; exact ⟨b, h1, brel_fixed hfix h2⟩, i1.B.disj, i1.B.mine, fun n b hb => by
          show G2.live n ∧ G2.base n = b ∧ _
          have hb' : fixOf G2 (ptrNames 0 (sig f).ms) n = some b := hb
          unfold fixOf at hb'
          split at hb'
          · rename_i hn
            cases hb'
            exact ⟨(hborn n hn).1, rfl, fun _ => (hborn n hn).2⟩
          · cases hb'⟩, fun _ _ _ => id, hslots, by rw [hl']; exact fun t q c v h => (by cases h), by rw [hm', initM_len]⟩
      have H2 := bxH_inv rfl (sig f).ms 0 st H1 (fun n hn => by show fixOf G2 (ptrNames 0 (sig f).ms) n = _; simp [fixOf, hn])
      refine calls_of_wp hfn hbody ?_
      show c.wp P _ a0 R.w0
      -- the way out
      have out : ∀ {ex : Ex} {st' : St}, (ex = .normal ∨ ex = .ret) → (match resVs C st' fn.results.toList with
          | some vs => if hasIo (sig f).ms then finIo C (sig f) st' vs else (match resOfs (sig f).ms st' (sig f).r vs with
            | some (rs, st1) => (match outsOf 0 st1 (sig f).ms with | some (outs, _) => some (rs, outs) | none => none)
            | none => none)
          | none => none) = some (rs, outs) → ∀ a' w', After C Rf a0.tmps.size (ioIx 0 (sig f).ms) a0 st' a' w' → a'.defers = [] ∧ ∃ v, (results fn a'.tmps).run P w' = .ok v w' ∧ ∃ rv Ξ Ω, Ending.returned v = .returned (valOf rv) ∧ Post P (sig f) R vs rs outs rv w' Ξ Ω := by
        intro ex st' _ hres a' w' ⟨G, H, hl0, hsz, hdef⟩
        split at hres
        · rename_i us hus
          obtain ⟨rv, r1, r2, r3⟩ := resVs_sound H hus
          split at hres
          · refine ⟨hdef.1, valOf rv, run_results r1 r2, ?_⟩
            unfold finIo at hres
            split at hres
            · rename_i zs hr
              split at hres
              · rename_i hck
                simp only [Bool.and_eq_true] at hck
                split at hres
                · rename_i rs1 outs1 hrs hou
                  cases hres
                  have hnd := nodupB_ok hck.1
                  rw [ioNames_eq] at hnd
                  have hval : ∀ (i : Nat) ks v, (sig f).ms[i]? = some (.io ks) → vs[i]? = some v → VRel Rf G st'.h (lkm C.keep st'.m (0 + i)) v := fun i ks v h1 h2 => by
                    have h3 := H.slots i
                    unfold SlotR at h3
                    rw [hl0] at h3
                    simp only [lk] at h3
                    have h4 := hdef.2 (0 + i) (mem_ioIx h1)
                    rw [Nat.zero_add] at h4 ⊢
                    have h5 : a0.tmps[i]? = some v := by
                      have hlt : i < vs.length := (List.getElem?_eq_some_iff.1 h2).1
                      show (vs.toArray ++ Array.replicate (fn.ntmps - vs.toArray.size) undef)[i]? = some v
                      rw [Array.getElem?_append_left (by simpa using hlt)]
                      simpa using h2
                    rw [h5] at h4
                    rw [Array.getD_eq_getD_getElem?, h4] at h3
                    exact h3
                  obtain ⟨o1, o2⟩ := ioOuts_ok (R := Rf) H (sig f).ms 0 vs _ (thI G (sig f).ms (parS C st' 0 (sig f).ms)) hck.2 (fun ks hk => hsg.1 ks (.inr hk)) hval (argsK_len hpre.args) hou (fun _ _ _ => Iff.rfl)
                  refine ⟨rv, fun _ _ _ => False, _, rfl, winv_unfix H.W, by rw [hr]; exact scs_unfix (resSc_sound hrs r3), outs_unfix o1, fun _ _ _ h => h.elim, fun i j k ⟨j', n, _, hp, hφ⟩ => H.B.mine n (o2 _ _ _ hp).1 id k hφ, fun i j k ⟨j', n, _, hp, hφ⟩ lo hi hlb => ?_, fun _ _ _ _ _ h => h.elim, fun i j i' j' k ⟨q, n, e1, hp, hφ⟩ ⟨q', n', e1', hp', hφ'⟩ => ?_, fun _ _ _ _ _ h => h.elim⟩
                  · obtain ⟨hlv, e, sz, ys, hrow⟩ := o2 _ _ _ hp
                    obtain ⟨b, hb, hbr⟩ := H.B.rel n hlv id
                    rw [hrow] at hb; cases hb
                    exact hbr.2.2.2 k lo hi hφ hlb
                  · have : n = n' := Classical.byContradiction fun hne => H.B.disj n n' (o2 _ _ _ hp).1 id (o2 _ _ _ hp').1 id hne k hφ hφ'
                    subst this
                    obtain ⟨e2, e3⟩ := posI_inj hnd hp hp'
                    exact ⟨e2, by omega⟩
                · cases hres
              · cases hres
            · cases hres
          split at hres
          · rename_i rs' st1 hro
            split at hres
            · rename_i outs' st2 hou
              cases hres
              refine ⟨hdef.1, valOf rv, run_results r1 r2, ?_⟩
              have hK : ∃ G1 Ξ, Inv C Rf G1 st1 a' w' ∧ Gle G1 G ∧ ResK P R w' (sig f).r rs rv Ξ ∧ (∀ i j k, Ξ i j k → k < w'.heap.size ∧ (R.L k ∨ R.w0.heap.size ≤ k) ∧ ∀ lo hi, ¬ R.LB k lo hi) ∧ Apart3 Ξ ∧ (∀ i j k n, Ξ i j k → G1.live n → G1.φ n k → False) := by
                cases hr : (sig f).r with
                | sc zs =>
                  rw [hr] at hro
                  simp only [resOfs] at hro
                  split at hro
                  · rename_i rr hrr
                    cases hro
                    exact ⟨G, fun _ _ _ => False, H, Gle.refl G, scs_unfix (resSc_sound hrr r3), fun _ _ _ h => h.elim, fun _ _ _ _ _ h => h.elim, fun _ _ _ _ h => h.elim⟩
                  · cases hro
                | fresh kss =>
                  rw [hr] at hro
                  simp only [resOfs] at hro
                  obtain ⟨G1, Ξ, q1, q2, _, q4, q5, q6, _, q8⟩ := resFr_sound (G0 := G) (h0 := st'.h) kss us rv st' G rs st1 H (Gle.refl G) (Has.refl _ _) (fun ks hk => hsg.2 kss (.inl hr) ks hk) r3 hro
                  exact ⟨G1, Ξ, q1, q2, rets_unfix q4, q5, q6, q8⟩
                | freshT zs kss =>
                  rw [hr] at hro
                  simp only [resOfs] at hro
                  split at hro
                  · rename_i rs2 st2 hfr
                    split at hro
                    · rename_i b hb
                      split at hro
                      · rename_i hsh
                        cases hro
                        obtain ⟨G1, Ξ, q1, q2, _, q4, q5, q6, _, q8⟩ := resFr_sound (G0 := G) (h0 := st'.h) kss us rv st' G rs st1 H (Gle.refl G) (Has.refl _ _) (fun ks hk => hsg.2 kss (.inr (.inl ⟨zs, hr⟩)) ks hk) r3 hfr
                        obtain ⟨us', e1⟩ := rets_last (rets_unfix q4) hb
                        exact ⟨G1, Ξ, q1, q2, ⟨b, us', hb, e1, rets_shape (rets_unfix q4) hsh, fun _ => rets_unfix q4⟩, q5, q6, q8⟩
                      · cases hro
                    · cases hro
                  · split at hro
                    · rename_i hck
                      cases hro
                      simp only [Bool.and_eq_true] at hck
                      obtain ⟨us', e1⟩ := lastF_vals r3 hck.1.1
                      have hz : lastB rs = some false := by
                        have := hck.1.2
                        unfold lastN at this
                        split at this
                        · assumption
                        · cases this
                      exact ⟨G, fun _ _ _ => False, H, Gle.refl G, ⟨false, us', hz, e1, shS_vals r3 hck.2, fun h => (by cases h)⟩, fun _ _ _ h => h.elim, fun _ _ _ _ _ h => h.elim, fun _ _ _ _ h => h.elim⟩
                    · cases hro
                | nptr ks =>
                  rw [hr] at hro
                  match us, r3, hro with
                  | [], _, hro => simp [resOfs] at hro
                  | _ :: _ :: _, _, hro => simp [resOfs] at hro
                  | [x], r3, hro =>
                    obtain ⟨u, rv', rfl, hx, hnil⟩ := r3.tail
                    have hrv : rv' = [] := List.eq_nil_of_length_eq_zero (by simpa using hnil.1)
                    subst hrv
                    have hx' : ∃ n, x = .ptr n 0 := by
                      cases x with
                      | ptr n o =>
                        cases o with
                        | zero => exact ⟨n, rfl⟩
                        | succ o => simp [resOfs] at hro
                      | _ => simp [resOfs] at hro
                    obtain ⟨n, rfl⟩ := hx'
                    simp only [resOfs] at hro
                    split at hro
                    · rename_i hnp
                      unfold resNp at hro
                      split at hro
                      · rename_i cs hbox
                        split at hro
                        · rename_i ds st2 htk
                          cases hro
                          have hfixn : Rf.fix n = none := by
                            show fixOf G2 (ptrNames 0 (sig f).ms) n = none
                            rw [noPtr_names hnp]; simp [fixOf]
                          obtain ⟨hl0, hu⟩ := hx
                          obtain ⟨b, hb', hbr⟩ := H.B.rel n hl0 id
                          rw [hbox] at hb'; cases hb'
                          obtain ⟨cur, e, b1, b2, b3, b4, b5⟩ := hbr
                          have hmn := H.B.mine n hl0 id _ b2
                          have hcells : CellsAt Rf G st'.h cs ((cur.toList.drop (G.base n).2).take cs.length) := ⟨by simp; omega, fun j y hj => by
                            obtain ⟨q, q1, q2, q3⟩ := b5 j y hj
                            refine ⟨q, ?_, q2, q3⟩
                            rw [List.getElem?_take, if_pos (List.getElem?_eq_some_iff.1 hj).1, List.getElem?_drop]
                            simpa using q1⟩
                          obtain ⟨G1, θ, i1, i2, i8, i3, i4, i5, i6, i7, i9, i10, i11⟩ := takeK_sound (G0 := G) (h0 := st'.h) ks cs _ (st'.give n) (G.drop n) ds st1 (give_box H hbox hfixn) ((Gle.refl G).drop n) (has_give G n) (fun e' sz' hm => hsg.2 [ks] (.inr (.inr ⟨ks, rfl, hr⟩)) ks (by simp) e' sz' hm) hcells htk
                          have hnl : ∀ m, G1.live m → m ≠ n := fun m hm => (i2.1 m hm).2
                          refine ⟨G1, fun i j k => i = 0 ∧ (match j with | 0 => k = (G.base n).1 | j + 1 => θ j k), i1, i2.trans ((Gle.refl G).drop n), ⟨ds, (G.base n).1, (G.base n).2, cur, e, (cur.toList.drop (G.base n).2).take cs.length, rfl, ?_, b1, ⟨rfl, rfl⟩, ?_, fun j v hj => ?_, ?_, hpre.noLB hnp _⟩, fun i j k h => ?_, fun i j i' j' k h h' => ?_, fun i j k m h hm hφ => ?_⟩
                          · rw [hu]; rfl
                          · rw [← i3.2.1]; simp; omega
                          · rw [List.getElem?_take] at hj
                            split at hj
                            · rw [List.getElem?_drop] at hj; simpa using hj
                            · cases hj
                          · refine ⟨i3.1, i3.2.1, fun j k d v a1 a2 a3 => ?_⟩
                            obtain ⟨c1, c2⟩ := i3.2.2 j k d v a1 a2 a3
                            refine ⟨c1, ?_⟩
                            cases k with
                            | none => exact c2
                            | some p => obtain ⟨xs', c3, c4, c5⟩ := c2; exact ⟨xs', c3, by simpa using c4, c5⟩
                          · obtain ⟨rfl, h⟩ := h
                            cases j with
                            | zero =>
                              have h : k = (G.base n).1 := h
                              subst h
                              exact ⟨hmn.1, hmn.2, hpre.noLB hnp _⟩
                            | succ j => exact i4 j k h
                          · obtain ⟨rfl, h⟩ := h
                            obtain ⟨rfl, h'⟩ := h'
                            refine ⟨rfl, ?_⟩
                            have cross : ∀ {j : Nat}, k = (G.base n).1 → θ j k → False := fun e1 e2 => by
                              obtain ⟨m, m1, m2⟩ := i6 _ _ e2
                              subst e1
                              exact H.B.disj n m hl0 id m1.1.1 id (fun e => m1.1.2 e.symm) _ b2 m2
                            cases j with
                            | zero =>
                              cases j' with
                              | zero => rfl
                              | succ j' => exact (cross h h').elim
                            | succ j =>
                              cases j' with
                              | zero => exact (cross h' h).elim
                              | succ j' => rw [i5 j j' k h h']
                          · obtain ⟨rfl, h⟩ := h
                            cases j with
                            | zero =>
                              have h : k = (G.base n).1 := h
                              subst h
                              have hm' := i2.1 m hm
                              rw [i2.2.2.2] at hφ
                              exact H.B.disj n m hl0 id hm'.1 id (fun e => hm'.2 e.symm) _ b2 hφ
                            | succ j => exact i7 j k m h hm id hφ
                        · cases hro
                      · cases hro
                    · cases hro
                | ep zs =>
                  rw [hr] at hro
                  match us, r3, hro with
                  | [x], r3, hro =>
                    simp only [resOfs] at hro
                    split at hro
                    · rename_i b ds hep
                      cases hro
                      obtain ⟨u, rv', rfl, hx, hnil⟩ := r3.tail
                      have hrv : rv' = [] := List.eq_nil_of_length_eq_zero (by simpa using hnil.1)
                      subst hrv
                      exact ⟨G, fun _ _ _ => False, H, Gle.refl G, ⟨b, ds, u, rfl, rfl, epD_ok hep hx⟩, fun _ _ _ h => h.elim, fun _ _ _ _ _ h => h.elim, fun _ _ _ _ h => h.elim⟩
                    · cases hro
                  | [], _, hro => simp [resOfs] at hro
                  | _ :: _ :: _, _, hro => simp [resOfs] at hro
              obtain ⟨G1, Ξ, q1, q2, q3, q4, q5, q6⟩ := hK
              have hpl : Places G1 0 (sig f).ms vs := places_of (fun n hn => by
                obtain ⟨_, h2, _⟩ := q1.B.fix n (G2.base n) (by show fixOf G2 (ptrNames 0 (sig f).ms) n = _; simp [fixOf, hn])
                exact h2) i4
              obtain ⟨G', Ω, o1, o2, o3, o4, o5, o6, o7, o8, o9⟩ := outsOf_sound (R := Rf) (sig f).ms 0 vs st1 G1 outs st2 q1 (fun ks hk => hsg.1 ks (.inl (.inl hk))) (fixes_of fun _ h => h) hpl hou
              exact ⟨rv, Ξ, Ω, rfl, winv_unfix q1.W, q3, outs_unfix o3, q4, o4, o5, q5, o6, fun i j i' j' k h1 h2 => by
                obtain ⟨n, n1, n2⟩ := o7 _ _ _ h2
                exact q6 i j k n h1 n1 n2⟩
            · cases hres
          · cases hres
        · cases hres
      cases hden : den C k c { st with h := bxH 0 (sig f).ms st.h } with
      | none => rw [hden] at hF; simp [fin] at hF
      | some r =>
        obtain ⟨ex, st'⟩ := r
        rw [hden] at hF
        have hsz0 : fn.ntmps ≤ a0.tmps.size := by
          show fn.ntmps ≤ (vs.toArray ++ Array.replicate (fn.ntmps - vs.toArray.size) undef).size
          simp
          omega
        refine den_sound hC a0.tmps.size (ioIx 0 (sig f).ms) a0 k c _ st' ex a0 R.w0 _ hden ⟨G2, H2, hl', rfl, Still.refl _ _⟩ (chkCode_mono hsz0 hchk) (fun a' w' hA => ?_)
        cases ex with
        | normal => exact out (ex := .normal) (.inl rfl) hF a' w' hA
        | ret => exact out (ex := .ret) (.inr rfl) hF a' w' hA
        | exit i => simp [fin] at hF
    · cases hF
  · cases hF
end Go.Den

/- All functions together. -/
namespace Go.Den
open Go

abbrev Rs := Option (List DV × List (List D))
/-- The functions of less depth than d. -/
def Gd (G : Nat → List DV → Bool × List DV × List (List D)) (dep : Nat → Nat) (d f : Nat) (xs : List DV) : Bool × List DV × List (List D) := if dep f < d then G f xs else (false, [], [])
/-- What the kernel looks at, of a function. -/
def FnOk (P : Program) (sig : Nat → Sig) (f : Nat) : Prop :=
  ∃ fn c, P.funcs[f]? = some fn ∧ fn.body = some c ∧ (fn.name == "runtime.NumGoroutine") = false ∧ chkCode (sig f).ord fn.ntmps (ioIx 0 (sig f).ms) c = true ∧ SigOk P (sig f)
def eOkB (P : Program) (k : Option (Nat × Nat)) : Bool :=
  match k with
  | none => true
  | some (e, sz) => if e = wk then decide (0 < sz) else match P.info? e with | some i => decide (i.size = sz) && decide (0 < sz) | none => false
def sigOkB (P : Program) (sg : Sig) : Bool :=
  (sg.ms.all fun m => match m with | .ptr ks => ks.all (eOkB P) | .own ks => ks.all (eOkB P) | .io ks => ks.all (eOkB P) | _ => true) &&
  (match sg.r with | .fresh kss => (kss.all fun ks => ks.all (eOkB P)) | .freshT _ kss => (kss.all fun ks => ks.all (eOkB P)) | .nptr ks => ks.all (eOkB P) | _ => true)
def fnOkB (P : Program) (sig : Nat → Sig) (f : Nat) : Bool :=
  match P.funcs[f]? with
  | some fn => (match fn.body with
    | some c => !(fn.name == "runtime.NumGoroutine") && chkCode (sig f).ord fn.ntmps (ioIx 0 (sig f).ms) c && sigOkB P (sig f)
    | none => false)
  | none => false
theorem kOk_of {P : Program} {ks : List (Option (Nat × Nat))} (h : ks.all (eOkB P) = true) : KOk P ks := fun e sz hm => by
  have := List.all_eq_true.1 h _ hm
  unfold eOkB at this
  dsimp only at this
  split at this
  · rename_i hwk; exact ⟨.inl hwk, by simpa using this⟩
  split at this
  · rename_i i hi
    simp only [Bool.and_eq_true, decide_eq_true_eq] at this
    exact ⟨.inr ⟨i, hi, this.1⟩, this.2⟩
  · cases this
theorem sigOk_of {P : Program} {sg : Sig} (h : sigOkB P sg = true) : SigOk P sg := by
  simp only [sigOkB, Bool.and_eq_true, List.all_eq_true] at h
  refine ⟨fun ks hk => ?_, fun kss hr ks hk => ?_⟩
  · rcases hk with (hk | hk) | hk
    · exact kOk_of (h.1 _ hk)
    · exact kOk_of (h.1 _ hk)
    · exact kOk_of (h.1 _ hk)
  · have := h.2
    rcases hr with hr | ⟨_, hr⟩ | ⟨ks', rfl, hr⟩
    · rw [hr] at this; exact kOk_of (List.all_eq_true.2 fun x hx => (List.all_eq_true.1 this ks hk |> fun h => List.all_eq_true.1 h x hx))
    · rw [hr] at this; exact kOk_of (List.all_eq_true.2 fun x hx => (List.all_eq_true.1 this ks hk |> fun h => List.all_eq_true.1 h x hx))
    · rw [hr] at this; simp only [List.mem_singleton] at hk; subst hk; exact kOk_of this
theorem fnOk_of {P : Program} {sig : Nat → Sig} {f : Nat} (h : fnOkB P sig f = true) : FnOk P sig f := by
  unfold fnOkB at h
  split at h
  · rename_i fn hfn
    split at h
    · rename_i c hc
      simp only [Bool.and_eq_true, Bool.not_eq_true'] at h
      exact ⟨fn, c, hfn, hc, h.1.1, h.1.2, sigOk_of h.2⟩
    · cases h
  · cases h
theorem G_ctx {P : Program} {sig : Nat → Sig} {G : Nat → List DV → Bool × List DV × List (List D)} {dep : Nat → Nat} {k : Nat} (hm : P.follows .mixedOrders = true)
    (hG : ∀ f xs r, opt (G f xs) = some r → FnOk P sig f ∧ evalBody P sig (Gd G dep (dep f)) k f xs = some r) (keep : List Nat) (ord : List (Nat × List (Nat × Nat × List Nat))) : ∀ d, CtxOk ⟨P, sig, Gd G dep d, keep, ord⟩ := by
  intro d
  induction d using Nat.strongRecOn generalizing keep ord with
  | _ d ih =>
    have mem : ∀ {f : Nat} {xs : List DV} {r : List DV × List (List D)}, opt (Gd G dep d f xs) = some r → dep f < d ∧ opt (G f xs) = some r := fun {f xs r} h => by
      unfold Gd at h
      split at h
      · rename_i hd; exact ⟨hd, h⟩
      · simp [opt] at h
    refine ⟨fun f R xs vs Θ rs outs hF => ?_, fun f xs r hF => ?_, fun f xs r hF => ?_, hm⟩
    · obtain ⟨h1, h2⟩ := mem hF
      obtain ⟨⟨fn, c, e1, e2, e3, e4, e5⟩, h3⟩ := hG f xs _ h2
      exact spec_body (ih (dep f) h1 (sig f).keep (sig f).ord) e1 e2 e4 e5 R xs vs Θ rs outs h3
    · obtain ⟨⟨fn, c, e1, e2, e3, _⟩, _⟩ := hG f xs r (mem hF).2
      exact ⟨fn, c, e1, e2, e3⟩
    · obtain ⟨⟨fn, c, _, _, _, _, e5⟩, _⟩ := hG f xs r (mem hF).2
      exact e5
theorem G_spec {P : Program} {sig : Nat → Sig} {G : Nat → List DV → Bool × List DV × List (List D)} {dep : Nat → Nat} {k : Nat} (hm : P.follows .mixedOrders = true)
    (hG : ∀ f xs r, opt (G f xs) = some r → FnOk P sig f ∧ evalBody P sig (Gd G dep (dep f)) k f xs = some r) (f : Nat) : SpecOk P (sig f) (fun xs => opt (G f xs)) f := fun R xs vs Θ rs outs hF => by
  obtain ⟨⟨fn, c, e1, e2, e3, e4, e5⟩, h3⟩ := hG f xs _ hF
  exact spec_body (G_ctx hm hG (sig f).keep (sig f).ord (dep f)) e1 e2 e4 e5 R xs vs Θ rs outs h3
end Go.Den

/- From a function's promise to a law's row: arguments that can be read are data. -/
namespace Go.Den
open Go Go.ChangeShapes Go.WideShapes Go.RowKit

/-- The shape of a cell. -/
inductive Sh where
  | b | i (k : IntKind) | s | l (e : List Sh)
mutual
def typD : Sh → D → Prop
  | .b, d => ∃ x, d = .b x
  | .i k, d => ∃ n, d = .i k n ∧ (Lit.int k n).wf = true
  | .s, d => ∃ x, d = .s x ∧ x.size ≤ maxLen
  | .l es, d => ∃ xs, d = .l xs ∧ xs.length ≤ maxLen ∧ ∀ r ∈ xs, typL es r
def typL : List Sh → List D → Prop
  | [], ds => ds = []
  | e :: es, ds => ∃ d r, ds = d :: r ∧ typD e d ∧ typL es r
end
def shFs (f : TypeId → Option (List Sh)) (P : Program) : Nat → List Field → Option (List Sh)
  | n, [] => some []
  | n, x :: xs => if x.offset = n then (match f x.type with
    | some es => if P.cellsOf x.type = es.length then (match shFs f P (n + es.length) xs with | some r => some (es ++ r) | none => none) else none
    | none => none) else none
def shOf (P : Program) : Nat → TypeId → Option (List Sh)
  | 0, _ => none
  | d + 1, t => match P.underlying t with
    | some .bool => some [.b]
    | some (.int k) => some [.i k]
    | some .string => some [.s]
    | some (.slice e) => (match shOf P d e with | some (x :: xs) => if P.cellsOf e = (x :: xs).length then some [.l (x :: xs)] else none | _ => none)
    | some (.struct fs) => (match shFs (shOf P d) P 0 fs.toList with | some es => if P.cellsOf t = es.length then some es else none | none => none)
    | _ => none
/-- Cells that stand for data. -/
def Reps (w : World) (T : Nat → Prop) : List D → List Value → Prop
  | [], vs => vs = []
  | d :: ds, vs => ∃ v r, vs = v :: r ∧ Rep w T d v ∧ Reps w T ds r
theorem typL_len : ∀ {es : List Sh} {ds : List D}, typL es ds → ds.length = es.length
  | [], ds, h => by simp only [typL] at h; rw [h]; rfl
  | e :: es, ds, h => by simp only [typL] at h; obtain ⟨d, r, rfl, _, h⟩ := h; simp [typL_len h]
theorem Reps.len {w : World} {T : Nat → Prop} : ∀ {ds : List D} {vs : List Value}, Reps w T ds vs → vs.length = ds.length
  | [], vs, h => by simp only [Reps] at h; rw [h]; rfl
  | d :: ds, vs, h => by obtain ⟨v, r, rfl, _, h⟩ := h; simp [h.len]
theorem Reps.get {w : World} {T : Nat → Prop} : ∀ {ds : List D} {vs : List Value}, Reps w T ds vs → ∀ (j : Nat) d, ds[j]? = some d → ∃ v, vs[j]? = some v ∧ Rep w T d v
  | [], vs, h, j, d, hj => by simp at hj
  | d :: ds, vs, h, j, x, hj => by
    obtain ⟨v, r, rfl, h1, h2⟩ := h
    cases j with
    | zero => simp at hj; subst hj; exact ⟨v, rfl, h1⟩
    | succ j => simpa using h2.get j x (by simpa using hj)
theorem typL_append : ∀ {es es' : List Sh} {ds ds' : List D}, typL es ds → typL es' ds' → typL (es ++ es') (ds ++ ds')
  | [], es', ds, ds', h, h' => by simp only [typL] at h; subst h; simpa using h'
  | e :: es, es', ds, ds', h, h' => by simp only [typL] at h; obtain ⟨d, r, rfl, h1, h2⟩ := h; simp only [List.cons_append, typL]; exact ⟨d, _, rfl, h1, typL_append h2 h'⟩
theorem Reps.append {w : World} {T : Nat → Prop} : ∀ {ds ds' : List D} {vs vs' : List Value}, Reps w T ds vs → Reps w T ds' vs' → Reps w T (ds ++ ds') (vs ++ vs')
  | [], ds', vs, vs', h, h' => by simp only [Reps] at h; subst h; simpa using h'
  | d :: ds, ds', vs, vs', h, h' => by obtain ⟨v, r, rfl, h1, h2⟩ := h; exact ⟨v, _, rfl, h1, h2.append h'⟩

theorem cells_at {w : World} {a : Addr} {n : Nat} {cs : List Value} (h : w.cells? 0 a n = some cs) : cs.length = n ∧ ∀ j v, cs[j]? = some v → w.cell? (a.add j) = some v := by
  unfold World.cells? at h
  rw [if_pos (Nat.zero_le _)] at h
  have hl := mapM_some_length h
  refine ⟨by simpa using hl, fun j v hj => ?_⟩
  have key : ∀ (l : List Nat) (r : List Value), l.mapM (fun i => w.cell? (a.add i)) = some r → ∀ (j : Nat) v, r[j]? = some v → ∃ i, l[j]? = some i ∧ w.cell? (a.add i) = some v := by
    intro l
    induction l with
    | nil => intro r h j v hj; simp at h; subst h; simp at hj
    | cons i l ih =>
      intro r h j v hj
      simp only [List.mapM_cons, Option.bind_eq_bind, Option.bind_eq_some_iff] at h
      obtain ⟨x, h1, r', h2, h3⟩ := h
      simp at h3
      subst h3
      cases j with
      | zero => simp at hj; subst hj; exact ⟨i, rfl, h1⟩
      | succ j => simpa using ih r' h2 j v (by simpa using hj)
  obtain ⟨i, h1, h2⟩ := key _ _ h j v hj
  have : j < n := by have := (List.getElem?_eq_some_iff.1 h1).1; simpa using this
  rw [List.getElem?_range this] at h1
  cases h1
  exact h2
theorem cell_none {w : World} {a : Addr} {v : Value} (h : w.cell? a = some v) : a.spot = none ∧ a.block < w.heap.size := by
  unfold World.cell? at h
  split at h
  · rename_i c _ _ hb
    split at h
    · cases h
    · rename_i hs
      refine ⟨by simpa using hs, ?_⟩
      exact (Array.getElem?_eq_some_iff.1 hb).1
  · cases h
section
variable {H : Type} {enc : TypeId × Value → H} {P : Program} {w : World} {spare : Nat → Bool} {held : Bool}
theorem read_fs {f : TypeId → Option (List Sh)} {m : Nat} (cs : List Value) (T : Nat → Prop)
    (ih : ∀ t es cs x, f t = some es → DataW.trod enc P w 0 spare held m t cs = some x → ∃ ds, typL es ds ∧ Reps w T ds cs) : ∀ (fs : List Field) (n : Nat) (es : List Sh) (xs : List (DataW H × List MemPlace)), shFs f P n fs = some es → n + es.length = cs.length →
    (∀ (j : Nat) q, fs[j]? = some q → ∃ y, DataW.trod enc P w 0 spare held m q.type ((cs.drop q.offset).take (P.cellsOf q.type)) = some y) → ∃ ds, typL es ds ∧ Reps w T ds (cs.drop n) := by
  intro fs
  induction fs with
  | nil =>
    intro n es xs h hl _
    simp only [shFs, Option.some.injEq] at h
    subst h
    refine ⟨[], by simp [typL], ?_⟩
    simp only [Reps]
    simp at hl
    exact List.drop_eq_nil_of_le (by omega)
  | cons q fs ihf =>
    intro n es xs h hl hread
    simp only [shFs] at h
    split at h
    · rename_i ho
      split at h
      · rename_i e1 h1
        split at h
        · rename_i hc
          split at h
          · rename_i r hr
            cases h
            obtain ⟨y, hy⟩ := hread 0 q rfl
            obtain ⟨ds1, d1, d2⟩ := ih _ _ _ _ h1 hy
            obtain ⟨ds2, d3, d4⟩ := ihf (n + e1.length) r xs hr (by simp at hl; omega) (fun j q' hj => hread (j + 1) q' (by simpa using hj))
            refine ⟨ds1 ++ ds2, typL_append d1 d3, ?_⟩
            rw [ho, hc] at d2
            have := d2.append d4
            rwa [← List.drop_drop, List.take_append_drop] at this
          · cases h
        · cases h
      · cases h
    · cases h
/-- What can be read stands for data of its type's shape. -/
theorem read_rep : ∀ (d : Nat) (t : TypeId) (es : List Sh) (fuel : Nat) (cs : List Value) (x : DataW H × List MemPlace), shOf P d t = some es → DataW.trod enc P w 0 spare held fuel t cs = some x → ∃ ds, typL es ds ∧ Reps w (fun k => k < w.heap.size) ds cs := by
  intro d
  induction d with
  | zero => intro t es fuel cs x h; simp [shOf] at h
  | succ d ih =>
    intro t es fuel cs x h hr
    simp only [shOf] at h
    split at h
    · rename_i ht
      cases h
      obtain ⟨b, rfl, _⟩ := DataW.trod_bool ht hr
      exact ⟨[.b b], by simp [typL, typD], .bool b, [], rfl, .b b, rfl⟩
    · rename_i k ht
      cases h
      obtain ⟨n, rfl, _, hw⟩ := DataW.trod_int ht hr
      exact ⟨[.i k n], by simp [typL, typD, hw], .int k n, [], rfl, .i k n, rfl⟩
    · rename_i ht
      cases h
      obtain ⟨s, rfl, _, hs⟩ := DataW.trod_string ht hr
      exact ⟨[.s s], by simp [typL, typD, hs], .string s, [], rfl, .s s, rfl⟩
    · rename_i e ht
      split at h
      · rename_i ex exs he
        split at h
        · rename_i hc
          cases h
          generalize hes : ex :: exs = es' at he hc ⊢
          rcases DataW.trod_slice ht hr with ⟨rfl, _⟩ | ⟨a, len, cap, elems, rest, m, _, rfl, _, _, hl, hm, hlen, hel, _, _⟩
          · exact ⟨[.l []], by simp [typL, typD], _, [], rfl, .nil _ _, rfl⟩
          · -- the elements
            have hrow : ∀ i, i < len → ∃ ds, typL es' ds ∧ ∃ us : List Value, Reps w (fun k => k < w.heap.size) ds us ∧ ∀ j u, us[j]? = some u → w.cell? ((a.add (i * P.cellsOf e)).add j) = some u := fun i hi => by
              have h1 := hel i hi
              have h2 : elems[i]? = some elems[i] := List.getElem?_eq_getElem (by omega)
              rw [h2, Option.bind_eq_some_iff] at h1
              obtain ⟨us, h3, h4⟩ := h1
              obtain ⟨ds, d1, d2⟩ := ih _ _ _ _ _ he h4
              exact ⟨ds, d1, us, d2, (cells_at h3).2⟩
            have hall : ∀ n, n ≤ len → ∃ rows : List (List D), rows.length = n ∧ ∀ i r, rows[i]? = some r → typL es' r ∧ ∃ us : List Value, Reps w (fun k => k < w.heap.size) r us ∧ ∀ j u, us[j]? = some u → w.cell? ((a.add (i * P.cellsOf e)).add j) = some u := by
              intro n
              induction n with
              | zero => intro _; exact ⟨[], rfl, fun i r h => by simp at h⟩
              | succ n ihn =>
                intro hn
                obtain ⟨rows, h1, h2⟩ := ihn (by omega)
                obtain ⟨ds, d1, us, d2, d3⟩ := hrow n (by omega)
                refine ⟨rows ++ [ds], by simp [h1], fun i r hi => ?_⟩
                by_cases hin : i < n
                · rw [List.getElem?_append_left (by omega)] at hi; exact h2 i r hi
                · have : i = n := by
                    have := (List.getElem?_eq_some_iff.1 hi).1
                    simp at this; omega
                  subst this
                  rw [List.getElem?_append_right (by omega), h1] at hi
                  simp at hi
                  subst hi
                  exact ⟨d1, us, d2, d3⟩
            obtain ⟨rows, hrl, hrows⟩ := hall len (Nat.le_refl _)
            refine ⟨[.l rows], ?_, _, [], rfl, ?_, rfl⟩
            · simp only [typL, typD]
              exact ⟨.l rows, [], rfl, ⟨rows, rfl, by omega, fun r hr => by
                obtain ⟨i, hi⟩ := List.getElem?_of_mem hr
                exact (hrows i r hi).1⟩, rfl⟩
            · by_cases hne : rows = []
              · subst hne
                simp at hrl
                subst hrl
                exact .nil _ _
              · obtain ⟨r0, hr0⟩ : ∃ r, rows[0]? = some r := by
                  cases rows with
                  | nil => exact absurd rfl hne
                  | cons r rs => exact ⟨r, rfl⟩
                have hspot : a.spot = none ∧ a.block < w.heap.size := by
                  obtain ⟨h1, us, h2, h3⟩ := hrows 0 r0 hr0
                  have hl1 := typL_len h1
                  have hl2 := h2.len
                  subst hes
                  simp only [List.length_cons] at hl1
                  obtain ⟨u, hu⟩ : ∃ u, us[0]? = some u := ⟨us[0], by simp⟩
                  have := cell_none (h3 0 u hu)
                  simpa [Addr.add] using this
                obtain ⟨g, o, sp⟩ := a
                obtain ⟨hsp, hg⟩ := hspot
                simp only at hsp hg
                subst hsp
                have hadd : ∀ o m, (⟨g, o, none⟩ : Addr).add m = ⟨g, o + m, none⟩ := fun o m => by
                  unfold Addr.add
                  split
                  · rename_i h0; subst h0; rfl
                  · rfl
                have hcells : ∀ i r, rows[i]? = some r → ∃ us : List Value, us.length = r.length ∧ (∀ j d, r[j]? = some d → ∃ u, us[j]? = some u ∧ Rep w (fun k => k < w.heap.size) d u ∧ w.cell? ⟨g, o + i * es'.length + j, none⟩ = some u) := fun i r hi => by
                  obtain ⟨_, us, h2, h3⟩ := hrows i r hi
                  refine ⟨us, h2.len, fun j d hj => ?_⟩
                  obtain ⟨u, hu, hrep⟩ := h2.get j d hj
                  refine ⟨u, hu, hrep, ?_⟩
                  have := h3 j u hu
                  rw [hadd, hadd, hc] at this
                  exact this
                rw [← hrl]
                refine .l rows g o cap es'.length (fun i j => (w.cell? ⟨g, o + i * es'.length + j, none⟩).getD default) hne hg (by omega) (fun r hr => ?_) (fun i r j d hi hj => ?_) (fun i r j d hi hj => ?_)
                · obtain ⟨i, hi⟩ := List.getElem?_of_mem hr
                  exact typL_len (hrows i r hi).1
                · obtain ⟨us, _, h2⟩ := hcells i r hi
                  obtain ⟨u, _, _, h3⟩ := h2 j d hj
                  rw [h3]; rfl
                · obtain ⟨us, _, h2⟩ := hcells i r hi
                  obtain ⟨u, _, h4, h3⟩ := h2 j d hj
                  rw [h3]; exact h4
        · cases h
      · cases h
    · rename_i fs ht
      split at h
      · rename_i es' hf
        split at h
        · rename_i hc
          cases h
          obtain ⟨xs, m, _, _, hl, hlen, hread⟩ := DataW.trod_struct ht hr
          have := read_fs (f := shOf P d) (m := m) cs (fun k => k < w.heap.size) (fun t es cs x => ih t es m cs x) fs.toList 0 es xs hf (by omega) (fun j q hj => by
            have h2 := hread j q (by simpa using hj)
            have h3 : j < xs.length := by have := (List.getElem?_eq_some_iff.1 hj).1; simp at this; omega
            exact ⟨xs[j], by rw [h2]; exact List.getElem?_eq_getElem h3⟩)
          simpa using this
        · cases h
      · cases h
    · cases h

end
/-! ### arguments -/
/-- Of a parameter: is it a struct, and its cells' shapes. -/
def prmOf (P : Program) (t : TypeId) : Option (Bool × List Sh) :=
  match shOf P 12 t with
  | some es => (match P.underlying t with | some (.struct _) => some (true, es) | some (.array _ _) => none | some _ => some (false, es) | none => none)
  | none => none
def prmsOf (P : Program) : List TypeId → Option (List (Bool × List Sh))
  | [] => some []
  | t :: ts => match prmOf P t, prmsOf P ts with | some x, some r => some (x :: r) | _, _ => none
def typP : Bool × List Sh → DV → Prop
  | (true, es), x => ∃ ds, x = .agg ds ∧ typL es ds
  | (false, es), x => ∃ d, x = .one d ∧ typL es [d]
def typPs : List (Bool × List Sh) → List DV → Prop
  | [], xs => xs = []
  | p :: ps, xs => ∃ x r, xs = x :: r ∧ typP p x ∧ typPs ps r
def borrowed : List TypeId → List Mode | [] => [] | _ :: ts => .bor :: borrowed ts

theorem args_read {H : Type} {enc : TypeId × Value → H} {P : Program} {W : World} {base : Nat} (R : Rt) (hw : R.w0 = W) (hT : R.T = fun k => k < W.heap.size) (Θ : Nat → Nat → Nat → Prop) : ∀ (ts : List TypeId) (vs : List Value) (ds : List (DataW H)) (ps : List MemPlace) (shs : List (Bool × List Sh)), DataW.TrodAll enc P W 0 (fun _ => true) true ts vs ds ps → prmsOf P ts = some shs →
    (∀ (j : Nat) t v, ts[j]? = some t → vs[j]? = some v → Value.okWide P W .any base t v) → ∃ xs, typPs shs xs ∧ ArgsK P R (borrowed ts) xs vs Θ := by
  subst hw
  intro ts
  induction ts generalizing Θ with
  | nil =>
    intro vs ds ps shs h hs _
    obtain ⟨rfl, rfl, rfl⟩ := trodAll_nil h
    simp only [prmsOf, Option.some.injEq] at hs
    subst hs
    exact ⟨[], rfl, trivial⟩
  | cons t ts ih =>
    intro vs ds ps shs h hs hok
    obtain ⟨v, vs', d, ds', p, q, rfl, rfl, rfl, ⟨fuel, h1⟩, h2⟩ := trodAll_cons h
    simp only [prmsOf] at hs
    split at hs
    · rename_i x r hx hr
      cases hs
      obtain ⟨xs, x1, x2⟩ := ih (fun i => Θ (i + 1)) vs' ds' q r h2 hr (fun j t' v' ht hv => hok (j + 1) t' v' (by simpa using ht) (by simpa using hv))
      have hv := hok 0 t v rfl rfl
      unfold prmOf at hx
      split at hx
      · rename_i es hes
        obtain ⟨cells, c1, c2⟩ := read_rep _ _ _ _ _ _ hes h1
        rw [← hT] at c2
        split at hx
        · rename_i fs ht
          cases hx
          unfold Value.okWide at hv
          rw [ht] at hv
          obtain ⟨cs, rfl, hcs, _⟩ := hv
          refine ⟨.agg cells :: xs, ⟨_, _, rfl, ⟨cells, rfl, c1⟩, x1⟩, ⟨cs.toList, by simp, ?_, fun j d hj => ?_⟩, x2⟩
          · have := c2.len; simpa [Value.cells] using this
          · obtain ⟨u, hu, hrep⟩ := c2.get j d hj
            exact ⟨u, by simpa [Value.cells] using hu, hrep⟩
        · cases hx
        · rename_i td hns hna ht
          cases hx
          have hna : ∀ cs, v ≠ .agg cs := fun cs e => by
            subst e
            unfold Value.okWide at hv
            rw [ht] at hv
            cases td <;> first | exact hns _ rfl | exact hna _ _ rfl | (simp [Cell.okWide, Cell.ok, ht] at hv)
          have hcell : v.cells.toList = [v] := by cases v <;> first | rfl | exact absurd rfl (hna _)
          rw [hcell] at c2
          have hl := c2.len
          obtain ⟨d0, rfl⟩ : ∃ d, cells = [d] := by
            match cells, hl with
            | [d], _ => exact ⟨d, rfl⟩
          obtain ⟨u, rest, hu, hrep, _⟩ := c2
          cases hu
          exact ⟨.one d0 :: xs, ⟨_, _, rfl, ⟨d0, rfl, c1⟩, x1⟩, hrep, x2⟩
        · cases hx
      · cases hx
    · cases hs

/-- A law whose function answers true on all data of its parameters' shapes: what its row asks. -/
theorem law_contract {H : Type} {enc : TypeId × Value → H} {P : Program} {f : Nat} {fn : Func} {sg : Sig} {F : List DV → Option (List DV × List (List D))} {zs : List DV} {shs : List (Bool × List Sh)} {tb : TypeId} {s : ChangeSpec}
    (hspec : SpecOk P sg F f) (hms : sg.ms = borrowed fn.params.toList) (hr : sg.r = .sc zs) (hres : fn.resultTypes = #[tb]) (htb : P.underlying tb = some .bool) (K : Kids P (· < P.types.size)) (hfull : ∀ t e, t < P.types.size → P.underlying t = some (.slice e) → 0 < P.cellsOf e) (hpt : ∀ t ∈ fn.params.toList, t < P.types.size)
    (hsh : prmsOf P fn.params.toList = some shs) (hF : ∀ xs, typPs shs xs → F xs = some ([.one (.b true)], [])) (hvars : s.vars = [])
    (hfn : ∀ ds : List (DataW H), ds.length = fn.params.size → s.fn H ds = { results := [.lit (.bool true)], args := ds })
    (W : World) (base : Nat) (args : Array Value) (ds gs : List (DataW H)) (before : List MemPlace)
    (hval : ∀ (j : Nat) t v, fn.params[j]? = some t → args[j]? = some v → Value.okWide P W .any base t v)
    (hW : DataW.Whole enc P fn.params.toList s.vars false W args.toList ds gs before) :
    Calls P f args W fun e W' => ∃ v, e = .returned v ∧ s.post enc P fn false true false false W args v W' := by
  have hW' := hW
  obtain ⟨p, q, hA, hV, rfl, _, _⟩ := hW
  rw [hvars] at hV
  obtain ⟨rfl, rfl⟩ := trodVars_none hV
  let R : Rt := ⟨W, fun k => k < W.heap.size, fun _ => False, fun _ _ _ => False, fun _ => none⟩
  obtain ⟨xs, x1, x2⟩ := args_read (base := base) R rfl rfl (fun _ _ _ => False) fn.params.toList args.toList ds p shs hA hsh (fun j t v ht hv => hval j t v (by simpa using ht) (by simpa using hv))
  have pre : Pre P sg R xs args.toList (fun _ _ _ => False) := ⟨⟨rfl, rfl, rfl, Nat.le_refl _, fun k hk => ⟨hk, fun h => h⟩, fun _ _ _ => rfl, fun _ _ _ h => h.elim⟩, by rw [hms]; exact x2, fun _ _ _ h => h.elim, fun _ _ _ h => h.elim, fun _ _ _ _ _ h => h.elim, fun _ _ _ _ h => h.elim⟩
  have hc := hspec R xs args.toList (fun _ _ _ => False) _ _ (hF xs x1) rfl pre
  rw [Array.toArray_toList] at hc
  refine hc.mono fun e W' ⟨rv, Ξ, Ω, he, hp⟩ => ?_
  subst he
  have hlen : ds.length = fn.params.size := by
    have key : ∀ {ts : List TypeId} {vs : List Value} {ds : List (DataW H)} {ps : List MemPlace}, DataW.TrodAll enc P W 0 (fun _ => true) true ts vs ds ps → ds.length = ts.length := by
      intro ts
      induction ts with
      | nil => intro vs ds ps h; obtain ⟨_, rfl, _⟩ := trodAll_nil h; rfl
      | cons t ts ih => intro vs ds ps h; obtain ⟨v, vs', d, ds', p, q, rfl, rfl, rfl, _, h2⟩ := trodAll_cons h; simp [ih h2]
    simpa using key hA
  -- the result
  have hres1 : rv = [.bool true] := by
    have := hp.res
    rw [hr] at this
    match rv, this with
    | [v], ⟨h1, _⟩ =>
      obtain ⟨_, h2⟩ := h1
      cases h2
      rfl
  subst hres1
  have old : ∀ k, k < W.heap.size → W'.heap[k]? = W.heap[k]? := fun k hk => hp.W.old k hk (fun h => h)
  have kept : ∀ may, W.keptBut W' may := fun may => ⟨hp.W.os, hp.W.output, fun i hi => by
    rw [old i hi]
    cases W.heap[i]? with
    | none => trivial
    | some ob =>
      cases ob with
      | cells c t fr => obtain ⟨lo, hi'⟩ := fr; exact ⟨rfl, rfl, rfl, fun _ _ => rfl⟩
      | map es clock => exact .inr ⟨rfl, rfl⟩
      | _ => rfl⟩
  have hlt := hW'.lt
  have same : ∀ pl : MemPlace, pl.block < W.heap.size → W.sameAt W' pl := fun pl hpl => by
    cases pl with
    | cell b off => simp only [World.sameAt, World.cell?]; rw [old b hpl]
    | map b => simp only [World.sameAt]; exact old b hpl
  have carry : ∀ {ts : List TypeId} {vs : List Value} {ds : List (DataW H)} {ps : List MemPlace}, DataW.TrodAll enc P W 0 (fun _ => true) true ts vs ds ps → (∀ pl ∈ ps, pl.block < W.heap.size) → DataW.TrodAll enc P W' 0 (fun _ => true) true ts vs ds ps := by
    intro ts
    induction ts with
    | nil => intro vs ds ps h _; obtain ⟨rfl, rfl, rfl⟩ := trodAll_nil h; exact trodAll_mk0
    | cons t ts ih =>
      intro vs ds ps h hps
      obtain ⟨v, vs', d, ds', p, q, rfl, rfl, rfl, ⟨n, h1⟩, h2⟩ := trodAll_cons h
      exact ⟨p, q, ⟨n, DataW.trod_carry _ _ _ _ h1 (fun pl hpl => same pl (hps pl (List.mem_append_left _ hpl)))⟩, ih h2 (fun pl hpl => hps pl (List.mem_append_right _ hpl)), rfl⟩
  have hargs := DataW.TrodAll.respare (spare' := fun b => decide (b < W.heap.size)) K hfull hpt (carry hA (fun pl hpl => hlt pl (List.mem_append_left _ hpl))) (fun pl hpl => by simpa using hlt pl (List.mem_append_left _ hpl))
  refine ⟨_, rfl, ds, [], p ++ [], [], p, [], hW', ?_, ?_, ?_, kept _, fun h => by cases h⟩
  · rw [List.append_nil, hfn ds hlen, hres]
    exact trodAll_mk1 (shut_bool htb _)
  · rw [List.append_nil, hfn ds hlen]
    exact hargs
  · rw [hvars]
    rw [List.append_nil, hfn ds hlen]
    rfl
end Go.Den

/- The evaluator once more, with what follows behind it: loops and pieces are told by what they come to. -/
namespace Go.Den
open Go
section
variable {β : Type} (C : Ctx)
def runOpsK (ops : Array Oper) : List Oper → St → (St → Option β) → Option β
  | [], st, K => K { st with l := [] }
  | o :: os, st, K => match guardOf ops st o.guard with
    | some (p, c) => (match light C st p o.op with
      | some (ok, v) => if okP p c ok then runOpsK ops os (pt C st p c o.dst v) K else none
      | none => (match p with
        | [] => (match heavy C st (o.dst.getD 0) o.op with
          | some (ok, v, st1) => if ok then runOpsK ops os (pt C st1 [] true o.dst v) K else none
          | none => none)
        | q :: p => if c then (match heavy C (atP (q :: p) st) (o.dst.getD 0) o.op with
          | some (ok, v, st1) => if ok then runOpsK ops os (pt C st1 [] true o.dst v) K else none
          | none => none) else runOpsK ops os (pt C st (q :: p) false o.dst .undef) K))
    | none => none
def runPreK (ops : Array Oper) : List Oper → St → (St → Option β) → Option β
  | [], st, K => K st
  | o :: os, st, K => match guardOf ops st o.guard with
    | some (p, c) => (match light C st p o.op with
      | some (ok, v) => if okP p c ok then runPreK ops os (pt C st p c o.dst v) K else none
      | none => (match p with
        | [] => (match heavy C st (o.dst.getD 0) o.op with
          | some (ok, v, st1) => if ok then runPreK ops os (pt C st1 [] true o.dst v) K else none
          | none => none)
        | q :: p => if c then (match heavy C (atP (q :: p) st) (o.dst.getD 0) o.op with
          | some (ok, v, st1) => if ok then runPreK ops os (pt C st1 [] true o.dst v) K else none
          | none => none) else runPreK ops os (pt C st (q :: p) false o.dst .undef) K))
    | none => none
def runRegK (ops : Array Oper) (st : St) (K : St → Option β) : Option β :=
  match nestOf C.sig ops.toList with
  | none => runOpsK C ops ops.toList st K
  | some (pre, o1, o2, o3, post) => runPreK C ops pre st fun st1 => if nestRp C st1 o1 then (match nest3 C st1 o1 o2 o3 with
    | some (ok, st2) => if ok then runOpsK C ops post st2 K else none
    | none => none) else runOpsK C ops (o1 :: o2 :: o3 :: post) st1 K
def stepK (ops : Array Oper) (o : Oper) (k : Nat) (st : St) (K : St → Option β) : Option β :=
  match guardOf ops st o.guard with
  | some (p, c) => (match k with
    | 0 => (match light C st p o.op with
      | some (ok, v) => if okP p c ok then K (pt C st p c o.dst v) else none
      | none => (match p with | [] => none | q :: p => if c then none else K (pt C st (q :: p) false o.dst .undef)))
    | _ => (match p with
      | [] => (match light C st [] o.op with
        | some (ok, v) => if ok then K (pt C st [] true o.dst v) else none
        | none => (match heavy C st (o.dst.getD 0) o.op with
          | some (ok, v, st1) => if ok then K (pt C st1 [] true o.dst v) else none
          | none => none))
      | q :: p => if c then (match heavy C (atP (q :: p) st) (o.dst.getD 0) o.op with
        | some (ok, v, st1) => if ok then K (pt C ⟨st1.m, zipL st.l st1.l, st1.h⟩ (q :: p) true o.dst v) else none
        | none => none) else K (pt C st (q :: p) false o.dst .undef)))
  | none => none
def runDrawK (ops : Array Oper) : List (Nat × Nat × List Nat) → St → (St → Option β) → Option β
  | [], st, K => K { st with l := [] }
  | (i, k, js) :: r, st, K => match ops[i]? with
    | some o => if frames C ops st (hitsOf hits C ops st o) (hitsOf hitsB C ops st o) js then stepK C ops o k st (fun st1 => runDrawK ops r st1 K) else none
    | none => none
/-- Conditions and loops, counted. -/
def nn : Code → Nat
  | .seq a b => nn a + nn b
  | .cond _ a b => nn a + nn b + 1
  | .block _ a => nn a
  | .loop a => nn a + 1
  | _ => 0
def nodeAt : Code → Nat → Option Code
  | .seq a b, j => if j < nn a then nodeAt a j else nodeAt b (j - nn a)
  | .cond c a b, j => if j = 0 then some (.cond c a b) else if j - 1 < nn a then nodeAt a (j - 1) else nodeAt b (j - 1 - nn a)
  | .block _ a, j => nodeAt a j
  | .loop a, j => if j = 0 then some (.loop a) else nodeAt a (j - 1)
  | _, _ => none
abbrev Cont (β : Type) := Ex → St → Option β
def seqK (K : Cont β) (b : St → Option β) : Cont β := fun e st => match e with | .normal => b st | .exit j => K (.exit j) st | .ret => K .ret st
def blockK (id : Nat) (K : Cont β) : Cont β := fun e st => match e with | .normal => K .normal st | .exit j => if j = id then K .normal st else K (.exit j) st | .ret => K .ret st
def denK (S : Nat → Option (St → Cont β → Option β)) : Code → Nat → St → Cont β → Option β
  | .skip, _, st, K => K .normal st
  | .region i ops d, _, st, K => if d then runDrawK C ops (lkO C.ord i) st (fun x => K .normal (endS C i x)) else runRegK C ops st (fun x => K .normal (endS C i x))
  | .seq a b, o, st, K => denK S a o st (seqK K fun st1 => denK S b (o + nn a) st1 K)
  | .cond c a b, o, st, K => (match S o with
    | some s => s st K
    | none => (match ev C st [] c with | .d (.b x) => if x then denK S a (o + 1) st K else denK S b (o + 1 + nn a) st K | _ => none))
  | .block id a, o, st, K => denK S a o st (blockK id K)
  | .loop _, o, st, K => (match S o with | some s => s st K | none => none)
  | .exit id, _, st, K => K (.exit id) st
  | .ret, _, st, K => K .ret st
  | _, _, _, _ => none

def Le (x y : Option β) : Prop := ∀ r, x = some r → y = some r
theorem Le.refl (x : Option β) : Le x x := fun _ h => h
theorem Le.trans {x y z : Option β} (A : Le x y) (B : Le y z) : Le x z := fun r h => B r (A r h)
theorem Le.none (y : Option β) : Le none y := fun r h => by cases h
theorem Le.bind {α : Type} {o : Option α} {f g : α → Option β} (h : ∀ a, Le (f a) (g a)) : Le (o.bind f) (o.bind g) := fun r hr => by
  cases o with
  | none => cases hr
  | some a => exact h a r hr
variable {C}
theorem runOpsK_eq {ops : Array Oper} {K : St → Option β} : ∀ {os : List Oper} {st : St}, runOpsK C ops os st K = (runOps C ops os st).bind K
  | [], st => rfl
  | o :: os, st => by
    have ih : ∀ {ok : Bool} {x : St}, (if ok = true then runOpsK C ops os x K else none) = (if ok = true then runOps C ops os x else none).bind K := fun {ok x} => by
      cases ok with
      | true => exact runOpsK_eq
      | false => rfl
    have hv : ∀ {y : Option (Bool × SV × St)}, (match y with | some (ok, v, st1) => if ok = true then runOpsK C ops os (pt C st1 [] true o.dst v) K else none | none => none) =
        (match y with | some (ok, v, st1) => if ok = true then runOps C ops os (pt C st1 [] true o.dst v) else none | none => none).bind K := fun {y} => by
      cases y with
      | none => rfl
      | some q => obtain ⟨ok, v, st1⟩ := q; exact ih
    simp only [runOpsK, runOps]
    cases guardOf ops st o.guard with
    | none => rfl
    | some pc =>
      obtain ⟨p, c⟩ := pc
      dsimp only
      cases light C st p o.op with
      | some q => obtain ⟨ok, v⟩ := q; exact ih
      | none =>
        dsimp only
        cases p with
        | nil => exact hv
        | cons q p =>
          dsimp only
          cases c with
          | true => exact hv
          | false => exact runOpsK_eq
theorem runPreK_eq {ops : Array Oper} {K : St → Option β} : ∀ {os : List Oper} {st : St}, runPreK C ops os st K = (runPre C ops os st).bind K
  | [], st => rfl
  | o :: os, st => by
    have ih : ∀ {ok : Bool} {x : St}, (if ok = true then runPreK C ops os x K else none) = (if ok = true then runPre C ops os x else none).bind K := fun {ok x} => by
      cases ok with
      | true => exact runPreK_eq
      | false => rfl
    have hv : ∀ {y : Option (Bool × SV × St)}, (match y with | some (ok, v, st1) => if ok = true then runPreK C ops os (pt C st1 [] true o.dst v) K else none | none => none) =
        (match y with | some (ok, v, st1) => if ok = true then runPre C ops os (pt C st1 [] true o.dst v) else none | none => none).bind K := fun {y} => by
      cases y with
      | none => rfl
      | some q => obtain ⟨ok, v, st1⟩ := q; exact ih
    simp only [runPreK, runPre]
    cases guardOf ops st o.guard with
    | none => rfl
    | some pc =>
      obtain ⟨p, c⟩ := pc
      dsimp only
      cases light C st p o.op with
      | some q => obtain ⟨ok, v⟩ := q; exact ih
      | none =>
        dsimp only
        cases p with
        | nil => exact hv
        | cons q p =>
          dsimp only
          cases c with
          | true => exact hv
          | false => exact runPreK_eq
theorem runRegK_eq {ops : Array Oper} {st : St} {K : St → Option β} : runRegK C ops st K = (runReg C ops st).bind K := by
  unfold runRegK runReg
  cases nestOf C.sig ops.toList with
  | none => exact runOpsK_eq
  | some q =>
    obtain ⟨pre, o1, o2, o3, post⟩ := q
    dsimp only
    rw [runPreK_eq]
    cases runPre C ops pre st with
    | none => rfl
    | some st1 =>
      simp only [Option.bind_some]
      cases nestRp C st1 o1 with
      | false => simp only [Bool.false_eq_true, if_false]; exact runOpsK_eq
      | true =>
        simp only [if_true]
        cases nest3 C st1 o1 o2 o3 with
        | none => rfl
        | some q =>
          obtain ⟨ok, st2⟩ := q
          cases ok with
          | true => exact runOpsK_eq
          | false => rfl
theorem stepK_eq {ops : Array Oper} {o : Oper} {k : Nat} {st : St} {K : St → Option β} : stepK C ops o k st K = (stepD C ops o k st).bind K := by
  have ih : ∀ {ok : Bool} {x : St}, (if ok = true then K x else none) = (if ok = true then some x else none).bind K := fun {ok x} => by
    cases ok <;> rfl
  unfold stepK stepD
  cases guardOf ops st o.guard with
  | none => rfl
  | some pc =>
    obtain ⟨p, c⟩ := pc
    dsimp only
    cases k with
    | zero =>
      cases light C st p o.op with
      | none => cases p with
        | nil => rfl
        | cons q p => cases c <;> rfl
      | some q => obtain ⟨ok, v⟩ := q; exact ih
    | succ k =>
      cases p with
      | cons q p =>
        dsimp only
        cases c with
        | false => rfl
        | true =>
          simp only [if_true]
          cases heavy C (atP (q :: p) st) (o.dst.getD 0) o.op with
          | none => rfl
          | some z => obtain ⟨ok, v, st1⟩ := z; exact ih
      | nil =>
        dsimp only
        cases light C st [] o.op with
        | some q => obtain ⟨ok, v⟩ := q; exact ih
        | none =>
          dsimp only
          cases heavy C st (o.dst.getD 0) o.op with
          | none => rfl
          | some q => obtain ⟨ok, v, st1⟩ := q; exact ih
theorem runDrawK_eq {ops : Array Oper} {K : St → Option β} : ∀ {r : List (Nat × Nat × List Nat)} {st : St}, runDrawK C ops r st K = (runDraw C ops r st).bind K
  | [], st => rfl
  | (i, k, js) :: r, st => by
    simp only [runDrawK, runDraw]
    cases ops[i]? with
    | none => rfl
    | some o =>
      dsimp only
      by_cases hf : frames C ops st (hitsOf hits C ops st o) (hitsOf hitsB C ops st o) js = true
      · rw [if_pos hf, if_pos hf, stepK_eq]
        cases stepD C ops o k st with
        | none => rfl
        | some st1 => exact runDrawK_eq
      · rw [if_neg hf, if_neg hf]; rfl
/-- s tells what c comes to. -/
def SumOk (C : Ctx) (k : Nat) (s : St → Cont β → Option β) (c : Code) : Prop := ∀ st K, Le (s st K) ((den C k c st).bind fun r => K r.1 r.2)
def SumsOk (C : Ctx) (k : Nat) (S : Nat → Option (St → Cont β → Option β)) (c : Code) (o : Nat) : Prop := ∀ j n s, nodeAt c j = some n → S (o + j) = some s → SumOk C k s n
theorem nodeAt_lt : ∀ {c : Code} {j : Nat} {n : Code}, nodeAt c j = some n → j < nn c := by
  intro c
  induction c with
  | seq a b iha ihb =>
    intro j n h
    simp only [nodeAt] at h
    simp only [nn]
    split at h
    · omega
    · have := ihb h; omega
  | cond x a b iha ihb =>
    intro j n h
    simp only [nodeAt] at h
    simp only [nn]
    split at h
    · omega
    · split at h
      · omega
      · have := ihb h; omega
  | block i a ih => intro j n h; exact ih h
  | loop a ih =>
    intro j n h
    simp only [nodeAt] at h
    simp only [nn]
    split at h
    · omega
    · have := ih h; omega
  | _ => intro j n h; simp [nodeAt] at h
theorem condLe {v : SV} {a b : Option β} {x y : Option (Ex × St)} {K : Ex × St → Option β} (h1 : Le a (x.bind K)) (h2 : Le b (y.bind K)) : Le (match v with | .d (.b z) => if z then a else b | _ => none) ((match v with | .d (.b z) => if z then x else y | _ => none).bind K) := by
  cases v with
  | d d =>
    cases d with
    | b z => cases z <;> assumption
    | _ => exact .none _
  | _ => exact .none _
theorem denK_le {k : Nat} {S : Nat → Option (St → Cont β → Option β)} : ∀ (c : Code) (o : Nat) (st : St) (K : Cont β), SumsOk C k S c o → Le (denK C S c o st K) ((den C k c st).bind fun r => K r.1 r.2) := by
  intro c
  induction c with
  | skip => intro o st K _; exact .refl _
  | exit i => intro o st K _; exact .refl _
  | ret => intro o st K _; exact .refl _
  | region i ops d =>
    intro o st K _
    simp only [denK, den]
    split
    · rw [runDrawK_eq]
      cases runDraw C ops (lkO C.ord i) st <;> exact .refl _
    · rw [runRegK_eq]
      cases runReg C ops st <;> exact .refl _
  | seq a b iha ihb =>
    intro o st K H
    have H1 : SumsOk C k S a o := fun j n s hn hs => H j n s (by simp only [nodeAt, if_pos (nodeAt_lt hn)]; exact hn) hs
    have H2 : SumsOk C k S b (o + nn a) := fun j n s hn hs => H (nn a + j) n s (by simp only [nodeAt]; rw [if_neg (by omega), Nat.add_sub_cancel_left]; exact hn) (by rw [← Nat.add_assoc]; exact hs)
    simp only [denK, den]
    refine (iha o st _ H1).trans ?_
    cases den C k a st with
    | none => exact .none _
    | some r =>
      obtain ⟨e, st1⟩ := r
      cases e with
      | normal => exact ihb _ st1 K H2
      | exit j => exact .refl _
      | ret => exact .refl _
  | cond x a b iha ihb =>
    intro o st K H
    have H1 : SumsOk C k S a (o + 1) := fun j n s hn hs => H (1 + j) n s (by
      simp only [nodeAt]
      have := nodeAt_lt hn
      rw [if_neg (by omega), Nat.add_sub_cancel_left, if_pos this]; exact hn) (by rw [← Nat.add_assoc]; exact hs)
    have H2 : SumsOk C k S b (o + 1 + nn a) := fun j n s hn hs => H (1 + nn a + j) n s (by
      simp only [nodeAt]
      rw [if_neg (by omega), show 1 + nn a + j - 1 = nn a + j by omega, if_neg (by omega), Nat.add_sub_cancel_left]; exact hn) (by rw [← Nat.add_assoc, ← Nat.add_assoc]; exact hs)
    simp only [denK]
    split
    · rename_i s hs
      exact H 0 _ s (by simp [nodeAt]) hs st K
    · simp only [den]
      exact condLe (iha _ st K H1) (ihb _ st K H2)
  | block i a ih =>
    intro o st K H
    simp only [denK, den]
    refine (ih o st _ H).trans ?_
    cases den C k a st with
    | none => exact .none _
    | some r =>
      obtain ⟨e, st1⟩ := r
      cases e with
      | normal => exact .refl _
      | exit j =>
        simp only [inBlock, Option.bind_some, blockK]
        split <;> exact .refl _
      | ret => exact .refl _
  | loop a ih =>
    intro o st K H
    simp only [denK]
    split
    · rename_i s hs
      exact H 0 _ s (by simp [nodeAt]) hs st K
    · exact .none _
  | _ => intro o st K _; exact .none _
/-- A condition, told by what it comes to (S has no word on it itself). -/
theorem piece_ok {k o : Nat} {S : Nat → Option (St → Cont β → Option β)} {x : Operand} {a b : Code} {s : St → Cont β → Option β} (H1 : SumsOk C k S a (o + 1)) (H2 : SumsOk C k S b (o + 1 + nn a))
    (h : ∀ st K, Le (s st K) (match ev C st [] x with | .d (.b y) => if y then denK C S a (o + 1) st K else denK C S b (o + 1 + nn a) st K | _ => none)) : SumOk C k s (.cond x a b) := fun st K => by
  refine (h st K).trans ?_
  simp only [den]
  exact condLe (denK_le _ _ _ _ H1) (denK_le _ _ _ _ H2)
end

/-! ### states by their shape -/
/-- What a state's place may hold, as a loop goes round. -/
inductive Vr where | b (x : Bool) | i (x : Int) | s (x : ByteArray) | l (x : List (List D)) | n (x : Nat) | v (x : SV)
def nthV : List Vr → Nat → Vr | [], _ => .b false | x :: _, 0 => x | _ :: xs, n + 1 => nthV xs n
def vB (vs : List Vr) (n : Nat) : Bool := match nthV vs n with | .b x => x | _ => false
def vI (vs : List Vr) (n : Nat) : Int := match nthV vs n with | .i x => x | _ => 0
def vS (vs : List Vr) (n : Nat) : ByteArray := match nthV vs n with | .s x => x | _ => ⟨#[]⟩
def vL (vs : List Vr) (n : Nat) : List (List D) := match nthV vs n with | .l x => x | _ => []
def vN (vs : List Vr) (n : Nat) : Nat := match nthV vs n with | .n x => x | _ => 0
def vV (vs : List Vr) (n : Nat) : SV := match nthV vs n with | .v x => x | _ => .undef
inductive TD where | b | i (k : IntKind) | s | l
def chkT : TD → D → Bool | .b, .b _ => true | .i k, .i k' _ => decide (k = k') | .s, .s _ => true | .l, .l _ => true | _, _ => false
def extT : D → Vr | .b x => .b x | .i _ x => .i x | .s x => .s x | .l x => .l x
def fillT : TD → Nat → List Vr → D | .b, n, vs => .b (vB vs n) | .i k, n, vs => .i k (vI vs n) | .s, n, vs => .s (vS vs n) | .l, n, vs => .l (vL vs n)
theorem nthV_mid (pre : List Vr) (x : Vr) (post : List Vr) : nthV (pre ++ x :: post) pre.length = x := by
  induction pre with
  | nil => rfl
  | cons y pre ih => exact ih
theorem fillT_ext {t : TD} {d : D} (h : chkT t d = true) (pre post : List Vr) : fillT t pre.length (pre ++ extT d :: post) = d := by
  cases t <;> cases d <;> simp_all [chkT, fillT, vB, vI, vS, vL, nthV_mid, extT]
inductive TV where | d (t : TD) | nils | own (n : Nat) | ptr (n off : Nat) | nilp | rp (n off : Nat) | fn (f : Nat) | undef | any | pv (ts : List TD) (off : Nat) | fb (f : Nat) (ts : List TD) | bx (n j : Nat) (t : TD) | agg (ts : List TV)
def nTs : List TD → Nat | [] => 0 | _ :: ts => nTs ts + 1
def chkTs : List TD → List D → Bool | [], [] => true | t :: ts, d :: ds => chkT t d && chkTs ts ds | _, _ => false
def extTs : List D → List Vr | [] => [] | d :: ds => extT d :: extTs ds
def fillTs : List TD → Nat → List Vr → List D | [], _, _ => [] | t :: ts, n, vs => fillT t n vs :: fillTs ts (n + 1) vs
theorem fillTs_ext : ∀ {ts : List TD} {ds : List D}, chkTs ts ds = true → (extTs ds).length = nTs ts ∧ ∀ pre post, fillTs ts pre.length (pre ++ (extTs ds ++ post)) = ds
  | [], [], _ => ⟨rfl, fun _ _ => rfl⟩
  | [], _ :: _, h => by simp [chkTs] at h
  | _ :: _, [], h => by simp [chkTs] at h
  | t :: ts, d :: ds, h => by
    simp only [chkTs, Bool.and_eq_true] at h
    obtain ⟨h1, h2⟩ := fillTs_ext h.2
    refine ⟨by simp [extTs, nTs, h1], fun pre post => ?_⟩
    have := h2 (pre ++ [extT d]) post
    simp only [List.length_append, List.length_cons, List.length_nil, List.append_assoc, List.cons_append, List.nil_append] at this
    simp only [fillTs, extTs, List.cons_append]
    rw [fillT_ext h.1, this]
mutual
def nV : TV → Nat
  | .d _ => 1 | .rp _ _ => 1 | .any => 1 | .pv ts _ => nTs ts | .fb _ ts => nTs ts | .bx _ _ _ => 1 | .agg ts => nVs ts | _ => 0
def nVs : List TV → Nat | [] => 0 | t :: ts => nV t + nVs ts
end
mutual
def chkV : TV → SV → Bool
  | .d t, .d x => chkT t x
  | .nils, .nils => true
  | .own n, .own k => decide (n = k)
  | .ptr n o, .ptr k q => decide (n = k) && decide (o = q)
  | .nilp, .nilp => true
  | .rp n o, .rp k _ q => decide (n = k) && decide (o = q)
  | .fn f, .fn g => decide (f = g)
  | .undef, .undef => true
  | .any, _ => true
  | .pv ts o, .pv ds q => chkTs ts ds && decide (o = q)
  | .fb f ts, .fb g ds => chkTs ts ds && decide (f = g)
  | .bx n j t, .bx m i x => (chkT t x && decide (n = m)) && decide (j = i)
  | .agg ts, .agg cs => chkVs ts cs
  | _, _ => false
def chkVs : List TV → List SV → Bool
  | [], [] => true
  | t :: ts, v :: vs => chkV t v && chkVs ts vs
  | _, _ => false
end
mutual
def extV : TV → SV → List Vr
  | .d _, .d x => [extT x]
  | .rp _ _, .rp _ i _ => [.n i]
  | .any, v => [.v v]
  | .pv _ _, .pv ds _ => extTs ds
  | .fb _ _, .fb _ ds => extTs ds
  | .bx _ _ _, .bx _ _ x => [extT x]
  | .agg ts, .agg cs => extVs ts cs
  | _, _ => []
def extVs : List TV → List SV → List Vr
  | t :: ts, v :: vs => extV t v ++ extVs ts vs
  | _, _ => []
end
mutual
def fillV : TV → Nat → List Vr → SV
  | .d t, n, vs => .d (fillT t n vs)
  | .nils, _, _ => .nils
  | .own k, _, _ => .own k
  | .ptr k o, _, _ => .ptr k o
  | .nilp, _, _ => .nilp
  | .rp k o, n, vs => .rp k (vN vs n) o
  | .fn f, _, _ => .fn f
  | .undef, _, _ => .undef
  | .any, n, vs => vV vs n
  | .pv ts o, n, vs => .pv (fillTs ts n vs) o
  | .fb f ts, n, vs => .fb f (fillTs ts n vs)
  | .bx m j t, n, vs => .bx m j (fillT t n vs)
  | .agg ts, n, vs => .agg (fillVs ts n vs)
def fillVs : List TV → Nat → List Vr → List SV
  | [], _, _ => []
  | t :: ts, n, vs => fillV t n vs :: fillVs ts (n + nV t) vs
end
mutual
theorem fillV_ext : ∀ {t : TV} {v : SV}, chkV t v = true → (extV t v).length = nV t ∧ ∀ pre post, fillV t pre.length (pre ++ (extV t v ++ post)) = v
  | .d t, v, h => by
    cases v <;> first | (simp [chkV] at h; done) | skip
    refine ⟨by simp [extV, nV], fun pre post => ?_⟩
    simp only [chkV] at h
    simp only [fillV, extV, List.cons_append, List.nil_append, fillT_ext h]
  | .nils, v, h => by cases v <;> first | (simp [chkV] at h; done) | exact ⟨rfl, fun _ _ => rfl⟩
  | .own n, v, h => by
    cases v <;> first | (simp [chkV] at h; done) | (simp [chkV] at h; subst h; exact ⟨rfl, fun _ _ => rfl⟩)
  | .ptr n o, v, h => by
    cases v <;> first | (simp [chkV] at h; done) | (simp [chkV] at h; obtain ⟨rfl, rfl⟩ := h; exact ⟨rfl, fun _ _ => rfl⟩)
  | .nilp, v, h => by cases v <;> first | (simp [chkV] at h; done) | exact ⟨rfl, fun _ _ => rfl⟩
  | .rp n o, v, h => by
    cases v <;> first | (simp [chkV] at h; done) | skip
    simp [chkV] at h
    obtain ⟨rfl, rfl⟩ := h
    exact ⟨by simp [extV, nV], fun pre post => by simp [fillV, extV, vN, nthV_mid]⟩
  | .fn f, v, h => by
    cases v <;> first | (simp [chkV] at h; done) | (simp [chkV] at h; subst h; exact ⟨rfl, fun _ _ => rfl⟩)
  | .undef, v, h => by cases v <;> first | (simp [chkV] at h; done) | exact ⟨rfl, fun _ _ => rfl⟩
  | .any, v, h => ⟨by simp [extV, nV], fun pre post => by simp [fillV, extV, vV, nthV_mid]⟩
  | .pv ts o, v, h => by
    cases v <;> first | (simp [chkV] at h; done) | skip
    simp [chkV] at h
    obtain ⟨h1, rfl⟩ := h
    obtain ⟨h2, h3⟩ := fillTs_ext h1
    exact ⟨by simp [extV, nV, h2], fun pre post => by simp only [fillV, extV, h3]⟩
  | .fb f ts, v, h => by
    cases v <;> first | (simp [chkV] at h; done) | skip
    simp [chkV] at h
    obtain ⟨h1, rfl⟩ := h
    obtain ⟨h2, h3⟩ := fillTs_ext h1
    exact ⟨by simp [extV, nV, h2], fun pre post => by simp only [fillV, extV, h3]⟩
  | .bx n j t, v, h => by
    cases v <;> first | (simp [chkV] at h; done) | skip
    simp only [chkV, Bool.and_eq_true, decide_eq_true_eq] at h
    obtain ⟨⟨h1, rfl⟩, rfl⟩ := h
    refine ⟨by simp [extV, nV], fun pre post => ?_⟩
    simp only [fillV, extV, List.cons_append, List.nil_append, fillT_ext h1]
  | .agg ts, v, h => by
    cases v <;> first | (simp [chkV] at h; done) | skip
    simp only [chkV] at h
    obtain ⟨h2, h3⟩ := fillVs_ext h
    exact ⟨by simp [extV, nV, h2], fun pre post => by simp only [fillV, extV, h3]⟩
theorem fillVs_ext : ∀ {ts : List TV} {vs : List SV}, chkVs ts vs = true → (extVs ts vs).length = nVs ts ∧ ∀ pre post, fillVs ts pre.length (pre ++ (extVs ts vs ++ post)) = vs
  | [], [], _ => ⟨rfl, fun _ _ => rfl⟩
  | [], _ :: _, h => by simp [chkVs] at h
  | _ :: _, [], h => by simp [chkVs] at h
  | t :: ts, v :: vs, h => by
    simp only [chkVs, Bool.and_eq_true] at h
    obtain ⟨h1, h2⟩ := fillV_ext h.1
    obtain ⟨h3, h4⟩ := fillVs_ext h.2
    refine ⟨by simp [extVs, nVs, h1, h3], fun pre post => ?_⟩
    simp only [fillVs, extVs, List.append_assoc]
    rw [h2]
    have := h4 (pre ++ extV t v) post
    rw [List.length_append, h1, List.append_assoc] at this
    rw [this]
end
inductive TB where | box (ts : List TV) | row (e sz : Nat)
def nB : TB → Nat | .box ts => nVs ts | .row _ _ => 1
def chkB : TB → Blk → Bool | .box ts, .box cs => chkVs ts cs | .row e sz, .row e' sz' _ => decide (e = e') && decide (sz = sz') | _, _ => false
def extB : TB → Blk → List Vr | .box ts, .box cs => extVs ts cs | .row _ _, .row _ _ xs => [.l xs] | _, _ => []
def fillB' : TB → Nat → List Vr → Blk | .box ts, n, vs => .box (fillVs ts n vs) | .row e sz, n, vs => .row e sz (vL vs n)
theorem fillB_ext {t : TB} {b : Blk} (h : chkB t b = true) : (extB t b).length = nB t ∧ ∀ pre post, fillB' t pre.length (pre ++ (extB t b ++ post)) = b := by
  cases t <;> cases b <;> first | (simp [chkB] at h; done) | skip
  · simp only [chkB] at h
    obtain ⟨h1, h2⟩ := fillVs_ext h
    exact ⟨h1, fun pre post => by simp only [fillB', extB, h2]⟩
  · simp only [chkB, Bool.and_eq_true, decide_eq_true_eq] at h
    obtain ⟨rfl, rfl⟩ := h
    exact ⟨rfl, fun pre post => by simp [fillB', extB, vL, nthV_mid]⟩
def nH : List (Nat × TB) → Nat | [] => 0 | (_, t) :: r => nB t + nH r
def chkH : List (Nat × TB) → List (Nat × Blk) → Bool | [], [] => true | (n, t) :: r, (k, b) :: s => decide (n = k) && chkB t b && chkH r s | _, _ => false
def extH : List (Nat × TB) → List (Nat × Blk) → List Vr | (_, t) :: r, (_, b) :: s => extB t b ++ extH r s | _, _ => []
def fillH : List (Nat × TB) → Nat → List Vr → List (Nat × Blk) | [], _, _ => [] | (k, t) :: r, n, vs => (k, fillB' t n vs) :: fillH r (n + nB t) vs
theorem fillH_ext : ∀ {ts : List (Nat × TB)} {h : List (Nat × Blk)}, chkH ts h = true → ∀ pre post, fillH ts pre.length (pre ++ (extH ts h ++ post)) = h
  | [], [], _, _, _ => rfl
  | [], _ :: _, h, _, _ => by simp [chkH] at h
  | _ :: _, [], h, _, _ => by simp [chkH] at h
  | (n, t) :: ts, (k, b) :: h, hc, pre, post => by
    simp only [chkH, Bool.and_eq_true, decide_eq_true_eq] at hc
    obtain ⟨⟨rfl, h1⟩, h2⟩ := hc
    obtain ⟨h3, h4⟩ := fillB_ext h1
    simp only [fillH, extH, List.append_assoc]
    rw [h4]
    have := fillH_ext h2 (pre ++ extB t b) post
    rw [List.length_append, h3, List.append_assoc] at this
    rw [this]
structure TSt where
  m : List TV
  h : List (Nat × TB)
def chkS (T : TSt) (st : St) : Bool := chkVs T.m st.m && st.l.isEmpty && chkH T.h st.h
def extS (T : TSt) (st : St) : List Vr := extVs T.m st.m ++ extH T.h st.h
def fillS (T : TSt) (vs : List Vr) : St := ⟨fillVs T.m 0 vs, [], fillH T.h (nVs T.m) vs⟩
theorem fillS_ext {T : TSt} {st : St} (h : chkS T st = true) : fillS T (extS T st) = st := by
  simp only [chkS, Bool.and_eq_true] at h
  obtain ⟨⟨h1, h2⟩, h3⟩ := h
  obtain ⟨h4, h5⟩ := fillVs_ext h1
  have e1 := h5 [] (extH T.h st.h)
  have e2 := fillH_ext h3 (extVs T.m st.m) []
  rw [h4, List.append_nil] at e2
  have e3 : st.l = [] := by simpa using h2
  obtain ⟨m, l, h⟩ := st
  simp only [fillS, extS] at e1 e2 e3 ⊢
  subst e3
  simp only [List.nil_append, List.length_nil] at e1
  rw [e1, e2]
def tnames : List (Nat × TB) → List Nat | [] => [] | (n, _) :: r => n :: tnames r
theorem names_fill : ∀ (ts : List (Nat × TB)) (n : Nat) (vs : List Vr), names (fillH ts n vs) = tnames ts
  | [], _, _ => rfl
  | (k, t) :: r, n, vs => by simp only [fillH, names, tnames, names_fill r]
/-- Of a state of shape T. -/
def sumT {β : Type} (T : TSt) (L : List Vr → Cont β → Option β) : St → Cont β → Option β := fun st K => if chkS T st then L (extS T st) K else none
def loopK {β : Type} (C : Ctx) (T : TSt) (L : List Vr → Cont β → Option β) (K : Cont β) : Cont β := fun e st => match e with
  | .normal => sumT T L (trim (loopN C (tnames T.h)) st) K
  | .exit j => K (.exit j) (trim (loopN C (tnames T.h)) st)
  | .ret => K .ret st
theorem loop_ok {β : Type} {C : Ctx} {k o : Nat} {S : Nat → Option (St → Cont β → Option β)} {a : Code} (T : TSt) (L : Nat → List Vr → Cont β → Option β) (H : SumsOk C k S a (o + 1)) (h0 : ∀ vs K, L 0 vs K = none)
    (h1 : ∀ m vs K, L (m + 1) vs K = denK C S a (o + 1) (fillS T vs) (loopK C T (L m) K)) : SumOk C k (sumT T (L k)) (.loop a) := by
  have key : ∀ m st K, tnames T.h = names st.h ∨ True → Le (sumT T (L m) st K) ((iter (loopN C (tnames T.h)) (den C k a) m st).bind fun r => K r.1 r.2) := by
    intro m
    induction m with
    | zero =>
      intro st K _ r h
      unfold sumT at h
      split at h
      · rw [h0] at h; cases h
      · cases h
    | succ m ih =>
      intro st K _
      unfold sumT
      split
      · rename_i hc
        rw [h1, fillS_ext hc]
        refine (denK_le a (o + 1) st _ H).trans ?_
        simp only [iter]
        cases den C k a st with
        | none => exact .none _
        | some q =>
          obtain ⟨e, st1⟩ := q
          cases e with
          | normal => exact ih _ K (.inr trivial)
          | exit j => exact .refl _
          | ret => exact .refl _
      · exact .none _
  intro st K
  simp only [den]
  by_cases hc : chkS T st = true
  · have hn : names st.h = tnames T.h := by rw [← fillS_ext hc]; exact names_fill _ _ _
    rw [hn]
    exact key k st K (.inr trivial)
  · unfold sumT
    rw [if_neg hc]
    exact .none _

/-- .. of one of some shapes. -/
def sumF {β : Type} : List (TSt × (List Vr → Cont β → Option β)) → St → Cont β → Option β
  | [], _, _ => none
  | (T, L) :: r, st, K => if chkS T st then L (extS T st) K else sumF r st K
def loopF {β : Type} (ns : List Nat) (F : List (TSt × (List Vr → Cont β → Option β))) (K : Cont β) : Cont β := fun e st => match e with
  | .normal => sumF F (trim ns st) K
  | .exit j => K (.exit j) (trim ns st)
  | .ret => K .ret st
def FamOk {β : Type} (X : St → Cont β → Option β) : List (TSt × (List Vr → Cont β → Option β)) → Prop
  | [] => True
  | (T, L) :: r => (∀ vs K, L vs K = X (fillS T vs) K) ∧ FamOk X r
def FamNone {β : Type} : List (TSt × (List Vr → Cont β → Option β)) → Prop
  | [] => True
  | (_, L) :: r => (∀ vs K, L vs K = none) ∧ FamNone r
theorem sumF_none {β : Type} : ∀ {F : List (TSt × (List Vr → Cont β → Option β))} {st : St} {K : Cont β}, FamNone F → sumF F st K = none
  | [], _, _, _ => rfl
  | (T, L) :: r, st, K, h => by
    simp only [sumF]
    split
    · exact h.1 _ _
    · exact sumF_none h.2
theorem sumF_le {β : Type} {X : St → Cont β → Option β} : ∀ {F : List (TSt × (List Vr → Cont β → Option β))} {st : St} {K : Cont β}, FamOk X F → Le (sumF F st K) (X st K)
  | [], _, _, _ => .none _
  | (T, L) :: r, st, K, h => by
    simp only [sumF]
    split
    · rename_i hc
      rw [h.1, fillS_ext hc]; exact .refl _
    · exact sumF_le h.2
theorem loop_okF {β : Type} {C : Ctx} {k o : Nat} {S : Nat → Option (St → Cont β → Option β)} {a : Code} {T : TSt} {L : List Vr → Cont β → Option β} {r : List (TSt × (List Vr → Cont β → Option β))} (F : Nat → List (TSt × (List Vr → Cont β → Option β))) (H : SumsOk C k S a (o + 1)) (h0 : FamNone (F 0))
    (h1 : ∀ m, FamOk (fun st K => denK C S a (o + 1) st (loopF (loopN C (tnames T.h)) (F m) K)) (F (m + 1))) (hk : F k = (T, L) :: r) : SumOk C k (sumT T L) (.loop a) := by
  have key : ∀ m st K, Le (sumF (F m) st K) ((iter (loopN C (tnames T.h)) (den C k a) m st).bind fun r => K r.1 r.2) := by
    intro m
    induction m with
    | zero =>
      intro st K r h
      rw [sumF_none h0] at h; cases h
    | succ m ih =>
      intro st K
      refine (sumF_le (h1 m)).trans ?_
      refine (denK_le a (o + 1) st _ H).trans ?_
      simp only [iter]
      cases den C k a st with
      | none => exact .none _
      | some q =>
        obtain ⟨e, st1⟩ := q
        cases e with
        | normal => exact ih _ K
        | exit j => exact .refl _
        | ret => exact .refl _
  intro st K
  simp only [den]
  by_cases hc : chkS T st = true
  · have hn : names st.h = tnames T.h := by rw [← fillS_ext hc]; exact names_fill _ _ _
    rw [hn]
    have e : sumT T L st K = sumF (F k) st K := by rw [hk]; simp only [sumF, sumT]; rw [if_pos hc, if_pos hc]
    rw [e]
    exact key k st K
  · unfold sumT
    rw [if_neg hc]
    exact .none _

/-! ### functions -/
/-- What an argument looks like. -/
inductive TA where | one (t : TD) | agg (ts : List TD) | ptr (ts : List TD)
def nA : TA → Nat | .one _ => 1 | .agg ts => nTs ts | .ptr ts => nTs ts
def chkA : TA → DV → Bool | .one t, .one d => chkT t d | .agg ts, .agg ds => chkTs ts ds | .ptr ts, .ptr ds => chkTs ts ds | _, _ => false
def extA : DV → List Vr | .one d => [extT d] | .agg ds => extTs ds | .ptr ds => extTs ds
def fillA : TA → Nat → List Vr → DV | .one t, n, vs => .one (fillT t n vs) | .agg ts, n, vs => .agg (fillTs ts n vs) | .ptr ts, n, vs => .ptr (fillTs ts n vs)
theorem fillA_ext {t : TA} {x : DV} (h : chkA t x = true) : (extA x).length = nA t ∧ ∀ pre post, fillA t pre.length (pre ++ (extA x ++ post)) = x := by
  cases t <;> cases x <;> first | (simp [chkA] at h; done) | skip
  · simp only [chkA] at h
    exact ⟨rfl, fun pre post => by simp only [fillA, extA, List.cons_append, List.nil_append, fillT_ext h]⟩
  · simp only [chkA] at h
    obtain ⟨h1, h2⟩ := fillTs_ext h
    exact ⟨h1, fun pre post => by simp only [fillA, extA, h2]⟩
  · simp only [chkA] at h
    obtain ⟨h1, h2⟩ := fillTs_ext h
    exact ⟨h1, fun pre post => by simp only [fillA, extA, h2]⟩
def chkAs : List TA → List DV → Bool | [], [] => true | t :: ts, x :: xs => chkA t x && chkAs ts xs | _, _ => false
def extAs : List DV → List Vr | [] => [] | x :: xs => extA x ++ extAs xs
def fillAs : List TA → Nat → List Vr → List DV | [], _, _ => [] | t :: ts, n, vs => fillA t n vs :: fillAs ts (n + nA t) vs
theorem fillAs_ext : ∀ {ts : List TA} {xs : List DV}, chkAs ts xs = true → ∀ pre post, fillAs ts pre.length (pre ++ (extAs xs ++ post)) = xs
  | [], [], _, _, _ => rfl
  | [], _ :: _, h, _, _ => by simp [chkAs] at h
  | _ :: _, [], h, _, _ => by simp [chkAs] at h
  | t :: ts, x :: xs, h, pre, post => by
    simp only [chkAs, Bool.and_eq_true] at h
    obtain ⟨h1, h2⟩ := fillA_ext h.1
    simp only [fillAs, extAs, List.append_assoc]
    rw [h2]
    have := fillAs_ext h.2 (pre ++ extA x) post
    rw [List.length_append, h1, List.append_assoc] at this
    rw [this]
/-- Results of the form that is told. -/
def cellsDV : DV → List D | .one d => [d] | .agg ds => ds | .ptr ds => ds
def nthR : List DV → Nat → DV | [], _ => .agg [] | x :: _, 0 => x | _ :: xs, n + 1 => nthR xs n
def nthO : List (List D) → Nat → List D | [], _ => [] | x :: _, 0 => x | _ :: xs, n + 1 => nthO xs n
def isDs : List D → List D → Bool | [], [] => true | z :: zs, x :: xs => isD z x && isDs zs xs | _, _ => false
def isV : DV → DV → Bool | .one z, .one x => isD z x | .agg zs, .agg xs => isDs zs xs | .ptr zs, .ptr xs => isDs zs xs | _, _ => false
def isVs : List DV → List DV → Bool | [], [] => true | z :: zs, x :: xs => isV z x && isVs zs xs | _, _ => false
def isOs : List (List D) → List (List D) → Bool | [], [] => true | z :: zs, x :: xs => isDs z x && isOs zs xs | _, _ => false
/-- Cell j of result i; of what was handed over. -/
def resC (o : Rs) (i j : Nat) : D := match o with | some (rs, _) => nthD (cellsDV (nthR rs i)) j | none => .b false
def outC (o : Rs) (i j : Nat) : D := match o with | some (_, os) => nthD (nthO os i) j | none => .b false
def okR (zr : List DV) (zo : List (List D)) (o : Rs) : Bool := match o with | some (rs, os) => isVs zr rs && isOs zo os | none => false
def etaR (o : Rs) (i : Nat) : List D → Nat → List D | [], _ => [] | z :: zs, j => etaD z (resC o i j) :: etaR o i zs (j + 1)
def etaO (o : Rs) (i : Nat) : List D → Nat → List D | [], _ => [] | z :: zs, j => etaD z (outC o i j) :: etaO o i zs (j + 1)
def etaVs (o : Rs) : List DV → Nat → List DV
  | [], _ => []
  | .one z :: zs, i => .one (etaD z (resC o i 0)) :: etaVs o zs (i + 1)
  | .agg z :: zs, i => .agg (etaR o i z 0) :: etaVs o zs (i + 1)
  | .ptr z :: zs, i => .ptr (etaR o i z 0) :: etaVs o zs (i + 1)
def etaOs (o : Rs) : List (List D) → Nat → List (List D)
  | [], _ => []
  | z :: zs, i => etaO o i z 0 :: etaOs o zs (i + 1)
def gOf (zr : List DV) (zo : List (List D)) (o : Rs) : Bool × List DV × List (List D) := (okR zr zo o, etaVs o zr 0, etaOs o zo 0)
theorem etaR_is {rs : List DV} {os : List (List D)} {i : Nat} : ∀ {zs ds : List D} {j : Nat}, isDs zs ds = true → (∀ m d, ds[m]? = some d → nthD (cellsDV (nthR rs i)) (j + m) = d) → etaR (some (rs, os)) i zs j = ds
  | [], [], j, _, _ => rfl
  | [], _ :: _, _, h, _ => by simp [isDs] at h
  | _ :: _, [], _, h, _ => by simp [isDs] at h
  | z :: zs, d :: ds, j, h, hg => by
    simp only [isDs, Bool.and_eq_true] at h
    have h0 := hg 0 d rfl
    simp only [etaR, resC]
    rw [Nat.add_zero] at h0
    rw [h0, etaD_is h.1, etaR_is h.2 (fun m x hm => by rw [show j + 1 + m = j + (m + 1) by omega]; exact hg (m + 1) x (by simpa using hm))]
theorem etaO_is {rs : List DV} {os : List (List D)} {i : Nat} : ∀ {zs ds : List D} {j : Nat}, isDs zs ds = true → (∀ m d, ds[m]? = some d → nthD (nthO os i) (j + m) = d) → etaO (some (rs, os)) i zs j = ds
  | [], [], j, _, _ => rfl
  | [], _ :: _, _, h, _ => by simp [isDs] at h
  | _ :: _, [], _, h, _ => by simp [isDs] at h
  | z :: zs, d :: ds, j, h, hg => by
    simp only [isDs, Bool.and_eq_true] at h
    have h0 := hg 0 d rfl
    simp only [etaO, outC]
    rw [Nat.add_zero] at h0
    rw [h0, etaD_is h.1, etaO_is h.2 (fun m x hm => by rw [show j + 1 + m = j + (m + 1) by omega]; exact hg (m + 1) x (by simpa using hm))]
theorem nthD_of : ∀ {ds : List D} {m : Nat} {d : D}, ds[m]? = some d → nthD ds m = d
  | [], m, d, h => by simp at h
  | x :: ds, 0, d, h => by simpa [nthD] using h
  | x :: ds, m + 1, d, h => by simp only [nthD]; exact nthD_of (by simpa using h)
theorem etaVs_is {rs : List DV} {os : List (List D)} : ∀ {zs xs : List DV} {i : Nat}, isVs zs xs = true → (∀ m x, xs[m]? = some x → nthR rs (i + m) = x) → etaVs (some (rs, os)) zs i = xs
  | [], [], i, _, _ => rfl
  | [], _ :: _, _, h, _ => by simp [isVs] at h
  | _ :: _, [], _, h, _ => by simp [isVs] at h
  | z :: zs, x :: xs, i, h, hg => by
    simp only [isVs, Bool.and_eq_true] at h
    have h0 := hg 0 x rfl
    rw [Nat.add_zero] at h0
    have ht := etaVs_is (rs := rs) (os := os) (i := i + 1) h.2 (fun m y hm => by rw [show i + 1 + m = i + (m + 1) by omega]; exact hg (m + 1) y (by simpa using hm))
    cases z <;> cases x <;> first | (simp [isV] at h; done) | skip
    · simp only [etaVs, resC, h0, cellsDV, nthD, ht]
      simp only [isV] at h
      rw [etaD_is h.1]
    · simp only [isV] at h
      simp only [etaVs, ht]
      rw [etaR_is h.1 (fun m d hm => by rw [h0, Nat.zero_add]; exact nthD_of hm)]
    · simp only [isV] at h
      simp only [etaVs, ht]
      rw [etaR_is h.1 (fun m d hm => by rw [h0, Nat.zero_add]; exact nthD_of hm)]
theorem etaOs_is {rs : List DV} {os : List (List D)} : ∀ {zs xs : List (List D)} {i : Nat}, isOs zs xs = true → (∀ m x, xs[m]? = some x → nthO os (i + m) = x) → etaOs (some (rs, os)) zs i = xs
  | [], [], i, _, _ => rfl
  | [], _ :: _, _, h, _ => by simp [isOs] at h
  | _ :: _, [], _, h, _ => by simp [isOs] at h
  | z :: zs, x :: xs, i, h, hg => by
    simp only [isOs, Bool.and_eq_true] at h
    have h0 := hg 0 x rfl
    rw [Nat.add_zero] at h0
    simp only [etaOs]
    rw [etaO_is h.1 (fun m d hm => by rw [h0, Nat.zero_add]; exact nthD_of hm), etaOs_is h.2 (fun m y hm => by rw [show i + 1 + m = i + (m + 1) by omega]; exact hg (m + 1) y (by simpa using hm))]
theorem nthR_of : ∀ {xs : List DV} {m : Nat} {x : DV}, xs[m]? = some x → nthR xs m = x
  | [], m, d, h => by simp at h
  | y :: ds, 0, d, h => by simpa [nthR] using h
  | y :: ds, m + 1, d, h => by simp only [nthR]; exact nthR_of (by simpa using h)
theorem nthO_of : ∀ {xs : List (List D)} {m : Nat} {x : List D}, xs[m]? = some x → nthO xs m = x
  | [], m, d, h => by simp at h
  | y :: ds, 0, d, h => by simpa [nthO] using h
  | y :: ds, m + 1, d, h => by simp only [nthO]; exact nthO_of (by simpa using h)
theorem opt_gOf {zr : List DV} {zo : List (List D)} {o : Rs} {r : List DV × List (List D)} (h : opt (gOf zr zo o) = some r) : o = some r := by
  unfold opt gOf at h
  split at h
  · rename_i hok
    cases o with
    | none => cases hok
    | some q =>
      obtain ⟨rs, os⟩ := q
      simp only [okR, Bool.and_eq_true] at hok
      rw [etaVs_is hok.1 (fun m x hm => by rw [Nat.zero_add]; exact nthR_of hm), etaOs_is hok.2 (fun m x hm => by rw [Nat.zero_add]; exact nthO_of hm)] at h
      exact h
  · cases h
/-- A function, its arguments of shape TS. -/
def argsT (TS : List TA) (t : List Vr → Rs) (xs : List DV) : Rs := if chkAs TS xs then t (extAs xs) else none
def bodyK (C : Ctx) (S : Nat → Option (St → Cont (List DV × List (List D)) → Rs)) (fn : Func) (sg : Sig) (c : Code) (xs : List DV) : Rs :=
  match initP 0 sg.ms xs with
  | some (vs, h) => (match adds ⟨initM sg.keep vs, [], []⟩ h with
    | some st => denK C S c 0 { st with h := bxH 0 sg.ms st.h } fun e st => fin C fn sg (some (e, st))
    | none => none)
  | none => none
theorem body_ok {P : Program} {sig : Nat → Sig} {F : Nat → List DV → Bool × List DV × List (List D)} {k f : Nat} {fn : Func} {c : Code} {S : Nat → Option (St → Cont (List DV × List (List D)) → Rs)} (hfn : P.funcs[f]? = some fn) (hb : fn.body = some c) (TS : List TA) (t : List Vr → Rs)
    (H : SumsOk ⟨P, sig, F, (sig f).keep, (sig f).ord⟩ k S c 0) (ht : ∀ vs, t vs = bodyK ⟨P, sig, F, (sig f).keep, (sig f).ord⟩ S fn (sig f) c (fillAs TS 0 vs)) {xs : List DV} {r : List DV × List (List D)} (h : argsT TS t xs = some r) :
    evalBody P sig F k f xs = some r := by
  unfold argsT at h
  split at h
  · rename_i hc
    have e := fillAs_ext hc [] []
    simp only [List.length_nil, List.append_nil, List.nil_append] at e
    rw [ht, e] at h
    unfold evalBody
    rw [hfn]
    dsimp only
    rw [hb]
    dsimp only
    unfold bodyK at h
    split at h
    · rename_i vs hh hi
      rw [hi]
      dsimp only
      split at h
      · rename_i st ha
        rw [ha]
        dsimp only
        have := denK_le c 0 _ _ H r h
        cases hd : den ⟨P, sig, F, (sig f).keep, (sig f).ord⟩ k c { st with h := bxH 0 (sig f).ms st.h } with
        | none => rw [hd] at this; cases this
        | some q => rw [hd] at this; exact this
      · cases h
    · cases h
  · cases h
/-! ### tables -/
def lkF {α : Type} (d : α) : List (Nat × α) → Nat → α | [], _ => d | (a, v) :: r, n => if a = n then v else lkF d r n
def lkS {β : Type} : List (Nat × (St → Cont β → Option β)) → Nat → Option (St → Cont β → Option β) | [], _ => none | (a, v) :: r, n => if a = n then some v else lkS r n
def AllS {β : Type} (C : Ctx) (k : Nat) (c : Code) (o : Nat) : List (Nat × (St → Cont β → Option β)) → Prop
  | [] => True
  | (a, s) :: r => (∀ n, nodeAt c (a - o) = some n → o ≤ a → SumOk C k s n) ∧ AllS C k c o r
theorem sums_of {β : Type} {C : Ctx} {k o : Nat} {c : Code} {t : List (Nat × (St → Cont β → Option β))} (h : AllS C k c o t) : SumsOk C k (lkS t) c o := fun j n s hn hs => by
  induction t with
  | nil => cases hs
  | cons e r ih =>
    obtain ⟨a, x⟩ := e
    simp only [lkS] at hs
    split at hs
    · rename_i e; subst e; cases hs
      exact h.1 n (by rw [Nat.add_sub_cancel_left]; exact hn) (Nat.le_add_right _ _)
    · exact ih h.2 hs
/-- A loop that is met in several shapes. -/
def altS {β : Type} (T : TSt) (a b : St → Cont β → Option β) : St → Cont β → Option β := fun st K => if chkS T st then a st K else b st K
theorem alt_ok {β : Type} {C : Ctx} {k : Nat} {T : TSt} {a b : St → Cont β → Option β} {c : Code} (h1 : SumOk C k a c) (h2 : SumOk C k b c) : SumOk C k (altS T a b) c := fun st K => by
  unfold altS
  split
  · exact h1 st K
  · exact h2 st K
theorem sum_in {β : Type} {C : Ctx} {k j : Nat} {c c' : Code} {s : St → Cont β → Option β} {o a : Nat} (e : nodeAt c j = some c') (h : SumOk C k s c') : ∀ n, nodeAt c j = some n → o ≤ a → SumOk C k s n := fun n hn _ => by
  rw [e] at hn; cases hn; exact h
theorem sum_out {β : Type} {C : Ctx} {k j : Nat} {c : Code} {s : St → Cont β → Option β} {o a : Nat} (e : nodeAt c j = none) : ∀ n, nodeAt c j = some n → o ≤ a → SumOk C k s n := fun n hn _ => by
  rw [e] at hn; cases hn
def AllG (Q : Nat → List DV → List DV × List (List D) → Prop) : List (Nat × (List DV → Bool × List DV × List (List D))) → Prop
  | [] => True
  | (f, g) :: r => (∀ xs q, opt (g xs) = some q → Q f xs q) ∧ AllG Q r
theorem allG_of {Q : Nat → List DV → List DV × List (List D) → Prop} {t : List (Nat × (List DV → Bool × List DV × List (List D)))} (h : AllG Q t) : ∀ f xs q, opt (lkF (fun _ => (false, [], [])) t f xs) = some q → Q f xs q := fun f xs q hq => by
  induction t with
  | nil => simp [lkF, opt] at hq
  | cons e r ih =>
    obtain ⟨a, g⟩ := e
    simp only [lkF] at hq
    split at hq
    · rename_i e; subst e; exact h.1 xs q hq
    · exact ih h.2 hq
end Go.Den
