/- The evaluator of Go code over plain data, and its soundness: part 6 of 8. -/
import Derived.Test.YtklnogkdclhdhaaDm5
import Derived.Orders
set_option linter.unusedVariables false
set_option linter.unusedSimpArgs false
/- A light operation whose operands lead to nothing that was touched comes to the same. -/
namespace Go.Den
open Go
variable {C : Ctx} {s s1 : St} {p : Path} {op : Op} {hs : List Nat}

def rowOf (h : List (Nat × Blk)) (k : Nat) : Option (List (List D)) := match hlk h k with | some (.row _ _ xs) => some xs | _ => none
/-- What v leads to is the same. -/
def SeeV (s s1 : St) (v : SV) : Prop := ∀ n ∈ nmV v, hlk s1.h n = hlk s.h n ∧ ∀ cs, hlk s.h n = some (.box cs) → ∀ k ∈ nmCs cs, rowOf s1.h k = rowOf s.h k
theorem toD_row (st : St) (n : Nat) : toD st (.own n) = (rowOf st.h n).map .l := by
  simp only [toD, rowOf]
  split <;> simp_all
theorem toD_see {x : SV} (h : ∀ k ∈ nmC x, rowOf s1.h k = rowOf s.h k) : toD s1 x = toD s x := by
  cases x with
  | own n => rw [toD_row, toD_row, h n (by simp [nmC])]
  | _ => rfl
theorem toDs_see : ∀ {xs : List SV}, (∀ k ∈ nmCs xs, rowOf s1.h k = rowOf s.h k) → toDs s1 xs = toDs s xs
  | [], _ => rfl
  | x :: xs, h => by
    have e1 := toD_see (x := x) (fun k hk => h k (by simp [nmCs, hk]))
    have e2 := toDs_see (xs := xs) (fun k hk => h k (by simp [nmCs, hk]))
    simp only [toDs, e1, e2]
theorem nmCs_drop {k : Nat} : ∀ {cs : List SV} {n : Nat}, k ∈ nmCs (cs.drop n) → k ∈ nmCs cs
  | [], n, h => by simpa using h
  | c :: cs, 0, h => h
  | c :: cs, n + 1, h => by simp only [List.drop_succ_cons] at h; simp only [nmCs, List.mem_append]; exact .inr (nmCs_drop h)
theorem nmCs_take {k : Nat} : ∀ {cs : List SV} {n : Nat}, k ∈ nmCs (cs.take n) → k ∈ nmCs cs
  | [], n, h => by simpa using h
  | c :: cs, 0, h => by simp [nmCs] at h
  | c :: cs, n + 1, h => by
    simp only [List.take_succ_cons, nmCs, List.mem_append] at h ⊢
    rcases h with h | h
    · exact .inl h
    · exact .inr (nmCs_take h)
theorem SeeV.row {v : SV} (h : SeeV s s1 v) {k : Nat} (hk : k ∈ nmV v) : rowOf s1.h k = rowOf s.h k := by simp only [rowOf, (h k hk).1]
theorem argOf_see {m : Mode} {v : SV} (h : SeeV s s1 v) : argOf s1 m v = argOf s m v := by
  cases m with
  | bor =>
    cases v with
    | agg cs => simp only [argOf, toDs_see (fun k hk => h.row (v := .agg cs) hk)]
    | tup vs => rfl
    | own n => simp only [argOf, toD_see (x := .own n) (fun k hk => h.row (v := .own n) hk)]
    | _ => rfl
  | rptr sz =>
    cases v with
    | ptr n off =>
      obtain ⟨h1, h2⟩ := h n (by simp [nmV, nmA, nmC])
      simp only [argOf, h1]
      cases hb : hlk s.h n with
      | none => rfl
      | some b =>
        cases b with
        | row e sz xs => rfl
        | box cs => simp only [toDs_see (fun k hk => h2 cs hb k (nmCs_drop (nmCs_take hk)))]
    | _ => rfl
  | fnp f sz =>
    cases v with
    | fp g n off =>
      obtain ⟨h1, h2⟩ := h n (by simp [nmV, nmA, nmC])
      simp only [argOf, h1]
      cases hb : hlk s.h n with
      | none => rfl
      | some b =>
        cases b with
        | row e sz xs => rfl
        | box cs => simp only [toDs_see (fun k hk => h2 cs hb k (nmCs_drop (nmCs_take hk)))]
    | _ => rfl
  | _ => cases v <;> rfl
theorem zipArgs_see : ∀ {ms : List Mode} {vs : List SV}, (∀ v ∈ vs, SeeV s s1 v) → zipArgs s1 ms vs = zipArgs s ms vs
  | [], [], _ => rfl
  | [], _ :: _, _ => rfl
  | _ :: _, [], _ => rfl
  | m :: ms, v :: vs, h => by
    have e1 := argOf_see (m := m) (h v (by simp))
    have e2 := zipArgs_see (ms := ms) (vs := vs) (fun x hx => h x (by simp [hx]))
    simp only [zipArgs, e1, e2]
theorem load_see {t : TypeId} {v : SV} (h : SeeV s s1 v) : load C s1 t v = load C s t v := by
  cases v with
  | ptr n off => simp only [load, (h n (by simp [nmV, nmA, nmC])).1]
  | _ => rfl
theorem lenOf_see {t : Ty} {v : SV} (h : SeeV s s1 v) : lenOf s1 t v = lenOf s t v := by
  cases v with
  | own n => cases t <;> simp only [lenOf, (h n (by simp [nmV, nmA, nmC])).1]
  | d x => cases t <;> first | rfl | (cases x <;> rfl)
  | _ => cases t <;> rfl
theorem light_see (hA : ∀ t, Operand.tmp t ∈ op.operands.toList → ∀ p, gt C s1 p t = gt C s p t) (hB : ∀ t, Operand.tmp t ∈ op.operands.toList → ∀ p, SeeV s s1 (gt C s p t)) : light C s1 p op = light C s p op := by
  have hev : ∀ x ∈ op.operands.toList, ∀ p, ev C s1 p x = ev C s p x := fun x hx p => by
    cases x with
    | tmp t => exact hA t hx p
    | _ => rfl
  have none : ∀ v, SeeV s s1 (ofConst v) := fun v n hn => by
    have : nmV (ofConst v) = [] := by unfold ofConst; split <;> rfl
    rw [this] at hn; simp at hn
  have hse : ∀ x ∈ op.operands.toList, ∀ p, SeeV s s1 (ev C s p x) := fun x hx p => by
    cases x with
    | tmp t => exact hB t hx p
    | const v => exact none v
    | func f => intro n hn; simp [ev, nmV, nmA, nmC] at hn
    | _ => intro n hn; simp [ev, nmV, nmA, nmC] at hn
  cases op
  case pick c x y =>
    cases c with
    | tmp t => simp only [light, hA t (by simp [Op.operands]), hev x (by simp [Op.operands]), hev y (by simp [Op.operands])]
    | _ => rfl
  case build t parts =>
    simp only [light]
    split
    · rw [fillB_congr (fun q hq => hev q.2 (by simp only [Op.operands, List.mem_map]; exact ⟨q, hq, rfl⟩) p)]
    · rfl
  case call c =>
    obtain ⟨callee, args, ts⟩ := c
    have hin : ∀ x ∈ args.toList, x ∈ (Op.call ⟨callee, args, ts⟩).operands.toList := fun x hx => by simp [Op.operands, Call.operands]; cases callee <;> simp <;> first | exact .inr (by simpa using hx) | simpa using hx
    have ha : ∀ x ∈ args.toList, ev C s1 p x = ev C s p x := fun x hx => hev x (hin x hx) p
    have hz : ∀ ms, zipArgs s1 ms (evs C s p args.toList) = zipArgs s ms (evs C s p args.toList) := fun ms => zipArgs_see (fun v hv => by
          have : ∀ (xs : List Operand), (∀ x ∈ xs, SeeV s s1 (ev C s p x)) → ∀ v ∈ evs C s p xs, SeeV s s1 v := fun xs => by
            induction xs with
            | nil => intro _ v hv; simp [evs] at hv
            | cons x xs ih =>
              intro h v hv
              simp only [evs, List.mem_cons] at hv
              rcases hv with rfl | hv
              · exact h x (by simp)
              · exact ih (fun y hy => h y (by simp [hy])) v hv
          exact this _ (fun x hx => hse x (hin x hx) p) v hv)
    simp only [light]
    split
    · split
      · rename_i t x h1 h2
        rw [ha x (by rw [h2]; simp), lenOf_see (hse x (hin x (by rw [h2]; simp)) p)]
      · rfl
    · split
      · rename_i x y h2; rw [ha x (by rw [h2]; simp), ha y (by rw [h2]; simp)]
      · rfl
    · split
      · rename_i x y h2; rw [ha x (by rw [h2]; simp), ha y (by rw [h2]; simp)]
      · rfl
    · split
      · rw [evs_congr ha, hz]
      · rw [evs_congr ha]
      · rfl
    · rename_i t
      rw [hA t (by simp [Op.operands, Call.operands]) p]
      split
      · simp only [callFb, evs_congr ha, hz]
      · rfl
    · rfl
  case slice t x lo hi mx =>
    cases mx with
    | some m => rfl
    | none =>
      have h1 : lo.map (ev C s1 p) = lo.map (ev C s p) := by cases lo with | none => rfl | some y => simp [hev y (by simp [Op.operands])]
      have h2 : hi.map (ev C s1 p) = hi.map (ev C s p) := by cases hi with | none => rfl | some y => simp [hev y (by simp [Op.operands])]
      simp only [light, hev x (by simp [Op.operands]), h1, h2]
  case convert a b x =>
    have hx := hse x (by simp [Op.operands]) p
    simp only [light, hev x (by simp [Op.operands])]
    generalize ev C s p x = v at hx
    generalize tyOf C.P a = A
    generalize tyOf C.P b = B
    cases v with
    | own n =>
      have e := (hx n (by simp [nmV, nmA, nmC])).1
      cases A <;> cases B <;> first | rfl | (dsimp only; rw [e])
    | d y => cases A <;> cases B <;> first | rfl | (cases y <;> rfl)
    | _ => cases A <;> cases B <;> rfl
  case indexAddr t x y =>
    have hx := hse x (by simp [Op.operands]) p
    simp only [light, hev x (by simp [Op.operands]), hev y (by simp [Op.operands])]
    generalize ev C s p x = v at hx
    generalize ev C s p y = u
    generalize tyOf C.P t = A
    cases A with
    | sl el =>
      dsimp only
      generalize (tyOf C.P el).zeros = Z
      cases Z with
      | none => rfl
      | some zs =>
        dsimp only
        cases v with
        | own n =>
          have e := (hx n (by simp [nmV, nmA, nmC])).1
          cases u with
          | d y => cases y <;> first | rfl | (dsimp only; rw [e])
          | _ => rfl
        | d x => cases x <;> (cases u <;> first | rfl | (rename_i d; cases d <;> rfl))
        | _ => rfl
    | _ => rfl
  case index t x y => simp only [light, hev x (by simp [Op.operands]), hev y (by simp [Op.operands])]
  case binOp o t x y ty => simp only [light, hev x (by simp [Op.operands]), hev y (by simp [Op.operands])]
  case load t x =>
    have hx := hse x (by simp [Op.operands]) p
    simp only [light, hev x (by simp [Op.operands])]
    generalize ev C s p x = v at hx
    cases v with
    | rp n i off => simp only [(hx n (by simp [nmV, nmA, nmC])).1]
    | _ => simp only [load_see hx]
  case unOp u t x => cases u <;> simp only [light, hev x (by simp [Op.operands])]
  case move x => simp only [light, hev x (by simp [Op.operands])]
  case assign x => simp only [light, hev x (by simp [Op.operands])]
  case nilCheck x => simp only [light, hev x (by simp [Op.operands])]
  case fieldAddr t x f => simp only [light, hev x (by simp [Op.operands])]
  case field t x f => simp only [light, hev x (by simp [Op.operands])]
  case extract x i => simp only [light, hev x (by simp [Op.operands])]
  case makeFunc fn fs cap =>
    cases fn with
    | func f =>
      simp only [light]
      split
      · rename_i x hfs hcap
        rw [hev x (by simp only [Op.operands]; simp; exact .inl (by rw [← Array.mem_toList_iff, hfs]; simp))]
      · rfl
    | _ => rfl
  all_goals rfl

/-! from 'calm' -/
theorem clear_spec : ∀ {ns : List Nat}, clear hs ns = true → ∀ n ∈ ns, n ∉ hs
  | [], _, n, hn => by simp at hn
  | m :: ns, h, n, hn => by
    simp only [clear] at h
    split at h
    · cases h
    · rename_i hm
      rcases List.mem_cons.1 hn with rfl | hn
      · exact fun h' => hm (isIn_mem.2 h')
      · exact clear_spec h n hn
theorem inH_spec {h : List (Nat × Blk)} : ∀ {ns : List Nat}, inH h ns = true → ∀ n ∈ ns, ∃ b, hlk h n = some b
  | [], _, n, hn => by simp at hn
  | m :: ns, hh, n, hn => by
    simp only [inH, Bool.and_eq_true] at hh
    rcases List.mem_cons.1 hn with rfl | hn
    · exact Option.isSome_iff_exists.1 hh.1
    · exact inH_spec hh.2 n hn
theorem clearH_spec {h : List (Nat × Blk)} : ∀ {ns : List Nat}, clearH hs h ns = true → ∀ n ∈ ns, ∃ b, hlk h n = some b ∧ ∀ cs, b = .box cs → clear hs (nmCs cs) = true ∧ inH h (nmCs cs) = true
  | [], _, n, hn => by simp at hn
  | m :: ns, hh, n, hn => by
    simp only [clearH, Bool.and_eq_true] at hh
    rcases List.mem_cons.1 hn with rfl | hn
    · have h1 := hh.1
      split at h1
      · rename_i cs hb
        simp only [Bool.and_eq_true] at h1
        exact ⟨_, hb, fun cs' e => by cases e; exact h1⟩
      · rename_i b hne hb
        exact ⟨b, hb, fun cs e => absurd e (hne cs)⟩
      · cases h1
    · exact clearH_spec hh.2 n hn
theorem killC_clear {n : Nat} {v : SV} (h : n ∉ nmC v) : killC n v = v := by
  cases v <;> first | rfl | (simp only [nmC, List.mem_singleton] at h; simp only [killC, if_neg (Ne.symm h)])
theorem killCs_clear {n : Nat} : ∀ {cs : List SV}, n ∉ nmCs cs → killCs n cs = cs
  | [], _ => rfl
  | c :: cs, h => by
    simp only [nmCs, List.mem_append, not_or] at h
    simp only [killCs, killC_clear h.1, killCs_clear h.2]
theorem killA_clear {n : Nat} {v : SV} (h : n ∉ nmA v) : killA n v = v := by
  cases v with
  | agg cs => simp only [killA, killCs_clear (show n ∉ nmCs cs from h)]
  | own m => exact killC_clear (v := .own m) h
  | ptr m o => exact killC_clear (v := .ptr m o) h
  | fp f m o => exact killC_clear (v := .fp f m o) h
  | rp m i o => exact killC_clear (v := .rp m i o) h
  | _ => rfl
theorem killAs_clear {n : Nat} : ∀ {vs : List SV}, n ∉ nmAs vs → killAs n vs = vs
  | [], _ => rfl
  | c :: cs, h => by
    simp only [nmAs, List.mem_append, not_or] at h
    simp only [killAs, killA_clear h.1, killAs_clear h.2]
theorem killV_clear {n : Nat} {v : SV} (h : n ∉ nmV v) : killV n v = v := by
  cases v with
  | tup vs => simp only [killV, killAs_clear h]
  | agg cs => exact killA_clear (v := .agg cs) h
  | own m => exact killC_clear (v := .own m) h
  | ptr m o => exact killC_clear (v := .ptr m o) h
  | fp f m o => exact killC_clear (v := .fp f m o) h
  | rp m i o => exact killC_clear (v := .rp m i o) h
  | _ => rfl
theorem killsB_clear : ∀ {ns : List Nat} {cs : List SV}, (∀ n ∈ ns, n ∉ nmCs cs) → killsB ns (.box cs) = .box cs
  | [], cs, _ => rfl
  | n :: ns, cs, h => by simp only [killsB, killB, killCs_clear (h n (by simp))]; exact killsB_clear (fun k hk => h k (by simp [hk]))
theorem killsB_row : ∀ {ns : List Nat} {e sz : Nat} {xs : List (List D)}, killsB ns (.row e sz xs) = .row e sz xs
  | [], _, _, _ => rfl
  | n :: ns, _, _, _ => by simp only [killsB, killB, killsB_row]
def killsV : List Nat → SV → SV | [], v => v | n :: ns, v => killsV ns (killV n v)
theorem killsV_clear : ∀ {ns : List Nat} {v : SV}, (∀ n ∈ ns, n ∉ nmV v) → killsV ns v = v
  | [], v, _ => rfl
  | n :: ns, v, h => by simp only [killsV, killV_clear (h n (by simp))]; exact killsV_clear (fun k hk => h k (by simp [hk]))
theorem lk_killsV (t : Nat) : ∀ (ns : List Nat) (l : List (Nat × Path × Bool × SV)), lk (killsL ns l) t = (lk l t).map fun e => (e.1, e.2.1, killsV ns e.2.2)
  | [], l => by cases h : lk l t <;> simp [killsL, killsV, h]
  | n :: ns, l => by
    rw [killsL, lk_killsV t ns, lk_killL]
    cases lk l t <;> rfl
theorem lkm_killsV (ks : List Nat) (t : Nat) : ∀ (ns : List Nat) (m : List SV), lkm ks (killsM ns m) t = killsV ns (lkm ks m t)
  | [], m => rfl
  | n :: ns, m => by rw [killsM, lkm_killsV ks t ns, lkm_killM]; rfl
theorem light_dry (hd : dry op = true) (hA : ∀ t, Operand.tmp t ∈ op.operands.toList → ∀ p, gt C s1 p t = gt C s p t) (p : Path) : light C s1 p op = light C s p op := by
  have hev : ∀ x ∈ op.operands.toList, ∀ p, ev C s1 p x = ev C s p x := fun x hx p => by
    cases x with
    | tmp t => exact hA t hx p
    | _ => rfl
  cases op <;> simp only [dry, Bool.false_eq_true] at hd
  case nilCheck x => simp only [light, hev x (by simp [Op.operands])]
  case fieldAddr t x f => simp only [light, hev x (by simp [Op.operands])]
  case field t x f => simp only [light, hev x (by simp [Op.operands])]
  case extract x i => simp only [light, hev x (by simp [Op.operands])]
  case move x => simp only [light, hev x (by simp [Op.operands])]
  case assign x => simp only [light, hev x (by simp [Op.operands])]
/-- A quiet slot is left as it is. -/
theorem quiet_spec {t : Nat} {hs bs : List Nat} (h : quiet C s hs t = true) (A : Frm hs bs s s1) : lk s1.l t = lk s.l t ∧ lkm C.keep s1.m t = (match lk s.l t with | some _ => lkm C.keep s1.m t | none => lkm C.keep s.m t) ∧ ∀ p, gt C s1 p t = gt C s p t := by
  obtain ⟨ns, a1, a2, a3, a4⟩ := A
  have hc := clear_spec h
  have hk : killsV ns (raw C s t) = raw C s t := killsV_clear fun n hn hm => hc n hm (a1 n hn)
  have hlk : lk s1.l t = lk s.l t := by
    rw [a3, lk_killsV]
    cases hl : lk s.l t with
    | none => rfl
    | some e =>
      obtain ⟨q, c, v⟩ := e
      have : raw C s t = v := by unfold raw; rw [hl]
      rw [this] at hk
      simp only [Option.map_some, hk]
  have hlm : lk s.l t = none → lkm C.keep s1.m t = lkm C.keep s.m t := fun hl => by
    have : raw C s t = lkm C.keep s.m t := by unfold raw; rw [hl]
    rw [this] at hk
    rw [a2, lkm_killsV, hk]
  refine ⟨hlk, ?_, fun p => ?_⟩
  · cases hl : lk s.l t with
    | some e => rfl
    | none => exact hlm hl
  · unfold gt
    rw [hlk]
    cases hl : lk s.l t with
    | none => exact hlm hl
    | some e => rfl
/-- A calm slot is left as it is, and what it leads to. -/
theorem calm_spec {t : Nat} {hs bs : List Nat} (h : calm C s (hs ++ bs) t = true) (A : Frm hs bs s s1) : lk s1.l t = lk s.l t ∧ lkm C.keep s1.m t = (match lk s.l t with | some _ => lkm C.keep s1.m t | none => lkm C.keep s.m t) ∧ ∀ p, gt C s1 p t = gt C s p t ∧ SeeV s s1 (gt C s p t) := by
  simp only [calm, Bool.and_eq_true] at h
  obtain ⟨h1, h2⟩ := h
  obtain ⟨ns, a1, a2, a3, a4⟩ := A
  have hc' := clear_spec h1
  have hc : ∀ n, n ∈ nmV (raw C s t) → n ∉ hs := fun n hn hm => hc' n hn (by simp [hm])
  have hb' : ∀ n, n ∈ nmV (raw C s t) → n ∉ bs := fun n hn hm => hc' n hn (by simp [hm])
  have hH := clearH_spec h2
  have hk : killsV ns (raw C s t) = raw C s t := killsV_clear fun n hn hm => hc n hm (a1 n hn)
  have hlk : lk s1.l t = lk s.l t := by
    rw [a3, lk_killsV]
    cases hl : lk s.l t with
    | none => rfl
    | some e =>
      obtain ⟨q, c, v⟩ := e
      have : raw C s t = v := by unfold raw; rw [hl]
      rw [this] at hk
      simp only [Option.map_some, hk]
  have hsee : SeeV s s1 (raw C s t) := fun n hn => by
    obtain ⟨b, hb, hbc⟩ := hH n hn
    have hn' := hc n hn
    have h3 := a4 n b hb hn' (hb' n hn)
    cases b with
    | row e sz xs => rw [killsB_row] at h3; exact ⟨by rw [h3, hb], fun cs hcs => by rw [hb] at hcs; cases hcs⟩
    | box cs =>
      obtain ⟨c1, c2⟩ := hbc cs rfl
      have c1' := clear_spec c1
      rw [killsB_clear fun k hk hm => c1' k hm (List.mem_append_left _ (a1 k hk))] at h3
      refine ⟨by rw [h3, hb], fun cs' hcs k hk => ?_⟩
      rw [hb] at hcs; cases hcs
      obtain ⟨b', hb'⟩ := inH_spec c2 k hk
      have h4 := a4 k b' hb' (fun hm => c1' k hk (List.mem_append_left _ hm)) (fun hm => c1' k hk (List.mem_append_right _ hm))
      simp only [rowOf, hb', h4]
      cases b' with
      | row e sz xs => rw [killsB_row]
      | box cs' =>
        have : ∀ (ns : List Nat) (cs : List SV), ∃ cs', killsB ns (.box cs) = .box cs' := fun ns => by
          induction ns with
          | nil => intro cs; exact ⟨cs, rfl⟩
          | cons n ns ih => intro cs; simp only [killsB, killB]; exact ih _
        obtain ⟨c'', hc''⟩ := this ns cs'
        rw [hc'']
  refine ⟨hlk, ?_, fun p => ?_⟩
  · cases hl : lk s.l t with
    | some e => rfl
    | none =>
      dsimp only
      have : raw C s t = lkm C.keep s.m t := by unfold raw; rw [hl]
      rw [this] at hk
      rw [a2, lkm_killsV, hk]
  · have hlm : lk s.l t = none → lkm C.keep s1.m t = lkm C.keep s.m t := fun hl => by
      have : raw C s t = lkm C.keep s.m t := by unfold raw; rw [hl]
      rw [this] at hk
      rw [a2, lkm_killsV, hk]
    unfold gt
    rw [hlk]
    cases hl : lk s.l t with
    | none =>
      have hr : raw C s t = lkm C.keep s.m t := by unfold raw; rw [hl]
      exact ⟨hlm hl, by rw [hr] at hsee; exact hsee⟩
    | some e =>
      obtain ⟨q, c, v⟩ := e
      have hr : raw C s t = v := by unfold raw; rw [hl]
      dsimp only
      refine ⟨rfl, ?_⟩
      split
      · rw [hr] at hsee; exact hsee
      · intro n hn; simp [nmV, nmA, nmC] at hn
end Go.Den

/- Draw regions, first part: an alloc whose box stands already in the memory's list; what the kernel looks at. -/
namespace Go.Den
open Go
variable {C : Ctx} {R : Rt} {G G0 G1 : Gh} {st st1 st2 : St} {a : Act} {w w' : World} {o : Oper} {v : SV}

theorem same_born {h : List (Nat × Blk)} {n : Nat} (hn : ¬ G.live n) (b : Nat × Nat) (v : Value) (ψ : Nat → Prop) : ∀ k, Same G h (G.add n b v ψ) h k := fun k hk => by
  have hkn : k ≠ n := fun e => hn (e ▸ hk)
  exact ⟨.inl hk, by simp [Gh.add, hkn], by simp [Gh.add, hkn], fun e sz xs hx => ⟨xs, hx⟩⟩
/-- An alloc, where its box stands already. -/
theorem born_inv {n : Nat} {cs : List SV} {cur : Array Value} {e : TypeId} (H : Inv C R G st a w) (hu : Unborn G st.h n (.box cs)) (he : Ext w w') (hg : w'.heap[w.heap.size]? = some (.cells cur e (0, 0))) (hs : w'.heap.size = w.heap.size + 1) (hl : cs.length ≤ cur.size)
    (hc : ∀ (j : Nat) x, cs[j]? = some x → ∃ u, cur[j]? = some u ∧ u.oneCell' = true ∧ CRel R G st.h x u) :
    Inv C R (G.add n (w.heap.size, 0) undef (· = w.heap.size)) st a w' ∧ VRel R (G.add n (w.heap.size, 0) undef (· = w.heap.size)) st.h (.ptr n 0) (.pointer (some ⟨w.heap.size, 0, none⟩)) ∧ ∀ m ds, m ≠ n → Unborn G st.h m ds → Unborn (G.add n (w.heap.size, 0) undef (· = w.heap.size)) st.h m ds := by
  obtain ⟨hnl, hb, hfl⟩ := hu
  have H' := inv_ext H he
  have hsm := same_born (G := G) (h := st.h) hnl (w.heap.size, 0) undef (· = w.heap.size)
  have e1 : ∀ k, k ≠ n → (G.add n (w.heap.size, 0) undef (· = w.heap.size)).φ k = G.φ k := fun k h => by simp [Gh.add, h]
  have e2 : (G.add n (w.heap.size, 0) undef (· = w.heap.size)).φ n = (· = w.heap.size) := by simp [Gh.add]
  refine ⟨⟨H'.W, ⟨fun k hk _ => ?_, fun k m hk _ hm _ hkm j hj1 hj2 => ?_, fun k hk _ j hj => ?_, fun k b hf => ?_⟩, fun _ _ _ => id, fun t => ?_, H'.l, H'.m⟩, ⟨.inr rfl, by simp [Gh.add]⟩, fun m ds hmn ⟨h1, h2, h3⟩ => ⟨fun h => ?_, h2, h3⟩⟩
  · rcases hk with hk | rfl
    · obtain ⟨y, h1, h2⟩ := H'.B.rel k hk id
      have hkn : k ≠ n := fun e => hnl (e ▸ hk)
      exact ⟨y, h1, brel_same hsm (by simp [Gh.add, hkn]) (by simp [Gh.add, hkn]) (by simp [Gh.add, hkn]) h2⟩
    · refine ⟨.box cs, hb, cur, e, by simp [Gh.add, hg], by simp [Gh.add], fun lo hi hlb => ?_, by simpa [Gh.add] using hl, fun j x hj => ?_⟩
      · simp only [Gh.add, if_true] at hlb
        have := lb_old H.W hlb
        have := H.W.size
        omega
      · obtain ⟨u, h1, h2, h3⟩ := hc j x hj
        exact ⟨u, by simpa [Gh.add] using h1, h2, crel_same (fun k _ => hsm k) h3⟩
  · have old : ∀ m, G.live m → G.φ m w.heap.size → False := fun m hm h => by have := (H.B.mine m hm id _ h).1; omega
    rcases hk with hk | rfl <;> rcases hm with hm | rfl
    · rw [e1 k (fun e => hnl (e ▸ hk))] at hj1
      rw [e1 m (fun e => hnl (e ▸ hm))] at hj2
      exact H.B.disj k m hk id hm id hkm j hj1 hj2
    · rw [e1 k hkm] at hj1
      rw [e2] at hj2
      exact old k hk (hj2 ▸ hj1)
    · rw [e2] at hj1
      rw [e1 m (Ne.symm hkm)] at hj2
      exact old m hm (hj1 ▸ hj2)
    · exact hkm rfl
  · rcases hk with hk | rfl
    · rw [e1 k (fun e => hnl (e ▸ hk))] at hj
      exact H'.B.mine k hk id j hj
    · rw [e2] at hj
      exact ⟨by rw [hj, hs]; omega, .inr (by rw [hj]; exact H.W.size)⟩
  · obtain ⟨h1, h2, h3⟩ := H'.B.fix k b hf
    have hkn : k ≠ n := fun e => hnl (e ▸ h1)
    exact ⟨.inl h1, by simp [Gh.add, hkn, h2], h3⟩
  · have := slot_same (st := st) (h' := st.h) hsm (H'.slots t)
    exact this
  · rcases h with h | h
    · exact h1 h
    · exact hmn h
/-- An empty slice that is made, where its row stands already. -/
theorem born_row {n e sz : Nat} {cur : Array Value} (H : Inv C R G st a w) (hu : Unborn G st.h n (.row e sz [])) (he : Ext w w') (hg : w'.heap[w.heap.size]? = some (.cells cur e (0, 0))) (hs : w'.heap.size = w.heap.size + 1) (hE : EOk C.P e sz) :
    Inv C R (G.add n (0, 0) (.slice (some ⟨w.heap.size, 0, none⟩) 0 0) (· = w.heap.size)) st a w' ∧ VRel R (G.add n (0, 0) (.slice (some ⟨w.heap.size, 0, none⟩) 0 0) (· = w.heap.size)) st.h (.own n) (.slice (some ⟨w.heap.size, 0, none⟩) 0 0) ∧ ∀ m ds, m ≠ n → Unborn G st.h m ds → Unborn (G.add n (0, 0) (.slice (some ⟨w.heap.size, 0, none⟩) 0 0) (· = w.heap.size)) st.h m ds := by
  obtain ⟨hnl, hb, hfl⟩ := hu
  have H' := inv_ext H he
  have hsm := same_born (G := G) (h := st.h) hnl (0, 0) (.slice (some ⟨w.heap.size, 0, none⟩) 0 0) (· = w.heap.size)
  have e1 : ∀ k, k ≠ n → (G.add n (0, 0) (.slice (some ⟨w.heap.size, 0, none⟩) 0 0) (· = w.heap.size)).φ k = G.φ k := fun k h => by simp [Gh.add, h]
  have e2 : (G.add n (0, 0) (.slice (some ⟨w.heap.size, 0, none⟩) 0 0) (· = w.heap.size)).φ n = (· = w.heap.size) := by simp [Gh.add]
  have hrow : RowR w' e sz (· = w.heap.size) [] (.slice (some ⟨w.heap.size, 0, none⟩) 0 0) :=
    .inr ⟨w.heap.size, 0, 0, _, cur, fun _ _ => undef, fun _ _ _ => False, rfl, hg, rfl, Nat.le_refl _, by simp, by simp, fun i r j d h => by simp at h, fun _ _ _ h => h.elim, fun _ _ _ _ _ h => h.elim, fun i r j d h => by simp at h⟩
  refine ⟨⟨H'.W, ⟨fun k hk _ => ?_, fun k m hk _ hm _ hkm j hj1 hj2 => ?_, fun k hk _ j hj => ?_, fun k b hf => ?_⟩, fun _ _ _ => id, fun t => ?_, H'.l, H'.m⟩, ⟨.inr rfl, by simp [Gh.add], rfl⟩, fun m ds hmn ⟨h1, h2, h3⟩ => ⟨fun h => ?_, h2, h3⟩⟩
  · rcases hk with hk | rfl
    · obtain ⟨y, h1, h2⟩ := H'.B.rel k hk id
      have hkn : k ≠ n := fun e => hnl (e ▸ hk)
      exact ⟨y, h1, brel_same hsm (by simp [Gh.add, hkn]) (by simp [Gh.add, hkn]) (by simp [Gh.add, hkn]) h2⟩
    · refine ⟨.row e sz [], hb, by simpa [Gh.add] using hrow.x, hE.1, hE.2, fun j lo hi hj hlb => ?_⟩
      simp only [Gh.add, if_true] at hj
      subst hj
      have := lb_old H.W hlb
      have := H.W.size
      omega
  · have old : ∀ m, G.live m → G.φ m w.heap.size → False := fun m hm h => by have := (H.B.mine m hm id _ h).1; omega
    rcases hk with hk | rfl <;> rcases hm with hm | rfl
    · rw [e1 k (fun e => hnl (e ▸ hk))] at hj1
      rw [e1 m (fun e => hnl (e ▸ hm))] at hj2
      exact H.B.disj k m hk id hm id hkm j hj1 hj2
    · rw [e1 k hkm] at hj1
      rw [e2] at hj2
      exact old k hk (hj2 ▸ hj1)
    · rw [e2] at hj1
      rw [e1 m (Ne.symm hkm)] at hj2
      exact old m hm (hj1 ▸ hj2)
    · exact hkm rfl
  · rcases hk with hk | rfl
    · rw [e1 k (fun e => hnl (e ▸ hk))] at hj
      exact H'.B.mine k hk id j hj
    · rw [e2] at hj
      exact ⟨by rw [hj, hs]; omega, .inr (by rw [hj]; exact H.W.size)⟩
  · obtain ⟨h1, h2, h3⟩ := H'.B.fix k b hf
    have hkn : k ≠ n := fun e => hnl (e ▸ h1)
    exact ⟨.inl h1, by simp [Gh.add, hkn, h2], h3⟩
  · have := slot_same (st := st) (h' := st.h) hsm (H'.slots t)
    exact this
  · rcases h with h | h
    · exact h1 h
    · exact hmn h
end Go.Den

/- Draw regions, second part: the machine's own state beside den's. -/
namespace Go.Den
open Go
variable {C : Ctx} {R : Rt} {G G0 G1 : Gh} {st st1 st2 σ σ1 s s1 : St} {a : Act} {w w' : World} {o : Oper} {v : SV} {hid hid' : Nat → Prop}

/-- σ has what s has, but for the hidden slots. -/
structure Rel (C : Ctx) (hid : Nat → Prop) (σ s : St) : Prop where
  h : σ.h = s.h
  eq : ∀ t, ¬ hid t → lk σ.l t = lk s.l t ∧ lkm C.keep σ.m t = lkm C.keep s.m t
  no : ∀ t, hid t → lk σ.l t = none
theorem Rel.gt (H : Rel C hid σ s) {t : Nat} (ht : ¬ hid t) (p : Path) : Den.gt C σ p t = Den.gt C s p t := by
  obtain ⟨h1, h2⟩ := H.eq t ht
  unfold Den.gt
  rw [h1, h2]
theorem lk_killsL (t : Nat) : ∀ (ns : List Nat) (l l' : List (Nat × Path × Bool × SV)), lk l' t = lk l t → lk (killsL ns l') t = lk (killsL ns l) t
  | [], l, l', e => e
  | n :: ns, l, l', e => lk_killsL t ns _ _ (by rw [lk_killL, lk_killL, e])
theorem lk_killsL_none (t : Nat) : ∀ (ns : List Nat) (l : List (Nat × Path × Bool × SV)), lk l t = none → lk (killsL ns l) t = none
  | [], l, e => e
  | n :: ns, l, e => lk_killsL_none t ns _ (by rw [lk_killL, e]; rfl)
theorem lkm_killsM (ks : List Nat) (t : Nat) : ∀ (ns : List Nat) (m m' : List SV), lkm ks m' t = lkm ks m t → lkm ks (killsM ns m') t = lkm ks (killsM ns m) t
  | [], m, m', e => e
  | n :: ns, m, m', e => lkm_killsM ks t ns _ _ (by rw [lkm_killM, lkm_killM, e])
theorem Rel.sim (H : Rel C hid σ s) (A : Sim s s1 σ σ1) : Rel C hid σ1 s1 := by
  obtain ⟨ns, a1, a2, a3, a4, a5⟩ := A
  refine ⟨a5, fun t ht => ⟨?_, ?_⟩, fun t ht => ?_⟩
  · rw [a2, a4]; exact lk_killsL t ns _ _ (H.eq t ht).1
  · rw [a1, a3]; exact lkm_killsM _ t ns _ _ (H.eq t ht).2
  · rw [a4]; exact lk_killsL_none t ns _ (H.no t ht)
theorem Rel.guard {ops : Array Oper} (H : Rel C hid σ s) {g : Option (Nat × Bool)} (hg : ∀ j b oj t, g = some (j, b) → ops[j]? = some oj → oj.dst = some t → ¬ hid t) : guardOf ops σ g = guardOf ops s g := by
  cases g with
  | none => rfl
  | some jb =>
    obtain ⟨j, b⟩ := jb
    unfold guardOf
    dsimp only
    cases hj : ops[j]? with
    | none => rfl
    | some oj =>
      dsimp only
      cases ht : oj.dst with
      | none => rfl
      | some t => dsimp only; rw [(H.eq t (hg j b oj t rfl hj ht)).1]
/-- Both fill a slot with the same. -/
theorem Rel.pt (H : Rel C hid σ s) {p : Path} {c : Bool} {d : Option Nat} (hd : ∀ t, d = some t → ¬ hid t) (hσ : σ.m.length = C.keep.length) (hs : s.m.length = C.keep.length) : Rel C hid (pt C σ p c d v) (Den.pt C s p c d v) := by
  cases d with
  | none => exact H
  | some t =>
    have ht := hd t rfl
    unfold Den.pt
    dsimp only
    by_cases hk : isIn C.keep t = true
    · rw [if_pos hk, if_pos hk]
      have key : ∀ x, Rel C hid { σ with m := stm C.keep σ.m t x } { s with m := stm C.keep s.m t x } := fun x => ⟨H.h, fun u hu => ⟨(H.eq u hu).1, by
        show lkm C.keep (stm C.keep σ.m t x) u = lkm C.keep (stm C.keep s.m t x) u
        rw [lkm_stm hk hσ u, lkm_stm hk hs u, (H.eq u hu).2]⟩, H.no⟩
      split <;> exact key _
    · rw [if_neg hk, if_neg hk]
      refine ⟨H.h, fun u hu => ⟨?_, (H.eq u hu).2⟩, fun u hu => ?_⟩
      · simp only [lk]; rw [(H.eq u hu).1]
      · simp only [lk]
        rw [if_neg (fun e => ht (by rw [e]; exact hu))]
        exact H.no u hu
/-- den goes ahead: the slot is hidden from then on. -/
theorem Rel.ahead (H : Rel C hid σ s) {p : Path} {c : Bool} {t : Nat} (hn : lk σ.l t = none) (hs : s.m.length = C.keep.length) : Rel C (fun u => hid u ∨ u = t) σ (Den.pt C s p c (some t) v) := by
  unfold Den.pt
  dsimp only
  by_cases hk : isIn C.keep t = true
  · rw [if_pos hk]
    have key : ∀ x, Rel C (fun u => hid u ∨ u = t) σ { s with m := stm C.keep s.m t x } := fun x => ⟨H.h, fun u hu => ⟨(H.eq u (fun h => hu (.inl h))).1, by
      show _ = lkm C.keep (stm C.keep s.m t x) u
      rw [lkm_stm hk hs u, if_neg (fun e => hu (.inr e))]
      exact (H.eq u (fun h => hu (.inl h))).2⟩, fun u hu => by rcases hu with hu | rfl; exact H.no u hu; exact hn⟩
    split <;> exact key _
  · rw [if_neg hk]
    refine ⟨H.h, fun u hu => ⟨?_, (H.eq u (fun h => hu (.inl h))).2⟩, fun u hu => by rcases hu with hu | rfl; exact H.no u hu; exact hn⟩
    simp only [lk]
    rw [if_neg (fun e => hu (.inr e.symm)), (H.eq u (fun h => hu (.inl h))).1]
/-- What the slot of an operation holds in s. -/
def Holds (C : Ctx) (s : St) (t : Nat) (p : Path) (c : Bool) (x : SV) : Prop :=
  (isIn C.keep t = false ∧ lk s.l t = some (p, c, x)) ∨ (isIn C.keep t = true ∧ lk s.l t = none ∧ lkm C.keep s.m t = x ∧ (p ≠ [] → x = .undef))
/-- The machine catches up. -/
theorem Rel.catch_up (H : Rel C hid σ s) {p : Path} {c : Bool} {t : Nat} {x : SV} (hx : Holds C s t p c x) (hn : lk σ.l t = none) (hσ : σ.m.length = C.keep.length) (hk2 : isIn C.keep t = false → lkm C.keep s.m t = .undef) : Rel C (fun u => hid u ∧ u ≠ t) (Den.pt C σ p c (some t) x) s := by
  unfold Den.pt
  dsimp only
  have other : ∀ u, ¬ (hid u ∧ u ≠ t) → u ≠ t → ¬ hid u := fun u h1 h2 h3 => h1 ⟨h3, h2⟩
  rcases hx with ⟨hk, hl⟩ | ⟨hk, hl, hm, hp⟩
  · rw [if_neg (by rw [hk]; simp)]
    refine ⟨H.h, fun u hu => ?_, fun u hu => ?_⟩
    · simp only [lk]
      by_cases hut : u = t
      · subst hut
        rw [if_pos rfl]
        exact ⟨hl.symm, by rw [lkm_none hk, lkm_none hk]⟩
      · rw [if_neg (Ne.symm hut)]
        exact H.eq u (other u hu hut)
    · simp only [lk]
      rw [if_neg (Ne.symm hu.2)]
      exact H.no u hu.1
  · rw [if_pos hk]
    have key : Rel C (fun u => hid u ∧ u ≠ t) { σ with m := stm C.keep σ.m t x } s := ⟨H.h, fun u hu => by
      show lk σ.l u = _ ∧ lkm C.keep (stm C.keep σ.m t x) u = _
      rw [lkm_stm hk hσ u]
      by_cases hut : u = t
      · subst hut; rw [if_pos rfl]; exact ⟨by rw [hn, hl], hm.symm⟩
      · rw [if_neg hut]; exact H.eq u (other u hu hut), fun u hu => H.no u hu.1⟩
    split
    · exact key
    · rename_i hne
      have := hp (fun e => hne e)
      rw [this] at key
      exact key
end Go.Den

/- Draw regions, third part: what the kernel looks at. -/
namespace Go.Den
open Go

def maskE (ms : List Nat) : List Edge → Nat
  | [] => 0
  | e :: es => if Region.binds .any e then (2 ^ e.on ||| ms.getD e.on 0) ||| maskE ms es else maskE ms es
/-- Of each operation, the operations that come before it: bit masks. -/
def befores : List Nat → List Oper → List Nat
  | ms, [] => ms
  | ms, o :: os => befores (ms ++ [maskE ms o.after.toList]) os
def bef (ms : List Nat) (i j : Nat) : Bool := (ms.getD i 0).testBit j
theorem maskE_bit {ms : List Nat} : ∀ {es : List Edge} {j : Nat}, (maskE ms es).testBit j = true ↔ ∃ e ∈ es, Region.binds .any e = true ∧ (j = e.on ∨ (ms.getD e.on 0).testBit j = true)
  | [], j => by simp [maskE]
  | e :: es, j => by
    simp only [maskE, List.mem_cons]
    split
    · rename_i hb
      rw [Nat.testBit_or, Nat.testBit_or, Nat.testBit_two_pow, Bool.or_eq_true, Bool.or_eq_true, maskE_bit]
      constructor
      · rintro ((h | h) | ⟨e', h1, h2⟩)
        · exact ⟨e, .inl rfl, hb, .inl (of_decide_eq_true h).symm⟩
        · exact ⟨e, .inl rfl, hb, .inr h⟩
        · exact ⟨e', .inr h1, h2⟩
      · rintro ⟨e', rfl | h1, h2, h3⟩
        · rcases h3 with h3 | h3
          · exact .inl (.inl (by simp [h3]))
          · exact .inl (.inr h3)
        · exact .inr ⟨e', h1, h2, h3⟩
    · rename_i hb
      rw [maskE_bit]
      constructor
      · rintro ⟨e', h1, h2⟩; exact ⟨e', .inr h1, h2⟩
      · rintro ⟨e', rfl | h1, h2, h3⟩
        · exact absurd h2 hb
        · exact ⟨e', h1, h2, h3⟩
theorem befores_spec : ∀ (os : List Oper) (ms : List Nat), ∃ r, befores ms os = ms ++ r ∧ r.length = os.length ∧ ∀ (i : Nat) o, os[i]? = some o → r[i]? = some (maskE (ms ++ r.take i) o.after.toList)
  | [], ms => ⟨[], by simp [befores], rfl, fun i o h => by simp at h⟩
  | o :: os, ms => by
    obtain ⟨r, h1, h2, h3⟩ := befores_spec os (ms ++ [maskE ms o.after.toList])
    refine ⟨maskE ms o.after.toList :: r, by simp [befores, h1], by simp [h2], fun i q hq => ?_⟩
    cases i with
    | zero => simp at hq; subst hq; simp
    | succ i => simp at hq; have := h3 i q hq; simpa using this
/-- A set that is closed under the edges is closed under 'before'. -/
theorem bef_closed {ops : List Oper} {X : Nat → Prop} (hX : ∀ i o, X i → ops[i]? = some o → ∀ e ∈ o.after.toList, Region.binds .any e = true → X e.on) : ∀ (i j : Nat), X i → bef (befores [] ops) i j = true → X j := by
  obtain ⟨r, h1, h2, h3⟩ := befores_spec ops []
  simp only [List.nil_append] at h1 h3
  intro i
  induction i using Nat.strongRecOn with
  | _ i ih =>
    intro j hi hb
    unfold bef at hb
    rw [h1] at hb
    cases ho : ops[i]? with
    | none =>
      have : r[i]? = none := by rw [List.getElem?_eq_none]; rw [List.getElem?_eq_none_iff] at ho; omega
      rw [List.getD_eq_getElem?_getD, this] at hb
      simp at hb
    | some o =>
      rw [List.getD_eq_getElem?_getD, h3 i o ho] at hb
      simp only [Option.getD_some, maskE_bit] at hb
      obtain ⟨e, he, hbind, hj⟩ := hb
      have hon := hX i o hi ho e he hbind
      rcases hj with rfl | hj
      · exact hon
      · by_cases hlt : e.on < i
        · refine ih e.on hlt j hon ?_
          unfold bef
          rw [h1]
          rw [List.getD_eq_getElem?_getD, List.getElem?_take, if_pos hlt] at hj
          rw [List.getD_eq_getElem?_getD]
          exact hj
        · rw [List.getD_eq_getElem?_getD, List.getElem?_take, if_neg hlt] at hj
          simp at hj
theorem bef_edge {ops : List Oper} {i : Nat} {o : Oper} (ho : ops[i]? = some o) {e : Edge} (he : e ∈ o.after.toList) (hb : Region.binds .any e = true) : bef (befores [] ops) i e.on = true := by
  obtain ⟨r, h1, h2, h3⟩ := befores_spec ops []
  simp only [List.nil_append] at h1 h3
  unfold bef
  rw [h1, List.getD_eq_getElem?_getD, h3 i o ho]
  simp only [Option.getD_some, maskE_bit]
  exact ⟨e, he, hb, .inl rfl⟩

/-- Is j among the operations done, with class k? -/
def hasD : List (Nat × Nat) → Nat → Nat → Bool
  | [], _, _ => false
  | (i, c) :: r, j, k => if i = j then (if c = k then true else hasD r j k) else hasD r j k
def anyD : List (Nat × Nat) → Nat → Bool
  | [], _ => false
  | (i, _) :: r, j => if i = j then true else anyD r j
def allD (p : Nat → Nat → Bool) : List (Nat × Nat) → Bool
  | [] => true
  | (i, c) :: r => p i c && allD p r
/-- Among the operations still to come: j, a turn. -/
def turnIn : List (Nat × Nat × List Nat) → Nat → Bool
  | [], _ => false
  | (i, c, _) :: r, j => if i = j then (if c = 1 then true else turnIn r j) else turnIn r j
/-- Whoever fills slot t, of those from number j on, comes before i, or is a turn that comes behind. -/
def readOk (ms : List Nat) (i k : Nat) (rest : List (Nat × Nat × List Nat)) (t : Nat) : Nat → List Oper → Bool
  | _, [] => true
  | j, o :: os => (match o.dst with
    | some d => if d = t then (bef ms i j || (bef ms j i && turnIn rest j) || (decide (i = j) && decide (k = 1))) else true
    | none => true) && readOk ms i k rest t (j + 1) os
def readsOk (ms : List Nat) (i k : Nat) (rest : List (Nat × Nat × List Nat)) (ops : List Oper) : List Nat → Bool
  | [] => true
  | t :: ts => readOk ms i k rest t 0 ops && readsOk ms i k rest ops ts
def subD (m : Nat) (done : List (Nat × Nat)) : Nat → Bool
  | 0 => true
  | j + 1 => (if m.testBit j then anyD done j else true) && subD m done j
def isAlloc (o : Oper) : Bool := match o.op, o.guard, o.dst with | .alloc _, none, some _ => true | .buildSlice _ 0 parts, none, some _ => parts.isEmpty | _, _, _ => false
def chkD (ops : Array Oper) (ms : List Nat) : List (Nat × Nat) → List (Nat × Nat × List Nat) → Bool
  | done, [] => (List.range ops.size).all (anyD done)
  | done, (i, k, js) :: r => (match ops[i]? with
    | none => false
    | some o => !anyD done i && subD (ms.getD i 0) done ops.size && readsOk ms i k r ops.toList (o.looksAt ops) &&
      (match k with
       | 0 => allD (fun j c => decide (c ≠ 1) || bef ms i j) done
       | 1 => allD (fun j c => decide (c ≠ 1) || bef ms i j) done && allD (fun j c => decide (c ≠ 0) || bef ms i j || isIn js j) done && js.all (fun j => hasD done j 0)
       | 2 => isAlloc o && decide (ms.getD i 0 = 0) && allD (fun _ c => decide (c = 2)) done
       | _ => false) && chkD ops ms ((i, k) :: done) r)
def edgesIn (n : Nat) : List Edge → Bool
  | [] => true
  | e :: es => (!Region.binds .any e || decide (e.on < n)) && edgesIn n es
def edgesAll (n : Nat) : List Oper → Bool
  | [] => true
  | o :: os => edgesIn n o.after.toList && edgesAll n os
theorem edgesIn_spec {n : Nat} : ∀ {es : List Edge}, edgesIn n es = true → ∀ e ∈ es, Region.binds .any e = true → e.on < n
  | [], _, e, he, _ => by simp at he
  | x :: es, h, e, he, hb => by
    simp only [edgesIn, Bool.and_eq_true] at h
    rcases List.mem_cons.1 he with rfl | he
    · have := h.1; rw [hb] at this; simpa using this
    · exact edgesIn_spec h.2 e he hb
theorem edgesAll_spec {n : Nat} : ∀ {os : List Oper}, edgesAll n os = true → ∀ (i : Nat) o, os[i]? = some o → ∀ e ∈ o.after.toList, Region.binds .any e = true → e.on < n
  | [], _, i, o, h => by simp at h
  | x :: os, h, i, o, ho => by
    simp only [edgesAll, Bool.and_eq_true] at h
    cases i with
    | zero => simp at ho; subst ho; exact edgesIn_spec h.1
    | succ i => exact edgesAll_spec h.2 i o (by simpa using ho)
def chkDraw (n : Nat) (ops : Array Oper) (order : List (Nat × Nat × List Nat)) : Bool := chkOps n [] ops.toList && edgesAll ops.size ops.toList && chkD ops (befores [] ops.toList) [] order
end Go.Den

/- Draw regions, fourth part: what holds between den and the machine; den goes ahead. -/
namespace Go.Den
open Go
variable {C : Ctx} {R : Rt} {G G0 G1 : Gh} {st st1 st2 σ σ1 s s1 : St} {a : Act} {w w' : World} {o : Oper} {v : SV} {ops : Array Oper} {ms : List Nat}

theorem anyD_cons (i k : Nat) (r : List (Nat × Nat)) (j : Nat) : anyD ((i, k) :: r) j = true ↔ i = j ∨ anyD r j = true := by
  simp only [anyD]; split <;> simp [*]
theorem hasD_cons (i k : Nat) (r : List (Nat × Nat)) (j c : Nat) : hasD ((i, k) :: r) j c = true ↔ (i = j ∧ k = c) ∨ hasD r j c = true := by
  simp only [hasD]
  by_cases h : i = j
  · by_cases h' : k = c <;> simp [h, h']
  · simp [h]
theorem hasD_any : ∀ {r : List (Nat × Nat)} {j c : Nat}, hasD r j c = true → anyD r j = true
  | [], _, _, h => by simp [hasD] at h
  | (i, k) :: r, j, c, h => by
    rw [hasD_cons] at h
    rw [anyD_cons]
    rcases h with h | h
    · exact .inl h.1
    · exact .inr (hasD_any h)
theorem allD_has {p : Nat → Nat → Bool} : ∀ {r : List (Nat × Nat)} {j c : Nat}, allD p r = true → hasD r j c = true → p j c = true
  | [], _, _, _, h => by simp [hasD] at h
  | (i, k) :: r, j, c, ha, h => by
    simp only [allD, Bool.and_eq_true] at ha
    rw [hasD_cons] at h
    rcases h with ⟨rfl, rfl⟩ | h
    · exact ha.1
    · exact allD_has ha.2 h
theorem subD_bit {m : Nat} {done : List (Nat × Nat)} : ∀ {n j : Nat}, subD m done n = true → m.testBit j = true → j < n → anyD done j = true
  | 0, j, _, _, h => by omega
  | n + 1, j, hs, hb, h => by
    simp only [subD, Bool.and_eq_true] at hs
    by_cases e : j = n
    · subst e; rw [if_pos hb] at hs; exact hs.1
    · exact subD_bit hs.2 hb (by omega)
/-- Of an operation of the order: what was looked at. -/
structure Chk (ops : Array Oper) (ms : List Nat) (done : List (Nat × Nat)) (i k : Nat) (js : List Nat) (r : List (Nat × Nat × List Nat)) (o : Oper) : Prop where
  ho : ops[i]? = some o
  new : anyD done i = false
  sub : ∀ j, j < ops.size → bef ms i j = true → anyD done j = true
  rd : ∀ t ∈ o.looksAt ops, ∀ j oj, ops[j]? = some oj → oj.dst = some t → bef ms i j = true ∨ (bef ms j i = true ∧ turnIn r j = true) ∨ (i = j ∧ k = 1)
  cls : k = 0 ∨ k = 1 ∨ k = 2
  turns : k ≠ 2 → ∀ j, hasD done j 1 = true → bef ms i j = true
  again : k = 1 → ∀ j, hasD done j 0 = true → bef ms i j = true ∨ j ∈ js
  alloc : k = 2 → isAlloc o = true ∧ ∀ j c, hasD done j c = true → c = 2
  next : chkD ops ms ((i, k) :: done) r = true
theorem readOk_spec {i k : Nat} {rest : List (Nat × Nat × List Nat)} {t : Nat} : ∀ {os : List Oper} {j : Nat}, readOk ms i k rest t j os = true → ∀ (m : Nat) oj, os[m]? = some oj → oj.dst = some t → bef ms i (j + m) = true ∨ (bef ms (j + m) i = true ∧ turnIn rest (j + m) = true) ∨ (i = j + m ∧ k = 1)
  | [], j, _, m, oj, h, _ => by simp at h
  | o :: os, j, hr, m, oj, h, hd => by
    simp only [readOk, Bool.and_eq_true] at hr
    cases m with
    | zero =>
      simp at h
      subst h
      have h1 := hr.1
      rw [hd] at h1
      simp only [if_true, Bool.or_eq_true, Bool.and_eq_true, decide_eq_true_eq] at h1
      rcases h1 with (h1 | h1) | h1
      · exact .inl h1
      · exact .inr (.inl h1)
      · exact .inr (.inr h1)
    | succ m =>
      have := readOk_spec hr.2 m oj (by simpa using h) hd
      rw [show j + 1 + m = j + (m + 1) by omega] at this
      exact this
theorem readsOk_spec {i k : Nat} {rest : List (Nat × Nat × List Nat)} {os : List Oper} : ∀ {ts : List Nat}, readsOk ms i k rest os ts = true → ∀ t ∈ ts, readOk ms i k rest t 0 os = true
  | [], _, t, ht => by simp at ht
  | x :: ts, h, t, ht => by
    simp only [readsOk, Bool.and_eq_true] at h
    rcases List.mem_cons.1 ht with rfl | ht
    · exact h.1
    · exact readsOk_spec h.2 t ht
theorem chkD_cons {done : List (Nat × Nat)} {i k : Nat} {js : List Nat} {r : List (Nat × Nat × List Nat)} (h : chkD ops ms done ((i, k, js) :: r) = true) : ∃ o, Chk ops ms done i k js r o := by
  simp only [chkD] at h
  cases ho : ops[i]? with
  | none => rw [ho] at h; cases h
  | some o =>
    rw [ho] at h
    simp only [Bool.and_eq_true, Bool.not_eq_true'] at h
    obtain ⟨⟨⟨⟨h1, h2⟩, h3⟩, h4⟩, h5⟩ := h
    refine ⟨o, ho, h1, fun j hj hb => subD_bit h2 hb hj, fun t ht j oj hj hd => ?_, ?_, ?_, ?_, ?_, h5⟩
    · have := readOk_spec (readsOk_spec h3 t ht) j oj (by simpa using hj) hd
      simpa using this
    · rcases k with _ | _ | _ | k
      · exact .inl rfl
      · exact .inr (.inl rfl)
      · exact .inr (.inr rfl)
      · cases h4
    · intro hk j hj
      rcases k with _ | _ | _ | k
      · have := allD_has h4 hj; simpa using this
      · simp only [Bool.and_eq_true] at h4
        have := allD_has h4.1.1 hj; simpa using this
      · exact absurd rfl hk
      · cases h4
    · rintro rfl j hj
      simp only [Bool.and_eq_true] at h4
      have := allD_has h4.1.2 hj
      simp at this
      rcases this with h | h
      · exact .inl h
      · exact .inr (isIn_mem.1 h)
    · rintro rfl
      simp only [Bool.and_eq_true, decide_eq_true_eq] at h4
      exact ⟨h4.1.1, fun j c hj => by have := allD_has h4.2 hj; simpa using this⟩
theorem turnIn_new : ∀ {r : List (Nat × Nat × List Nat)} {done : List (Nat × Nat)} {j : Nat}, turnIn r j = true → chkD ops ms done r = true → anyD done j = false
  | [], _, _, h, _ => by simp [turnIn] at h
  | (i, k, js) :: r, done, j, h, hc => by
    obtain ⟨o, hc⟩ := chkD_cons hc
    simp only [turnIn] at h
    have tl : turnIn r j = true → anyD done j = false := fun h => by
      have := turnIn_new h hc.next
      by_cases e : anyD done j = true
      · rw [(anyD_cons i k done j).2 (.inr e)] at this; cases this
      · simpa using e
    split at h
    · rename_i e
      subst e
      split at h
      · exact hc.new
      · exact tl h
    · exact tl h
/-- Each operation done has those before it done earlier. -/
def DoneWf (n : Nat) (ms : List Nat) : List (Nat × Nat) → Prop
  | [] => True
  | (i, _) :: r => (∀ j, j < n → bef ms i j = true → anyD r j = true) ∧ DoneWf n ms r
theorem DoneWf.closed {n : Nat} : ∀ {done : List (Nat × Nat)}, DoneWf n ms done → ∀ i j, anyD done i = true → j < n → bef ms i j = true → anyD done j = true
  | [], _, i, j, h, _, _ => by simp [anyD] at h
  | (i0, k) :: r, hw, i, j, h, hj, hb => by
    rw [anyD_cons] at h ⊢
    rcases h with rfl | h
    · exact .inr (hw.1 j hj hb)
    · exact .inr (hw.2.closed i j h hj hb)
/-- If one is not listed, one can be. -/
theorem DoneWf.first {n : Nat} {X : Nat → Prop} : ∀ {done : List (Nat × Nat)}, DoneWf n ms done → (∃ i, anyD done i = true ∧ ¬ X i) → ∃ i, anyD done i = true ∧ ¬ X i ∧ ∀ j, j < n → bef ms i j = true → X j
  | [], _, ⟨i, h, _⟩ => by simp [anyD] at h
  | (i0, k) :: r, hw, ⟨i, h, hx⟩ => by
    by_cases hr : ∃ i, anyD r i = true ∧ ¬ X i
    · obtain ⟨i', h1, h2, h3⟩ := hw.2.first hr
      exact ⟨i', (anyD_cons _ _ _ _).2 (.inr h1), h2, h3⟩
    · have all : ∀ i, anyD r i = true → X i := fun i hi => Classical.byContradiction fun h => hr ⟨i, hi, h⟩
      rw [anyD_cons] at h
      rcases h with rfl | h
      · exact ⟨i0, (anyD_cons _ _ _ _).2 (.inl rfl), hx, fun j hj hb => all j (hw.1 j hj hb)⟩
      · exact absurd (all i h) hx

theorem chkOps_dst {n : Nat} : ∀ {os : List Oper} {seen : List Nat}, chkOps n seen os = true → (∀ (i : Nat) o t, os[i]? = some o → o.dst = some t → t < n ∧ t ∉ seen) ∧ ∀ (i j : Nat) o o' t, os[i]? = some o → os[j]? = some o' → o.dst = some t → o'.dst = some t → i = j
  | [], seen, _ => ⟨fun i o t h => by simp at h, fun i j o o' t h => by simp at h⟩
  | x :: os, seen, h => by
    obtain ⟨h1, h2⟩ := chk_dst h
    obtain ⟨h3, h4⟩ := chkOps_dst h2
    have tail : ∀ (i : Nat) o t, os[i]? = some o → o.dst = some t → t < n ∧ t ∉ seen ∧ x.dst ≠ some t := fun i o t hi ht => by
      obtain ⟨h5, h6⟩ := h3 i o t hi ht
      cases hx : x.dst with
      | none => rw [hx] at h6; exact ⟨h5, h6, by simp⟩
      | some d => rw [hx] at h6; exact ⟨h5, fun h => h6 (by simp [h]), fun e => h6 (by cases e; simp)⟩
    refine ⟨fun i o t hi ht => ?_, fun i j o o' t hi hj ht ht' => ?_⟩
    · cases i with
      | zero => simp at hi; subst hi; exact h1 t ht
      | succ i => have := tail i o t (by simpa using hi) ht; exact ⟨this.1, this.2.1⟩
    · cases i with
      | zero =>
        cases j with
        | zero => rfl
        | succ j => simp at hi; subst hi; exact absurd ht (tail j o' t (by simpa using hj) ht').2.2
      | succ i =>
        cases j with
        | zero => simp at hj; subst hj; exact absurd ht' (tail i o t (by simpa using hi) ht).2.2
        | succ j => rw [h4 i j o o' t (by simpa using hi) (by simpa using hj) ht ht']

theorem Rel.congr {hid hid' : Nat → Prop} (H : Rel C hid σ s) (h : ∀ t, hid' t ↔ hid t) : Rel C hid' σ s := ⟨H.h, fun t ht => H.eq t (fun h' => ht ((h t).2 h')), fun t ht => H.no t ((h t).1 ht)⟩
/-- The slots that den has filled and the machine has not. -/
def Hid (ops : Array Oper) (X : Nat → Prop) (done : List (Nat × Nat)) (t : Nat) : Prop := ∃ i o, anyD done i = true ∧ ¬ X i ∧ ops[i]? = some o ∧ o.dst = some t
theorem pt_h (st : St) (p : Path) (c : Bool) (d : Option Nat) (v : SV) : (pt C st p c d v).h = st.h := by
  unfold pt
  split
  · rfl
  · split
    · split <;> rfl
    · rfl
theorem pt_m (st : St) (p : Path) (c : Bool) (d : Option Nat) (v : SV) : (pt C st p c d v).m.length = st.m.length := by
  unfold pt
  split
  · rfl
  · split
    · split <;> simp [stm_len]
    · rfl
theorem pt_other {p : Path} {c : Bool} {d : Option Nat} {t : Nat} (ht : d ≠ some t) (hs : st.m.length = C.keep.length) : lk (pt C st p c d v).l t = lk st.l t ∧ lkm C.keep (pt C st p c d v).m t = lkm C.keep st.m t := by
  unfold pt
  split
  · exact ⟨rfl, rfl⟩
  · rename_i d
    have hd : t ≠ d := fun e => ht (by rw [e])
    split
    · rename_i hk
      split <;> exact ⟨rfl, by dsimp only; rw [lkm_stm hk hs, if_neg hd]⟩
    · refine ⟨?_, rfl⟩
      simp only [lk]
      rw [if_neg (Ne.symm hd)]
theorem gt_of_eq {t : Nat} (h1 : lk st1.l t = lk st.l t) (h2 : lkm C.keep st1.m t = lkm C.keep st.m t) (p : Path) : gt C st1 p t = gt C st p t := by
  unfold gt; rw [h1, h2]
theorem holdsV_of_eq {t : Nat} (h1 : lk st1.l t = lk st.l t) (h2 : lkm C.keep st1.m t = lkm C.keep st.m t) (p : Path) (c : Bool) : holdsV C st1 t p c = holdsV C st t p c := by
  unfold holdsV; rw [h1, h2]
theorem guard_of_eq {g : Option (Nat × Bool)} (h : ∀ j b oj t, g = some (j, b) → ops[j]? = some oj → oj.dst = some t → lk st1.l t = lk st.l t) : guardOf ops st1 g = guardOf ops st g := by
  cases g with
  | none => rfl
  | some jb =>
    obtain ⟨j, b⟩ := jb
    unfold guardOf
    dsimp only
    cases hj : ops[j]? with
    | none => rfl
    | some oj =>
      dsimp only
      cases ht : oj.dst with
      | none => rfl
      | some t => dsimp only; rw [h j b oj t rfl hj ht]
theorem looks_tmp {t : Nat} (h : Operand.tmp t ∈ o.op.operands.toList) : t ∈ o.looksAt ops := by
  unfold Oper.looksAt
  rw [List.mem_append]
  refine .inl (List.mem_filterMap.2 ⟨.tmp t, h, rfl⟩)
theorem looks_guard {j : Nat} {b : Bool} {oj : Oper} {t : Nat} (hg : o.guard = some (j, b)) (hj : ops[j]? = some oj) (ht : oj.dst = some t) : t ∈ o.looksAt ops := by
  unfold Oper.looksAt
  rw [List.mem_append]
  refine .inr ?_
  simp [hg, hj, ht]
/-- 'again' looks at these slots alone. -/
theorem again_of_eq {i : Nat} (hh : st1.h = st.h) (h : ∀ o t, ops[i]? = some o → t ∈ o.looksAt ops ∨ o.dst = some t → lk st1.l t = lk st.l t ∧ lkm C.keep st1.m t = lkm C.keep st.m t) (H : again C ops st i) : again C ops st1 i := by
  unfold again at H ⊢
  cases ho : ops[i]? with
  | none => rw [ho] at H; exact H
  | some o =>
    rw [ho] at H
    dsimp only at H ⊢
    have e1 : guardOf ops st1 o.guard = guardOf ops st o.guard := guard_of_eq fun j b oj t hg hj ht => (h o t ho (.inl (looks_guard hg hj ht))).1
    have e2 : ∀ p, light C st1 p o.op = light C st p o.op := fun p => light_congr hh fun t ht p => gt_of_eq (h o t ho (.inl (looks_tmp ht))).1 (h o t ho (.inl (looks_tmp ht))).2 p
    rw [e1]
    cases hg : guardOf ops st o.guard with
    | none => rw [hg] at H; exact H
    | some pc =>
      obtain ⟨p, c⟩ := pc
      rw [hg] at H
      dsimp only at H ⊢
      rw [e2]
      cases hd : o.dst with
      | none => rw [hd] at H; exact H
      | some t =>
        rw [hd] at H
        dsimp only at H ⊢
        obtain ⟨e3, e4⟩ := h o t ho (.inr hd)
        rw [holdsV_of_eq e3 e4]
        exact H
/-- What stands in the slot just filled. -/
theorem holdsV_pt {p : Path} {c : Bool} {t : Nat} (hs : st.m.length = C.keep.length) (hn : isIn C.keep t = true → lk st.l t = none) : ∃ x, holdsV C (pt C st p c (some t) v) t p c = some x ∧ (x = .undef ∨ x = v) := by
  unfold pt holdsV
  dsimp only
  by_cases hk : isIn C.keep t = true
  · simp only [hk, if_true]
    cases p with
    | nil => dsimp only; rw [hn hk]; dsimp only; rw [lkm_stm hk hs, if_pos rfl]; exact ⟨v, rfl, .inr rfl⟩
    | cons q p => dsimp only; rw [hn hk]; dsimp only; rw [lkm_stm hk hs, if_pos rfl]; exact ⟨.undef, rfl, .inl rfl⟩
  · simp only [hk]
    simp only [Bool.false_eq_true, if_false, lk, if_true, and_self]
    exact ⟨v, rfl, .inr rfl⟩
end Go.Den

/- Draw regions, fifth part: den goes ahead up to the next turn. -/
namespace Go.Den
open Go
variable {C : Ctx} {R : Rt} {G G0 G1 : Gh} {st st1 st2 σ σ1 s s1 : St} {a : Act} {w w' : World} {o : Oper} {v : SV} {ops : Array Oper} {ms : List Nat} {X : Nat → Prop}

/-- What is made in front: a variable, or an empty slice. -/
inductive NewK (C : Ctx) (o : Oper) (d : Nat) : Blk → SV → Prop
  | al (t : TypeId) (zs : List D) (h1 : o.op = .alloc t) (h2 : (tyOf C.P t).zeros = some zs) : NewK C o d (.box (svZs zs)) (.ptr (nm d 0) 0)
  | bs (t el : TypeId) (zs : List D) (h1 : o.op = .buildSlice t 0 #[]) (h2 : tyOf C.P t = .sl el) (h3 : elz C el = some zs) : NewK C o d (.row el zs.length []) (.own (nm d 0))
theorem NewK.bare {d : Nat} {b : Blk} {x0 : SV} (h : NewK C o d b x0) : bareB b := by
  cases h with
  | bs => trivial
  | al t zs _ _ =>
    intro c hc
    have : ∀ (zs : List D) (c : SV), c ∈ svZs zs → nmO c = none := fun zs => by
      induction zs with
      | nil => intro c hc; simp [svZs] at hc
      | cons z zs ih =>
        intro c hc
        simp only [svZs, List.mem_cons] at hc
        rcases hc with rfl | hc
        · unfold svZ; split <;> rfl
        · exact ih c hc
    exact this zs c hc
/-- .. that den has made and the machine has not. -/
def Waits (C : Ctx) (ops : Array Oper) (G : Gh) (σ s : St) (i : Nat) : Prop :=
  ∃ o d b x0, ops[i]? = some o ∧ o.guard = none ∧ o.dst = some d ∧ NewK C o d b x0 ∧ Unborn G σ.h (nm d 0) b ∧ ∃ x, holdsV C s d [] true = some x ∧ (x = x0 ∨ x = .undef)
/-- In the midst of a region: done by den, listed by the machine. -/
structure Mid (C : Ctx) (R : Rt) (ops : Array Oper) (ms : List Nat) (n : Nat) (X : Nat → Prop) (done : List (Nat × Nat)) (suf : List (Nat × Nat × List Nat)) (s σ : St) (G : Gh) (a : Act) (w : World) : Prop where
  dst : chkOps n [] ops.toList = true
  chk : chkD ops ms done suf = true
  wf : DoneWf ops.size ms done
  dx : ∀ i, X i → anyD done i = true
  cl : ∀ i j, X i → bef ms i j = true → X j
  tx : ∀ i, hasD done i 1 = true → X i
  kk : ∀ i, anyD done i = true → hasD done i 0 = true ∨ hasD done i 1 = true ∨ hasD done i 2 = true
  rd : ∀ i o t j oj, anyD done i = true → ¬ X i → ops[i]? = some o → t ∈ o.looksAt ops → ops[j]? = some oj → oj.dst = some t → bef ms i j = true ∨ (bef ms j i = true ∧ turnIn suf j = true)
  rel : Rel C (Hid ops X done) σ s
  ag : ∀ i, hasD done i 0 = true → ¬ X i → again C ops s i
  al : ∀ i, hasD done i 2 = true → ¬ X i → Waits C ops G σ s i
  inv : Inv C R G σ a w
  sm : s.m.length = C.keep.length
  lx : ∀ t, (lk σ.l t).isSome = true → (∃ i o, X i ∧ ops[i]? = some o ∧ o.dst = some t) ∧ isIn C.keep t = false
  ls : ∀ t, (lk s.l t).isSome = true → isIn C.keep t = false
  sz : a.tmps.size = n

theorem Mid.one {n : Nat} {done : List (Nat × Nat)} {suf : List (Nat × Nat × List Nat)} (M : Mid C R ops ms n X done suf s σ G a w) {i j : Nat} {o o' : Oper} {t : Nat} (h1 : ops[i]? = some o) (h2 : ops[j]? = some o') (h3 : o.dst = some t) (h4 : o'.dst = some t) : i = j :=
  (chkOps_dst M.dst).2 i j o o' t (by simpa using h1) (by simpa using h2) h3 h4
theorem Mid.lt {n : Nat} {done : List (Nat × Nat)} {suf : List (Nat × Nat × List Nat)} (M : Mid C R ops ms n X done suf s σ G a w) {i : Nat} {o : Oper} {t : Nat} (h1 : ops[i]? = some o) (h3 : o.dst = some t) : t < a.tmps.size := by
  rw [M.sz]; exact ((chkOps_dst M.dst).1 i o t (by simpa using h1) h3).1
theorem Mid.notX {n : Nat} {done : List (Nat × Nat)} {suf : List (Nat × Nat × List Nat)} (M : Mid C R ops ms n X done suf s σ G a w) {i : Nat} (h : anyD done i = false) : ¬ X i := fun hx => by rw [M.dx i hx] at h; cases h
theorem lt_of_get {α : Type} {xs : Array α} {i : Nat} {x : α} (h : xs[i]? = some x) : i < xs.size := by
  have := Array.getElem?_eq_some_iff.1 h
  exact this.1
/-- Another operation's slots are not touched. -/
theorem Mid.stays {n : Nat} {done : List (Nat × Nat)} {suf : List (Nat × Nat × List Nat)} (M : Mid C R ops ms n X done suf s σ G a w) {i i' k : Nat} {js : List Nat} {r : List (Nat × Nat × List Nat)} {o : Oper} (hsuf : suf = (i, k, js) :: r) (hk : k ≠ 1) (K : Chk ops ms done i k js r o) (h1 : anyD done i' = true) (h2 : ¬ X i') :
    ∀ o' t, ops[i']? = some o' → t ∈ o'.looksAt ops ∨ o'.dst = some t → o.dst ≠ some t := by
  intro o' t ho' ht hd
  rcases ht with ht | ht
  · rcases M.rd i' o' t i o h1 h2 ho' ht K.ho hd with hb | ⟨_, hb⟩
    · have := M.wf.closed i' i h1 (lt_of_get K.ho) hb
      rw [K.new] at this; cases this
    · rw [hsuf] at hb
      simp only [turnIn, if_true, if_neg hk] at hb
      have := turnIn_new hb K.next
      rw [(anyD_cons i k done i).2 (.inl rfl)] at this; cases this
  · have := M.one ho' K.ho ht hd
    subst this
    rw [K.new] at h1; cases h1
theorem Mid.rd_next {n : Nat} {done : List (Nat × Nat)} {suf : List (Nat × Nat × List Nat)} (M : Mid C R ops ms n X done suf s σ G a w) {i k : Nat} {js : List Nat} {r : List (Nat × Nat × List Nat)} {o : Oper} (hsuf : suf = (i, k, js) :: r) (hk : k ≠ 1) (K : Chk ops ms done i k js r o) :
    ∀ i' o' t j oj, anyD ((i, k) :: done) i' = true → ¬ X i' → ops[i']? = some o' → t ∈ o'.looksAt ops → ops[j]? = some oj → oj.dst = some t → bef ms i' j = true ∨ (bef ms j i' = true ∧ turnIn r j = true) := by
  intro i' o' t j oj h1 h2 ho' ht hj hd
  rw [anyD_cons] at h1
  rcases h1 with rfl | h1
  · rw [K.ho] at ho'
    cases ho'
    rcases K.rd t ht j oj hj hd with h | h | h
    · exact .inl h
    · exact .inr h
    · exact absurd h.2 hk
  · rcases M.rd i' o' t j oj h1 h2 ho' ht hj hd with h | ⟨h, h'⟩
    · exact .inl h
    · rw [hsuf] at h'
      simp only [turnIn] at h'
      simp only [if_neg hk, ite_self] at h'
      exact .inr ⟨h, h'⟩

theorem hid_next {done : List (Nat × Nat)} {i k : Nat} (ho : ops[i]? = some o) (hx : ¬ X i) (t : Nat) : Hid ops X ((i, k) :: done) t ↔ (Hid ops X done t ∨ o.dst = some t) := by
  constructor
  · rintro ⟨j, oj, h1, h2, h3, h4⟩
    rw [anyD_cons] at h1
    rcases h1 with rfl | h1
    · rw [ho] at h3; cases h3; exact .inr h4
    · exact .inl ⟨j, oj, h1, h2, h3, h4⟩
  · rintro (⟨j, oj, h1, h2, h3, h4⟩ | h)
    · exact ⟨j, oj, (anyD_cons _ _ _ _).2 (.inr h1), h2, h3, h4⟩
    · exact ⟨i, o, (anyD_cons _ _ _ _).2 (.inl rfl), hx, ho, h⟩
/-- den does an operation that changes nothing. -/
theorem Mid.light {n i : Nat} {done : List (Nat × Nat)} {js : List Nat} {r : List (Nat × Nat × List Nat)} {p : Path} {c : Bool} (M : Mid C R ops ms n X done ((i, 0, js) :: r) s σ G a w) (K : Chk ops ms done i 0 js r o) (hg : guardOf ops s o.guard = some (p, c)) (hl : c = false ∨ Den.light C s p o.op = some (true, v)) :
    Mid C R ops ms n X ((i, 0) :: done) r (pt C s p c o.dst v) σ G a w := by
  have hx : ¬ X i := M.notX K.new
  have hfree : ∀ t, o.dst = some t → lk σ.l t = none := fun t ht => by
    cases he : lk σ.l t with
    | none => rfl
    | some e =>
      obtain ⟨⟨j, oj, h1, h2, h3⟩, _⟩ := M.lx t (by rw [he]; rfl)
      have := M.one K.ho h2 ht h3
      subst this
      exact absurd h1 hx
  have hself : ∀ t, t ∈ o.looksAt ops → o.dst ≠ some t := fun t ht hd => by
    rcases K.rd t ht i o K.ho hd with h | ⟨h, _⟩ | ⟨_, h⟩
    · have := K.sub i (lt_of_get K.ho) h; rw [K.new] at this; cases this
    · have := K.sub i (lt_of_get K.ho) h; rw [K.new] at this; cases this
    · cases h
  have hlsN : ∀ t, isIn C.keep t = true → lk s.l t = none := fun t hk => by
    cases he : lk s.l t with
    | none => rfl
    | some e => have := M.ls t (by rw [he]; rfl); rw [hk] at this; cases this
  refine { dst := M.dst, chk := K.next, wf := ⟨fun j hj hb => K.sub j hj hb, M.wf⟩, dx := fun j hj => (anyD_cons _ _ _ _).2 (.inr (M.dx j hj)), cl := M.cl, tx := fun j hj => ?_, kk := fun j hj => ?_, rd := M.rd_next rfl (by decide) K, rel := ?_, ag := fun j hj hxj => ?_, al := fun j hj hxj => ?_, inv := M.inv, sm := by rw [pt_m]; exact M.sm, lx := M.lx, ls := fun t ht => ?_, sz := M.sz }
  · rw [hasD_cons] at hj
    rcases hj with ⟨_, h⟩ | hj
    · cases h
    · exact M.tx j hj
  · rw [anyD_cons] at hj
    simp only [hasD_cons]
    rcases hj with rfl | hj
    · exact .inl (by simp)
    · rcases M.kk j hj with h | h | h
      · exact .inl (.inr h)
      · exact .inr (.inl (.inr h))
      · exact .inr (.inr (.inr h))
  · cases hd : o.dst with
    | none => exact M.rel.congr fun t => by rw [hid_next K.ho hx, hd]; simp
    | some t => exact (M.rel.ahead (hfree t hd) M.sm).congr fun u => by rw [hid_next K.ho hx, hd]; simp [eq_comm]
  · rw [hasD_cons] at hj
    rcases hj with ⟨rfl, _⟩ | hj
    · -- the operation itself
      unfold again
      rw [K.ho]
      dsimp only
      have e1 : guardOf ops (pt C s p c o.dst v) o.guard = guardOf ops s o.guard := guard_of_eq fun j b oj t hgj hj ht => (pt_other (hself t (looks_guard hgj hj ht)) M.sm).1
      have e2 : Den.light C (pt C s p c o.dst v) p o.op = Den.light C s p o.op := light_congr (pt_h _ _ _ _ _) fun t ht p => by
        obtain ⟨e3, e4⟩ := pt_other (C := C) (st := s) (p := p) (c := c) (v := v) (hself t (looks_tmp ht)) M.sm
        exact gt_of_eq (pt_other (hself t (looks_tmp ht)) M.sm).1 (pt_other (hself t (looks_tmp ht)) M.sm).2 p
      rw [e1, hg]
      dsimp only
      rw [e2]
      cases hd : o.dst with
      | none =>
        dsimp only
        rcases hl with hl | hl
        · exact .inl hl
        · exact .inr ⟨v, hl⟩
      | some t =>
        dsimp only
        obtain ⟨x, h1, h2⟩ := holdsV_pt (C := C) (v := v) (p := p) (c := c) (t := t) M.sm (hlsN t)
        rw [h1]
        dsimp only
        rcases hl with hl | hl
        · exact .inl hl
        · exact .inr ⟨v, hl, by rcases h2 with h | h; exact .inl h; exact .inr h.symm⟩
    · exact again_of_eq (pt_h _ _ _ _ _) (fun o' t ho' ht => pt_other (M.stays rfl (by decide) K (hasD_any hj) hxj o' t ho' ht) M.sm) (M.ag j hj hxj)
  · rw [hasD_cons] at hj
    rcases hj with ⟨_, h⟩ | hj
    · cases h
    · obtain ⟨o', d, b, y0, h1, h3, h4, h5, h6, x, h7, h8⟩ := M.al j hj hxj
      obtain ⟨e3, e4⟩ := pt_other (C := C) (st := s) (p := p) (c := c) (v := v) (M.stays rfl (by decide) K (hasD_any hj) hxj o' d h1 (.inr h4)) M.sm
      exact ⟨o', d, b, y0, h1, h3, h4, h5, h6, x, by rw [holdsV_of_eq e3 e4]; exact h7, h8⟩
  · -- slots filled are not kept
    unfold pt at ht
    cases hd : o.dst with
    | none => rw [hd] at ht; exact M.ls t ht
    | some d =>
      rw [hd] at ht
      dsimp only at ht
      split at ht
      · refine M.ls t ?_
        split at ht <;> exact ht
      · rename_i hk
        simp only [lk] at ht
        split at ht
        · rename_i e; subst e; simpa using hk
        · exact M.ls t ht
theorem adds_single {n : Nat} {b : Blk} (h : adds st [(n, b)] = some st1) : hlk st.h n = none ∧ st1 = { st with h := st.h ++ [(n, b)] } := by
  simp only [adds] at h
  split at h
  · cases h
  · rename_i hn; cases h; exact ⟨hn, rfl⟩
/-- A box in the memory's list whose variable is not there yet. -/
theorem unborn_inv {n : Nat} {b : Blk} (H : Inv C R G σ a w) (hn : hlk σ.h n = none) : Inv C R G { σ with h := σ.h ++ [(n, b)] } a w ∧ ¬ G.live n ∧ ∀ m cs, Unborn G σ.h m cs → Unborn G (σ.h ++ [(n, b)]) m cs := by
  have hnl : ¬ G.live n := fun h => by obtain ⟨b', hb, _⟩ := H.B.rel n h id; rw [hn] at hb; cases hb
  have key : ∀ m x, hlk σ.h m = some x → hlk (σ.h ++ [(n, b)]) m = some x := fun m x h => by rw [hlk_append, h]
  have hs : ∀ m, Same G σ.h G (σ.h ++ [(n, b)]) m := fun m hm => ⟨hm, rfl, rfl, fun e sz xs hx => ⟨xs, key _ _ hx⟩⟩
  refine ⟨⟨H.W, ⟨fun m hm _ => ?_, fun m k hm _ hk _ => H.B.disj m k hm id hk id, fun m hm _ => H.B.mine m hm id, fun m b' hf => ?_⟩, fun _ _ _ => id, fun t => ?_, H.l, H.m⟩, hnl, fun m cs ⟨h1, h2, h3⟩ => ⟨h1, key _ _ h2, h3⟩⟩
  · obtain ⟨x, h1, h2⟩ := H.B.rel m hm id
    exact ⟨x, key _ _ h1, brel_same hs rfl rfl rfl h2⟩
  · obtain ⟨h1, h2, h3⟩ := H.B.fix m b' hf
    obtain ⟨cs, hc⟩ := h3 id
    exact ⟨h1, h2, fun _ => ⟨cs, key _ _ hc⟩⟩
  · exact slot_same hs (H.slots t)
/-- den does an alloc. -/
theorem Mid.alloc {n i : Nat} {done : List (Nat × Nat)} {js : List Nat} {r : List (Nat × Nat × List Nat)} {d : Nat} {b : Blk} {x0 : SV} (M : Mid C R ops ms n X done ((i, 2, js) :: r) s σ G a w) (K : Chk ops ms done i 2 js r o) (hg : o.guard = none) (hd : o.dst = some d) (hz : NewK C o d b x0)
    (hh : adds s [(nm d 0, b)] = some s1) : Mid C R ops ms n X ((i, 2) :: done) r (pt C s1 [] true o.dst x0) { σ with h := σ.h ++ [(nm d 0, b)] } G a w := by
  have hx : ¬ X i := M.notX K.new
  obtain ⟨hn, rfl⟩ := adds_single hh
  have hn' : hlk σ.h (nm d 0) = none := by rw [M.rel.h]; exact hn
  obtain ⟨u1, u2, u3⟩ := unborn_inv (b := b) M.inv hn'
  obtain ⟨_, hall⟩ := K.alloc rfl
  have hfree : lk σ.l d = none := by
    cases he : lk σ.l d with
    | none => rfl
    | some e =>
      obtain ⟨⟨j, oj, h1, h2, h3⟩, _⟩ := M.lx d (by rw [he]; rfl)
      have := M.one K.ho h2 hd h3
      subst this
      exact absurd h1 hx
  have hlsN : ∀ t, isIn C.keep t = true → lk s.l t = none := fun t hk => by
    cases he : lk s.l t with
    | none => rfl
    | some e => have := M.ls t (by rw [he]; rfl); rw [hk] at this; cases this
  refine { dst := M.dst, chk := K.next, wf := ⟨fun j hj hb => K.sub j hj hb, M.wf⟩, dx := fun j hj => (anyD_cons _ _ _ _).2 (.inr (M.dx j hj)), cl := M.cl, tx := fun j hj => ?_, kk := fun j hj => ?_, rd := M.rd_next rfl (by decide) K, rel := ?_, ag := fun j hj hxj => ?_, al := fun j hj hxj => ?_, inv := u1, sm := by rw [pt_m]; exact M.sm, lx := M.lx, ls := fun t ht => ?_, sz := M.sz }
  · rw [hasD_cons] at hj
    rcases hj with ⟨_, h⟩ | hj
    · cases h
    · exact M.tx j hj
  · rw [anyD_cons] at hj
    simp only [hasD_cons]
    rcases hj with rfl | hj
    · exact .inr (.inr (by simp))
    · rcases M.kk j hj with h | h | h
      · exact .inl (.inr h)
      · exact .inr (.inl (.inr h))
      · exact .inr (.inr (.inr h))
  · rw [hd]
    have R1 : Rel C (Hid ops X done) { σ with h := σ.h ++ [(nm d 0, b)] } { s with h := s.h ++ [(nm d 0, b)] } := ⟨by show σ.h ++ _ = s.h ++ _; rw [M.rel.h], M.rel.eq, M.rel.no⟩
    exact (R1.ahead hfree M.sm).congr fun u => by rw [hid_next K.ho hx, hd]; simp [eq_comm]
  · rw [hasD_cons] at hj
    rcases hj with ⟨_, h⟩ | hj
    · cases h
    · have := hall j 0 hj; cases this
  · rw [hasD_cons] at hj
    rcases hj with ⟨rfl, _⟩ | hj
    · obtain ⟨x, h1, h2⟩ := holdsV_pt (C := C) (st := { s with h := s.h ++ [(nm d 0, b)] }) (v := x0) (p := []) (c := true) (t := d) M.sm (hlsN d)
      refine ⟨o, d, b, x0, K.ho, hg, hd, hz, ⟨u2, ?_, hz.bare⟩, x, by rw [hd]; exact h1, h2.symm⟩
      rw [hlk_append, hn']; simp [hlk]
    · obtain ⟨o', d', b', y0, h1, h3, h4, h5, h6, x, h7, h8⟩ := M.al j hj hxj
      obtain ⟨e3, e4⟩ := pt_other (C := C) (st := { s with h := s.h ++ [(nm d 0, b)] }) (p := []) (c := true) (v := x0) (M.stays rfl (by decide) K (hasD_any hj) hxj o' d' h1 (.inr h4)) M.sm
      exact ⟨o', d', b', y0, h1, h3, h4, h5, u3 _ _ h6, x, by rw [holdsV_of_eq e3 e4]; exact h7, h8⟩
  · unfold pt at ht
    rw [hd] at ht
    dsimp only at ht
    split at ht
    · exact M.ls t ht
    · rename_i hk
      simp only [lk] at ht
      split at ht
      · rename_i e; subst e; simpa using hk
      · exact M.ls t ht
theorem runDraw_cons {i k : Nat} {js : List Nat} {r : List (Nat × Nat × List Nat)} (h : runDraw C ops ((i, k, js) :: r) s = some st2) (ho : ops[i]? = some o) : ∃ s1, stepD C ops o k s = some s1 ∧ frames C ops s (hitsOf hits C ops s o) (hitsOf hitsB C ops s o) js = true ∧ runDraw C ops r s1 = some st2 := by
  simp only [runDraw, ho] at h
  split at h
  · rename_i h2
    split at h
    · rename_i s1 h1; exact ⟨s1, h1, h2, h⟩
    · cases h
  · cases h
theorem stepD_zero (h : stepD C ops o 0 s = some s1) : ∃ p c v, guardOf ops s o.guard = some (p, c) ∧ (c = false ∨ Den.light C s p o.op = some (true, v)) ∧ s1 = pt C s p c o.dst v := by
  unfold stepD at h
  cases hg : guardOf ops s o.guard with
  | none => rw [hg] at h; cases h
  | some pc =>
    obtain ⟨p, c⟩ := pc
    rw [hg] at h
    simp only at h
    cases hl : Den.light C s p o.op with
    | none =>
      rw [hl] at h
      cases p with
      | nil => cases h
      | cons q p =>
        cases c with
        | true => cases h
        | false => simp only [Bool.false_eq_true, if_false] at h; cases h; exact ⟨_, _, .undef, rfl, .inl rfl, rfl⟩
    | some q =>
      obtain ⟨ok, v⟩ := q
      rw [hl] at h
      simp only at h
      by_cases hok : okP p c ok = true
      · rw [if_pos hok] at h; cases h
        refine ⟨p, c, v, rfl, ?_, rfl⟩
        cases c with
        | false => exact .inl rfl
        | true => have := okP_ok hok rfl; subst this; exact .inr hl
      · rw [if_neg hok] at h; cases h
theorem stepD_turn (h : stepD C ops o 1 s = some s1) : ∃ p c, guardOf ops s o.guard = some (p, c) ∧ (p = [] ∧ ((∃ v, Den.light C s [] o.op = some (true, v) ∧ s1 = pt C s [] true o.dst v) ∨ Den.light C s [] o.op = none ∧ ∃ v s2, heavy C s (o.dst.getD 0) o.op = some (true, v, s2) ∧ s1 = pt C s2 [] true o.dst v) ∨
    p ≠ [] ∧ (c = false ∧ s1 = pt C s p false o.dst .undef ∨ c = true ∧ (∀ H, hitsOf H C ops s o = H C (atP p s) o.op) ∧ ∃ v s2, heavy C (atP p s) (o.dst.getD 0) o.op = some (true, v, s2) ∧ s1 = pt C ⟨s2.m, zipL s.l s2.l, s2.h⟩ p true o.dst v)) := by
  unfold stepD at h
  cases hg : guardOf ops s o.guard with
  | none => rw [hg] at h; cases h
  | some pc =>
    obtain ⟨p, c⟩ := pc
    rw [hg] at h
    simp only at h
    refine ⟨p, c, rfl, ?_⟩
    cases p with
    | cons q p =>
      refine .inr ⟨by simp, ?_⟩
      simp only at h
      cases c with
      | false =>
        simp only [Bool.false_eq_true, if_false] at h
        cases h; exact .inl ⟨rfl, rfl⟩
      | true =>
        simp only [if_true] at h
        cases hh : heavy C (atP (q :: p) s) (o.dst.getD 0) o.op with
        | none => rw [hh] at h; cases h
        | some z =>
          obtain ⟨ok, v, s2⟩ := z
          rw [hh] at h
          simp only at h
          by_cases hok : ok = true
          · rw [if_pos hok] at h; cases h; exact .inr ⟨rfl, fun H => by simp only [hitsOf, hg], v, s2, by rw [hok], rfl⟩
          · rw [if_neg hok] at h; cases h
    | nil =>
      simp only at h
      refine .inl ⟨rfl, ?_⟩
      cases hl : Den.light C s [] o.op with
      | some q =>
        obtain ⟨ok, v⟩ := q
        rw [hl] at h
        simp only at h
        by_cases hok : ok = true
        · rw [if_pos hok] at h; cases h; exact .inl ⟨v, by rw [hok], rfl⟩
        · rw [if_neg hok] at h; cases h
      | none =>
        rw [hl] at h
        simp only at h
        cases hh : heavy C s (o.dst.getD 0) o.op with
        | none => rw [hh] at h; cases h
        | some q =>
          obtain ⟨ok, v, s2⟩ := q
          rw [hh] at h
          simp only at h
          by_cases hok : ok = true
          · rw [if_pos hok] at h; cases h; exact .inr ⟨rfl, v, s2, by rw [hok], rfl⟩
          · rw [if_neg hok] at h; cases h
/-- Up to the next turn. -/
theorem Mid.advance {n : Nat} : ∀ {suf : List (Nat × Nat × List Nat)} {done : List (Nat × Nat)} {s σ : St}, Mid C R ops ms n X done suf s σ G a w → runDraw C ops suf s = some st2 →
    ∃ done' suf' s' σ', Mid C R ops ms n X done' suf' s' σ' G a w ∧ runDraw C ops suf' s' = some st2 ∧ (suf' = [] ∨ ∃ i js r, suf' = (i, 1, js) :: r)
  | [], done, s, σ, M, h => ⟨done, [], s, σ, M, h, .inl rfl⟩
  | (i, k, js) :: r, done, s, σ, M, h => by
    obtain ⟨o, K⟩ := chkD_cons M.chk
    rcases K.cls with rfl | rfl | rfl
    · obtain ⟨s1, h1, _, h3⟩ := runDraw_cons h K.ho
      obtain ⟨p, c, v, hg, hl, rfl⟩ := stepD_zero h1
      exact (M.light K hg hl).advance h3
    · exact ⟨done, _, s, σ, M, h, .inr ⟨i, js, r, rfl⟩⟩
    · obtain ⟨s1, h1, _, h3⟩ := runDraw_cons h K.ho
      obtain ⟨hal, _⟩ := K.alloc rfl
      unfold isAlloc at hal
      split at hal
      · rename_i t d hop hgd hd
        unfold stepD at h1
        rw [hgd] at h1
        simp only [guardOf, hop, Den.light, heavy, hd, Option.getD_some] at h1
        split at h1
        · rename_i ok v s' heq
          split at heq
          · rename_i zs hz
            rw [Option.map_eq_some_iff] at heq
            obtain ⟨s0, h4, h5⟩ := heq
            cases h5
            simp only [if_true] at h1
            cases h1
            have := (M.alloc K hgd hd (.al t zs hop hz) h4)
            rw [hd] at this
            exact this.advance h3
          · cases heq
        · cases h1
      · rename_i t parts d hop hgd hd
        have hpe : parts = #[] := Array.isEmpty_iff.1 hal
        subst hpe
        unfold stepD at h1
        rw [hgd] at h1
        simp only [guardOf, hop, Den.light, heavy, hd, Option.getD_some, rowsOf, List.length_nil, Nat.zero_mul, Nat.zero_le, and_self, if_true] at h1
        split at h1
        · rename_i ok v s' heq
          split at heq
          · rename_i el ht
            split at heq
            · rename_i zs hz
              rw [Option.map_eq_some_iff] at heq
              obtain ⟨s0, h4, h5⟩ := heq
              cases h5
              simp only [if_true] at h1
              cases h1
              have := (M.alloc K hgd hd (.bs t el zs hop ht hz) h4)
              rw [hd] at this
              exact this.advance h3
            · cases heq
          · cases heq
        · cases h1
      · cases hal
end Go.Den

/- Draw regions, sixth part: what the machine does, one operation after the other. -/
namespace Go.Den
open Go
variable {C : Ctx} {R : Rt} {G G' G0 G1 : Gh} {st st1 st2 σ σ1 s s1 : St} {a a' : Act} {w w' : World} {o : Oper} {v x : SV} {ops : Array Oper} {ms : List Nat} {X : Nat → Prop} {n : Nat} {done : List (Nat × Nat)} {suf : List (Nat × Nat × List Nat)}

theorem bef_split {ops : List Oper} {i j : Nat} {o : Oper} (ho : ops[i]? = some o) (hb : bef (befores [] ops) i j = true) : ∃ e ∈ o.after.toList, Region.binds .any e = true ∧ (j = e.on ∨ bef (befores [] ops) e.on j = true) := by
  obtain ⟨r, h1, h2, h3⟩ := befores_spec ops []
  simp only [List.nil_append] at h1 h3
  unfold bef at hb ⊢
  rw [h1] at hb ⊢
  rw [List.getD_eq_getElem?_getD, h3 i o ho] at hb
  simp only [Option.getD_some, maskE_bit] at hb
  obtain ⟨e, he, hbind, hj⟩ := hb
  refine ⟨e, he, hbind, ?_⟩
  rcases hj with hj | hj
  · exact .inl hj
  · refine .inr ?_
    by_cases hlt : e.on < i
    · rw [List.getD_eq_getElem?_getD, List.getElem?_take, if_pos hlt] at hj
      rw [List.getD_eq_getElem?_getD]
      exact hj
    · rw [List.getD_eq_getElem?_getD, List.getElem?_take, if_neg hlt] at hj
      simp at hj
/-- Behind a turn all come after it. -/
theorem behind_turn {i0 i : Nat} : ∀ {r : List (Nat × Nat × List Nat)} {done : List (Nat × Nat)}, chkD ops ms done r = true → hasD done i0 1 = true → i < ops.size → anyD done i = false → bef ms i i0 = true
  | [], done, hc, _, hi, hn => by
    simp only [chkD, List.all_eq_true, List.mem_range] at hc
    rw [hc i hi] at hn; cases hn
  | (j, k, js) :: r, done, hc, h0, hi, hn => by
    obtain ⟨o, K⟩ := chkD_cons hc
    by_cases e : j = i
    · subst e
      by_cases hk : k = 2
      · have := (K.alloc hk).2 i0 1 h0
        cases this
      · exact K.turns hk i0 h0
    · refine behind_turn K.next ((hasD_cons _ _ _ _ _).2 (.inr h0)) hi ?_
      cases he : anyD ((j, k) :: done) i with
      | false => rfl
      | true =>
        rw [anyD_cons] at he
        rcases he with he | he
        · exact absurd he e
        · rw [hn] at he; cases he

theorem lx_pt {p : Path} {c : Bool} {d : Option Nat} {i : Nat} (hlx : ∀ t, (lk σ.l t).isSome = true → (∃ i o, X i ∧ ops[i]? = some o ∧ o.dst = some t) ∧ isIn C.keep t = false) (ho : ops[i]? = some o) (hd : o.dst = d) :
    ∀ t, (lk (pt C σ p c d x).l t).isSome = true → (∃ j o, (X j ∨ j = i) ∧ ops[j]? = some o ∧ o.dst = some t) ∧ isIn C.keep t = false := by
  have old : ∀ t, (lk σ.l t).isSome = true → (∃ j o, (X j ∨ j = i) ∧ ops[j]? = some o ∧ o.dst = some t) ∧ isIn C.keep t = false := fun t ht => by
    obtain ⟨⟨j, oj, h1, h2, h3⟩, h4⟩ := hlx t ht
    exact ⟨⟨j, oj, .inl h1, h2, h3⟩, h4⟩
  intro t ht
  unfold pt at ht
  cases d with
  | none => exact old t ht
  | some d =>
    dsimp only at ht
    split at ht
    · refine old t ?_
      split at ht <;> exact ht
    · rename_i hk
      simp only [lk] at ht
      split at ht
      · rename_i e; subst e; exact ⟨⟨i, o, .inr rfl, ho, hd⟩, by simpa using hk⟩
      · exact old t ht
theorem holds_of {t : Nat} {p : Path} {c : Bool} (hxt : holdsV C s t p c = some x) : Holds C s t p c x := by
  unfold holdsV at hxt
  split at hxt
  · rename_i hk
    refine .inr ⟨hk, ?_⟩
    split at hxt
    · rename_i hl
      refine ⟨hl, ?_⟩
      split at hxt
      · simp at hxt; exact ⟨hxt, fun h => absurd rfl h⟩
      · rename_i h; simp at hxt; rw [← hxt]; exact ⟨h, fun _ => rfl⟩
      · cases hxt
    · cases hxt
  · rename_i hk
    refine .inl ⟨by simpa using hk, ?_⟩
    split at hxt
    · rename_i q c' y hl
      split at hxt
      · rename_i h; obtain ⟨rfl, rfl⟩ := h; cases hxt; exact hl
      · cases hxt
    · cases hxt
/-- The machine catches up with an operation that den has done. -/
theorem Mid.caught {i : Nat} {p : Path} {c : Bool} (M : Mid C R ops ms n X done suf s σ G a w) (ho : ops[i]? = some o) (hi : anyD done i = true) (hX : ¬ X i) (hr : ∀ j, bef ms i j = true → X j) (hinv : Inv C R G' (pt C σ p c o.dst x) a' w') (hsz : a'.tmps.size = a.tmps.size)
    (hx : ∀ t, o.dst = some t → holdsV C s t p c = some x) (hal : ∀ d cs, (∀ t, o.dst = some t → d ≠ t) → Unborn G σ.h (nm d 0) cs → Unborn G' σ.h (nm d 0) cs) : Mid C R ops ms n (fun j => X j ∨ j = i) done suf s (pt C σ p c o.dst x) G' a' w' := by
  have hfree : ∀ t, o.dst = some t → lk σ.l t = none := fun t hd => by
    cases he : lk σ.l t with
    | none => rfl
    | some e =>
      obtain ⟨⟨j, oj, h1, h2, h3⟩, _⟩ := M.lx t (by rw [he]; rfl)
      have := M.one ho h2 hd h3
      subst this
      exact absurd h1 hX
  refine { dst := M.dst, chk := M.chk, wf := M.wf, dx := fun j hj => ?_, cl := fun j k hj hb => ?_, tx := fun j hj => .inl (M.tx j hj), kk := M.kk, rd := fun j o' t k oj h1 h2 => M.rd j o' t k oj h1 (fun h => h2 (.inl h)), rel := ?_, ag := fun j hj hxj => M.ag j hj (fun h => hxj (.inl h)), al := fun j hj hxj => ?_, inv := hinv, sm := M.sm, lx := lx_pt M.lx ho rfl, ls := M.ls, sz := hsz.trans M.sz }
  · rcases hj with hj | rfl
    · exact M.dx j hj
    · exact hi
  · rcases hj with hj | rfl
    · exact .inl (M.cl j k hj hb)
    · exact .inl (hr k hb)
  · cases hd : o.dst with
    | none =>
      refine M.rel.congr fun t => ⟨fun ⟨j, oj, h1, h2, h3, h4⟩ => ⟨j, oj, h1, fun h => h2 (.inl h), h3, h4⟩, fun ⟨j, oj, h1, h2, h3, h4⟩ => ⟨j, oj, h1, fun h => ?_, h3, h4⟩⟩
      rcases h with h | rfl
      · exact h2 h
      · rw [ho] at h3; cases h3; rw [hd] at h4; cases h4
    | some t =>
      have R1 := M.rel.catch_up (holds_of (hx t hd)) (hfree t hd) M.inv.m (fun hk => lkm_none hk)
      refine R1.congr fun u => ⟨fun ⟨j, oj, h1, h2, h3, h4⟩ => ⟨⟨j, oj, h1, fun h => h2 (.inl h), h3, h4⟩, fun e => h2 (.inr (M.one h3 ho h4 (by rw [e]; exact hd)))⟩, fun ⟨⟨j, oj, h1, h2, h3, h4⟩, h5⟩ => ⟨j, oj, h1, fun h => ?_, h3, h4⟩⟩
      rcases h with h | rfl
      · exact h2 h
      · rw [ho] at h3; cases h3; rw [hd] at h4; cases h4; exact h5 rfl
  · obtain ⟨o', d, b, y0, h1, h3, h4, h5, h6, y, h7, h8⟩ := M.al j hj (fun h => hxj (.inl h))
    exact ⟨o', d, b, y0, h1, h3, h4, h5, by rw [pt_h]; exact hal d _ (fun t' ht' e => hxj (.inr (M.one h1 ho (by rw [h4, e]) ht'))) h6, y, h7, h8⟩
/-- Whoever can be listed reads what den read. -/
theorem Mid.vis {i : Nat} (M : Mid C R ops ms n X done suf s σ G a w) (ho : ops[i]? = some o) (hi : anyD done i = true) (hX : ¬ X i) (hr : ∀ j, bef ms i j = true → X j) : ∀ t ∈ o.looksAt ops, ¬ Hid ops X done t := by
  rintro t ht ⟨j, oj, h1, h2, h3, h4⟩
  rcases M.rd i o t j oj hi hX ho ht h3 h4 with h | ⟨_, h⟩
  · exact h2 (hr j h)
  · have := turnIn_new h M.chk
    rw [h1] at this; cases this
theorem Mid.vis_turn {i : Nat} {js : List Nat} {r : List (Nat × Nat × List Nat)} (M : Mid C R ops ms n X done ((i, 1, js) :: r) s σ G a w) (K : Chk ops ms done i 1 js r o) (hr : ∀ j, bef ms i j = true → X j) : ∀ t ∈ o.looksAt ops, ¬ Hid ops X done t := by
  rintro t ht ⟨j, oj, h1, h2, h3, h4⟩
  rcases K.rd t ht j oj h3 h4 with h | ⟨_, h⟩ | ⟨h, _⟩
  · exact h2 (hr j h)
  · have := turnIn_new h K.next
    rw [(anyD_cons _ _ _ _).2 (.inr h1)] at this; cases this
  · subst h
    have := K.new
    rw [h1] at this; cases this
theorem Mid.guard {p : Path} {c : Bool} (M : Mid C R ops ms n X done suf s σ G a w) (hv : ∀ t ∈ o.looksAt ops, ¬ Hid ops X done t) (hg : guardOf ops s o.guard = some (p, c)) : guardOf ops σ o.guard = some (p, c) := by
  rw [M.rel.guard fun j b oj t hgj hj ht => hv t (looks_guard hgj hj ht)]
  exact hg
end Go.Den

/- Draw regions, last part: every order comes to what den says. -/
namespace Go.Den
open Go
variable {C : Ctx} {R : Rt} {G G' G0 G1 : Gh} {st st1 st2 σ σ1 σ2 s s1 s2 : St} {a a' : Act} {w w' : World} {o : Oper} {v x : SV} {ops : Array Oper} {ms : List Nat} {X : Nat → Prop} {n : Nat} {done : List (Nat × Nat)} {suf : List (Nat × Nat × List Nat)}

theorem frames_mem {hs bs : List Nat} : ∀ {js : List Nat}, frames C ops st hs bs js = true → ∀ j ∈ js, frame1 C ops st hs bs j = true
  | [], _, j, hj => by simp at hj
  | i :: js, h, j, hj => by
    simp only [frames, Bool.and_eq_true] at h
    rcases List.mem_cons.1 hj with rfl | hj
    · exact h.1
    · exact frames_mem h.2 j hj
theorem calms_mem {hs : List Nat} : ∀ {ts : List Nat}, calms C st hs ts = true → ∀ t ∈ ts, calm C st hs t = true
  | [], _, t, ht => by simp at ht
  | x :: ts, h, t, ht => by
    simp only [calms, Bool.and_eq_true] at h
    rcases List.mem_cons.1 ht with rfl | ht
    · exact h.1
    · exact calms_mem h.2 t ht
theorem quiets_mem {hs : List Nat} : ∀ {ts : List Nat}, quiets C st hs ts = true → ∀ t ∈ ts, quiet C st hs t = true
  | [], _, t, ht => by simp at ht
  | x :: ts, h, t, ht => by
    simp only [quiets, Bool.and_eq_true] at h
    rcases List.mem_cons.1 ht with rfl | ht
    · exact h.1
    · exact quiets_mem h.2 t ht
/-- 'again' stands where nothing is touched that it looks at. -/
theorem again_frame {i : Nat} {hs bs : List Nat} (A : Frm hs bs s s1) (hf : frame1 C ops s hs bs i = true) (H : again C ops s i) : again C ops s1 i := by
  unfold frame1 at hf
  unfold again at H ⊢
  cases ho : ops[i]? with
  | none => rw [ho] at H; exact H
  | some o =>
    rw [ho] at H hf
    dsimp only at H hf ⊢
    rw [Bool.and_eq_true] at hf
    have both : (∀ t ∈ o.looksAt ops, lk s1.l t = lk s.l t) ∧ ∀ p, light C s1 p o.op = light C s p o.op := by
      by_cases hd : dry o.op = true
      · have hf1 := hf.1
        rw [if_pos hd] at hf1
        have look : ∀ t ∈ o.looksAt ops, lk s1.l t = lk s.l t ∧ ∀ p, gt C s1 p t = gt C s p t := fun t ht => by
          obtain ⟨h1, _, h3⟩ := quiet_spec (quiets_mem hf1 t ht) A
          exact ⟨h1, h3⟩
        exact ⟨fun t ht => (look t ht).1, fun p => light_dry hd (fun t ht p => (look t (looks_tmp ht)).2 p) p⟩
      · have hf1 := hf.1
        rw [if_neg hd] at hf1
        have look : ∀ t ∈ o.looksAt ops, lk s1.l t = lk s.l t ∧ ∀ p, gt C s1 p t = gt C s p t ∧ SeeV s s1 (gt C s p t) := fun t ht => by
          obtain ⟨h1, _, h3⟩ := calm_spec (calms_mem hf1 t ht) A
          exact ⟨h1, h3⟩
        exact ⟨fun t ht => (look t ht).1, fun p => light_see (fun t ht p => ((look t (looks_tmp ht)).2 p).1) (fun t ht p => ((look t (looks_tmp ht)).2 p).2)⟩
    have e1 : guardOf ops s1 o.guard = guardOf ops s o.guard := guard_of_eq fun j b oj t hg hj ht => both.1 t (looks_guard hg hj ht)
    have e2 := both.2
    rw [e1]
    cases hg : guardOf ops s o.guard with
    | none => rw [hg] at H; exact H
    | some pc =>
      obtain ⟨p, c⟩ := pc
      rw [hg] at H
      dsimp only at H ⊢
      rw [e2]
      cases hd : o.dst with
      | none => rw [hd] at H; exact H
      | some t =>
        rw [hd] at H hf
        dsimp only at H hf ⊢
        obtain ⟨e3, e4, _⟩ := quiet_spec hf.2 A
        have e5 : holdsV C s1 t p c = holdsV C s t p c := by
          unfold holdsV
          rw [e3]
          cases hl : lk s.l t with
          | some e => rfl
          | none => rw [hl] at e4; dsimp only at e4; rw [e4]
        rw [e5]
        exact H

def PtrOr (x0 : SV) (x : SV) : Prop := (∃ n, x0 = .ptr n 0 ∨ x0 = .own n) ∧ (x = x0 ∨ x = .undef)
theorem ptrOr_kill {x0 : SV} {n : Nat} (h : PtrOr x0 x) : PtrOr x0 (killV n x) := by
  obtain ⟨⟨k, hk⟩, h⟩ := h
  refine ⟨⟨k, hk⟩, ?_⟩
  rcases h with rfl | rfl
  · rcases hk with rfl | rfl
    all_goals
      simp only [killV, killA, killC]
      split
      · exact .inr rfl
      · exact .inl rfl
  · exact .inr rfl
theorem NewK.or {d : Nat} {b : Blk} {x0 : SV} (h : NewK C o d b x0) : ∃ n, x0 = .ptr n 0 ∨ x0 = .own n := by
  cases h
  · exact ⟨_, .inl rfl⟩
  · exact ⟨_, .inr rfl⟩
theorem holds_kill {d n : Nat} {x0 : SV} {m : List SV} {l : List (Nat × Path × Bool × SV)} {h h' : List (Nat × Blk)} (e : ∃ x, holdsV C ⟨m, l, h⟩ d [] true = some x ∧ PtrOr x0 x) : ∃ x, holdsV C ⟨killM n m, killL n l, h'⟩ d [] true = some x ∧ PtrOr x0 x := by
  obtain ⟨x, h1, h2⟩ := e
  unfold holdsV at h1 ⊢
  dsimp only at h1 ⊢
  rw [lk_killL, lkm_killM]
  by_cases hk : isIn C.keep d = true
  · rw [if_pos hk] at h1 ⊢
    cases hl : lk l d with
    | none => rw [hl] at h1; simp at h1; subst h1; exact ⟨_, rfl, ptrOr_kill h2⟩
    | some q => rw [hl] at h1; cases h1
  · rw [if_neg hk] at h1 ⊢
    cases hl : lk l d with
    | none => rw [hl] at h1; cases h1
    | some q =>
      obtain ⟨q, c, y⟩ := q
      rw [hl] at h1
      dsimp only [Option.map] at h1 ⊢
      split at h1
      · rename_i hc; rw [if_pos hc]; cases h1; exact ⟨_, rfl, ptrOr_kill h2⟩
      · cases h1
theorem holds_kills {d : Nat} {x0 : SV} : ∀ (ns : List Nat) {m : List SV} {l : List (Nat × Path × Bool × SV)} {h h' : List (Nat × Blk)}, (∃ x, holdsV C ⟨m, l, h⟩ d [] true = some x ∧ PtrOr x0 x) → ∃ x, holdsV C ⟨killsM ns m, killsL ns l, h'⟩ d [] true = some x ∧ PtrOr x0 x
  | [], m, l, h, h', e => e
  | n :: ns, m, l, h, h', e => holds_kills ns (h := h) (holds_kill (h' := h) e)
theorem holds_sim {d : Nat} {x0 : SV} (A : Sim s s2 σ σ2) (e : ∃ x, holdsV C s d [] true = some x ∧ PtrOr x0 x) : ∃ x, holdsV C s2 d [] true = some x ∧ PtrOr x0 x := by
  obtain ⟨ns, a1, a2, _, _, _⟩ := A
  have := holds_kills (C := C) (d := d) (x0 := x0) ns (m := s.m) (l := s.l) (h := s.h) (h' := s2.h) e
  rw [← a1, ← a2] at this
  exact this
theorem killsM_len : ∀ (ns : List Nat) (m : List SV), (killsM ns m).length = m.length
  | [], m => rfl
  | n :: ns, m => by rw [killsM, killsM_len ns, killM_len]
theorem killsL_some (t : Nat) : ∀ (ns : List Nat) (l : List (Nat × Path × Bool × SV)), (lk (killsL ns l) t).isSome = (lk l t).isSome
  | [], l => rfl
  | n :: ns, l => by rw [killsL, killsL_some t ns, lk_killL]; cases lk l t <;> rfl

/-- A turn. -/
theorem Mid.turn {p : Path} {c : Bool} {i : Nat} {js : List Nat} {r : List (Nat × Nat × List Nat)} (M : Mid C R ops ms n X done ((i, 1, js) :: r) s σ G a w) (K : Chk ops ms done i 1 js r o) (hr : ∀ j, bef ms i j = true → X j) (A : Sim s s2 σ σ2) (hF2 : Frm (hitsOf hits C ops s o) (hitsOf hitsB C ops s o) s s2) (hag : frames C ops s (hitsOf hits C ops s o) (hitsOf hitsB C ops s o) js = true)
    (hinv : Inv C R G' (pt C σ2 p c o.dst v) a' w') (hm : σ2.m.length = C.keep.length) (hsz : a'.tmps.size = a.tmps.size) (hF : Fr G σ.h G' σ2.h) : Mid C R ops ms n (fun j => X j ∨ j = i) ((i, 1) :: done) r (pt C s2 p c o.dst v) (pt C σ2 p c o.dst v) G' a' w' := by
  have hX : ¬ X i := M.notX K.new
  have hsm : s2.m.length = C.keep.length := by obtain ⟨ns, a1, _⟩ := A; rw [a1, killsM_len]; exact M.sm
  have hs2l : ∀ t, (lk s2.l t).isSome = (lk s.l t).isSome := fun t => by obtain ⟨ns, _, a2, _⟩ := A; rw [a2, killsL_some]
  have hσ2l : ∀ t, (lk σ2.l t).isSome = (lk σ.l t).isSome := fun t => by obtain ⟨ns, _, _, _, a4, _⟩ := A; rw [a4, killsL_some]
  have hnh : ∀ t, o.dst = some t → ¬ Hid ops X done t := fun t ht ⟨j, oj, h1, h2, h3, h4⟩ => by
    have := M.one K.ho h3 ht h4; subst this; rw [K.new] at h1; cases h1
  have R2 := (M.rel.sim A).pt (v := v) (p := p) (c := c) hnh hm hsm
  have hjs : ∀ j, hasD done j 0 = true → ¬ (X j ∨ j = i) → again C ops (pt C s2 p c o.dst v) j := fun j hj hxj => by
    rcases K.again rfl j hj with h | h
    · exact absurd (.inl (hr j h)) hxj
    · have h2 := again_frame hF2 (frames_mem hag j h) (M.ag j hj (fun hx => hxj (.inl hx)))
      refine again_of_eq (pt_h _ _ _ _ _) (fun o' t ho' ht => pt_other (fun hd => ?_) hsm) h2
      rcases ht with ht | ht
      · rcases M.rd j o' t i o (hasD_any hj) (fun hx => hxj (.inl hx)) ho' ht K.ho hd with hb | ⟨hb, _⟩
        · have := M.wf.closed j i (hasD_any hj) (lt_of_get K.ho) hb
          rw [K.new] at this; cases this
        · exact hxj (.inl (hr j hb))
      · have := M.one ho' K.ho ht hd
        exact hxj (.inr this)
  refine { dst := M.dst, chk := K.next, wf := ⟨fun j hj hb => K.sub j hj hb, M.wf⟩, dx := fun j hj => ?_, cl := fun j k hj hb => ?_, tx := fun j hj => ?_, kk := fun j hj => ?_, rd := fun j o' t k oj h1 h2 ho' ht hk hd => ?_, rel := ?_, ag := fun j hj hxj => ?_, al := fun j hj hxj => ?_, inv := hinv, sm := by rw [pt_m]; exact hsm, lx := ?_, ls := fun t ht => ?_, sz := hsz.trans M.sz }
  · rw [anyD_cons]
    rcases hj with hj | rfl
    · exact .inr (M.dx j hj)
    · exact .inl rfl
  · rcases hj with hj | rfl
    · exact .inl (M.cl j k hj hb)
    · exact .inl (hr k hb)
  · rw [hasD_cons] at hj
    rcases hj with ⟨rfl, _⟩ | hj
    · exact .inr rfl
    · exact .inl (M.tx j hj)
  · rw [anyD_cons] at hj
    simp only [hasD_cons]
    rcases hj with rfl | hj
    · exact .inr (.inl (by simp))
    · rcases M.kk j hj with h | h | h
      · exact .inl (.inr h)
      · exact .inr (.inl (.inr h))
      · exact .inr (.inr (.inr h))
  · rw [anyD_cons] at h1
    rcases h1 with rfl | h1
    · exact absurd (.inr rfl) h2
    · rcases M.rd j o' t k oj h1 (fun h => h2 (.inl h)) ho' ht hk hd with h | ⟨h, h'⟩
      · exact .inl h
      · simp only [turnIn] at h'
        by_cases e : i = k
        · subst e
          exact absurd (.inl (hr j h)) h2
        · rw [if_neg e] at h'
          exact .inr ⟨h, h'⟩
  · refine R2.congr fun t => ⟨fun ⟨j, oj, h1, h2, h3, h4⟩ => ?_, fun ⟨j, oj, h1, h2, h3, h4⟩ => ⟨j, oj, (anyD_cons _ _ _ _).2 (.inr h1), fun h => ?_, h3, h4⟩⟩
    · rw [anyD_cons] at h1
      rcases h1 with rfl | h1
      · exact absurd (.inr rfl) h2
      · exact ⟨j, oj, h1, fun h => h2 (.inl h), h3, h4⟩
    · rcases h with h | rfl
      · exact h2 h
      · rw [K.new] at h1; cases h1
  · rw [hasD_cons] at hj
    rcases hj with ⟨_, h⟩ | hj
    · cases h
    · exact hjs j hj hxj
  · rw [hasD_cons] at hj
    rcases hj with ⟨_, h⟩ | hj
    · cases h
    · obtain ⟨o', d, b, y0, h1, h3, h4, h5, h6, y, h7, h8⟩ := M.al j hj (fun h => hxj (.inl h))
      obtain ⟨z, h9, h10⟩ := holds_sim (C := C) (d := d) (x0 := y0) A ⟨y, h7, h5.or, h8⟩
      have hne : o.dst ≠ some d := fun e => by
        have := M.one h1 K.ho h4 e
        exact hxj (.inr this)
      obtain ⟨e3, e4⟩ := pt_other (C := C) (st := s2) (p := p) (c := c) (v := v) hne hsm
      exact ⟨o', d, b, y0, h1, h3, h4, h5, by rw [pt_h]; exact hF _ _ h6, z, by rw [holdsV_of_eq e3 e4]; exact h9, h10.2⟩
  · exact lx_pt (fun t ht => M.lx t (by rw [← hσ2l t]; exact ht)) K.ho rfl
  · unfold pt at ht
    cases hd : o.dst with
    | none => rw [hd] at ht; exact M.ls t (by rw [← hs2l t]; exact ht)
    | some d =>
      rw [hd] at ht
      dsimp only at ht
      split at ht
      · exact M.ls t (by rw [← hs2l t]; cases p <;> exact ht)
      · rename_i hk
        simp only [lk] at ht
        split at ht
        · rename_i e; subst e; simpa using hk
        · exact M.ls t (by rw [← hs2l t]; exact ht)

theorem Mid.hereOf {p : Path} (M : Mid C R ops ms n X done suf s σ G a w) (hp : PathC σ.l p true) : Here C R G σ a w p := ⟨M.inv.W, M.inv.bare, M.inv.l, hp⟩
theorem Rel.atP {hid : Nat → Prop} (H : Rel C hid σ s) (p : Path) : Rel C hid (atP p σ) (atP p s) :=
  ⟨H.h, fun t ht => ⟨by show lk (atL p σ.l) t = lk (atL p s.l) t; rw [lk_atL, lk_atL, (H.eq t ht).1], (H.eq t ht).2⟩, fun t ht => by show lk (atL p σ.l) t = none; rw [lk_atL, H.no t ht]; rfl⟩
theorem killsV_d (d : D) : ∀ ns : List Nat, killsV ns (.d d) = .d d
  | [] => rfl
  | n :: ns => killsV_d d ns
theorem killsL_cons (t : Nat) (q : Path) (c : Bool) (v : SV) (r : List (Nat × Path × Bool × SV)) : ∀ ns : List Nat, ∀ v : SV, killsL ns ((t, q, c, v) :: r) = (t, q, c, killsV ns v) :: killsL ns r := by
  intro ns
  induction ns generalizing r with
  | nil => intro v; rfl
  | cons n ns ih => intro v; exact ih (killL n r) (killV n v)
theorem killsL_nil : ∀ ns : List Nat, killsL ns [] = []
  | [] => rfl
  | _ :: ns => killsL_nil ns
theorem zipL_kills (p : Path) (ns : List Nat) : ∀ l : List (Nat × Path × Bool × SV), zipL l (killsL ns (atL p l)) = killsL ns l
  | [] => by rw [atL, killsL_nil]; rfl
  | (t, q, c, v) :: r => by
    rw [atL, killsL_cons t _ _ v _ ns v, killsL_cons t _ _ v _ ns v, zipL, zipL_kills p ns r]
theorem pathC_kills {l : List (Nat × Path × Bool × SV)} {p : Path} {c : Bool} (ns : List Nat) (h : PathC l p c) : PathC (killsL ns l) p c := by
  rcases h with h | ⟨q, t, b, c', x, h1, h2, h3⟩
  · exact .inl h
  · exact .inr ⟨q, t, b, c', x, h1, by rw [lk_killsV, h2]; simp [killsV_d], h3⟩
/-- One who stood at p goes back; what is gone is gone. -/
theorem unatK_inv {p : Path} {st1 : St} {G' : Gh} {ns : List Nat} (H0 : Inv C R G σ a w) (H1 : Inv C R G' st1 a w') (el : st1.l = killsL ns (atP p σ).l) : Inv C R G' ⟨st1.m, killsL ns σ.l, st1.h⟩ a w' := by
  refine ⟨H1.W, H1.B, H1.all, fun t => ?_, fun t q c v h => ?_, H1.m⟩
  · have h0 := H0.slots t
    have h1 := H1.slots t
    unfold SlotR at h0 h1 ⊢
    dsimp only
    rw [el, lk_killsV, show lk (atP p σ).l t = _ from lk_atL p σ.l t] at h1
    rw [lk_killsV]
    cases hl : lk σ.l t with
    | none => rw [hl] at h1; exact h1
    | some e =>
      obtain ⟨q, c, v⟩ := e
      rw [hl] at h0 h1
      dsimp only [Option.map] at h0 h1 ⊢
      cases c with
      | false => exact h0
      | true =>
        simp only [if_true]
        cases hs : strip p q with
        | nil => rw [hs] at h1; exact h1
        | cons x r => rw [hs] at h1; exact h1
  · dsimp only at h
    rw [lk_killsV] at h
    cases hl : lk σ.l t with
    | none => rw [hl] at h; cases h
    | some e =>
      obtain ⟨q', c', v'⟩ := e
      rw [hl] at h
      cases h
      exact pathC_kills ns (H0.l _ _ _ _ hl)
/-- One operation of the machine. -/
theorem Mid.step {Q : Exit → Act → World → Prop} {i : Nat} {p0 : List Nat} (hlo : loOps p0 ops.toList = true) (hC : CtxOk C) (M : Mid C R ops ms n X done suf s σ G a w) (hsuf : suf = [] ∨ ∃ i js r, suf = (i, 1, js) :: r) (hrun : runDraw C ops suf s = some st2) (hi : i < ops.size) (hX : ¬ X i) (hr : ∀ j, bef ms i j = true → X j) (K : Act → World → Prop)
    (hK : ∀ done' suf' s' σ' G' a' w', Mid C R ops ms n (fun j => X j ∨ j = i) done' suf' s' σ' G' a' w' → runDraw C ops suf' s' = some st2 → (suf' = [] ∨ ∃ i js r, suf' = (i, 1, js) :: r) → Still p0 a a' → K a' w') : wpOp C.P ops Q i K a w := by
  obtain ⟨o, ho⟩ : ∃ o, ops[i]? = some o := ⟨ops[i], by simp [hi]⟩
  have hst : ∀ val, Still p0 a (a.put o.dst val) := fun val => put_still (loOps_mem hlo o (by rw [← Array.getElem?_toList] at ho; exact List.mem_of_getElem? ho))
  unfold wpOp
  rw [ho]
  dsimp only
  have hfree : ∀ t, o.dst = some t → lk σ.l t = none ∧ t < a.tmps.size := fun t hd => by
    refine ⟨?_, M.lt ho hd⟩
    cases he : lk σ.l t with
    | none => rfl
    | some e =>
      obtain ⟨⟨j, oj, h1, h2, h3⟩, _⟩ := M.lx t (by rw [he]; rfl)
      have := M.one ho h2 hd h3
      subst this
      exact absurd h1 hX
  by_cases hdone : anyD done i = true
  · have hv := M.vis ho hdone hX hr
    rcases M.kk i hdone with h0 | h1 | h2
    · -- changes nothing
      have hag := M.ag i h0 hX
      unfold again at hag
      rw [ho] at hag
      dsimp only at hag
      cases hg : guardOf ops s o.guard with
      | none => rw [hg] at hag; exact hag.elim
      | some pc =>
        obtain ⟨p, c⟩ := pc
        rw [hg] at hag
        dsimp only at hag
        obtain ⟨hp, hpc, hw⟩ := guard_rel M.inv (M.guard hv hg)
        rw [hw]
        have lc : ∀ p, Den.light C σ p o.op = Den.light C s p o.op := fun p => light_congr M.rel.h fun t ht q => M.rel.gt (hv t (looks_tmp ht)) q
        -- the slot's value
        have hag' : ∃ x, (∀ t, o.dst = some t → holdsV C s t p c = some x) ∧ (c = false ∨ ∃ v, Den.light C s p o.op = some (true, v) ∧ (x = .undef ∨ v = x)) := by
          cases hd : o.dst with
          | none =>
            rw [hd] at hag
            refine ⟨.undef, fun t h => (by cases h), ?_⟩
            rcases hag with h | ⟨v, h⟩
            · exact .inl h
            · exact .inr ⟨v, h, .inl rfl⟩
          | some t =>
            rw [hd] at hag
            dsimp only at hag
            cases hh : holdsV C s t p c with
            | none => rw [hh] at hag; exact hag.elim
            | some x => rw [hh] at hag; exact ⟨x, fun t' h => by cases h; exact hh, hag⟩
        obtain ⟨x, hx, hcv⟩ := hag'
        cases c with
        | false =>
          simp only [Bool.false_eq_true, if_false]
          refine hK done suf s _ G _ w (M.caught (p := p) (c := false) (x := x) ho hdone hX hr (put_inv M.inv rfl hp hpc hfree) (put_size _ _ _).1 hx (fun _ _ _ h => h)) hrun hsuf (hst _)
        | true =>
          simp only [if_true]
          rcases hcv with hcv | ⟨v, hl, hxv⟩
          · cases hcv
          · refine .inl (light_sound hC (M.hereOf hp) (fun t _ => M.inv.slots t) ((lc p).trans hl) (fun val w' hext hval => ?_))
            have hval' : VRel R G σ.h x val := by
              rcases hxv with rfl | rfl
              · trivial
              · exact hval
            refine hK done suf s _ G _ w' (M.caught (p := p) (c := true) (x := x) ho hdone hX hr (put_inv (inv_ext M.inv hext) hval' hp hpc hfree) (put_size _ _ _).1 hx (fun _ _ _ h => h)) hrun hsuf (hst _)
    · exact absurd (M.tx i h1) hX
    · -- an alloc
      obtain ⟨o', d, b, x0, e1, e3, e4, e5, e6, x, e7, e8⟩ := M.al i h2 hX
      rw [ho] at e1
      cases e1
      have hw : Region.wanted o (yielded ops a.tmps) = true := by simp [Region.wanted, e3]
      rw [hw]
      simp only [if_true]
      refine .inl ?_
      cases e5 with
      | al t zs e2 e5 =>
        obtain ⟨ti, z, h1, h2, h3, h4, h5, h6⟩ := ty_zero e5
        have hcl := cellsR_svZs (R := R) (G := G) (h := σ.h) (zs := zs) (vs := z.cells.toList) (by simpa using h4.symm) h6
        have hrn : (execOp a.eval o).run C.P w = .ok (.value (.pointer (some ⟨w.heap.size, 0, none⟩))) (w.alloc (.cells z.cells t)) := by
          simp [execOp, e2, Instr.alloc, zeroValue, typeInfo, h1, h2, newVar, newRow]
        unfold Oper.wp
        rw [hrn]
        obtain ⟨i1, i2, i3⟩ := born_inv (cur := z.cells) (e := t) M.inv e6 (ext_alloc w _) (heap_alloc_new w _) (size_alloc w _) (by rw [svZs_len, h4]; exact Nat.le_refl _) (fun j y hj => by obtain ⟨u, k1, k2, k3⟩ := hcl.2 j y hj; exact ⟨u, by simpa using k1, k2, k3⟩)
        have hval : VRel R (G.add (nm d 0) (w.heap.size, 0) undef (· = w.heap.size)) σ.h x (.pointer (some ⟨w.heap.size, 0, none⟩)) := by
          rcases e8 with rfl | rfl
          · exact i2
          · trivial
        refine hK done suf s _ _ _ _ (M.caught (p := []) (c := true) (x := x) ho hdone hX hr (put_inv i1 hval (.inl ⟨rfl, rfl⟩) (fun _ => rfl) hfree) (put_size _ _ _).1 (fun t' ht' => by rw [e4] at ht'; cases ht'; exact e7) (fun d' cs hne h => i3 _ _ (fun e => hne d e4 (by have e' : d' * 64 + 0 = d * 64 + 0 := e; exact Nat.eq_of_mul_eq_mul_right (by decide : 0 < 64) e')) h)) hrun hsuf (hst _)
      | bs t el zs e2 ht hz =>
        obtain ⟨hz1, hpos, hE⟩ := elz_ok hz
        obtain ⟨ti, z, h1, h2, h3, h4, h5, h6⟩ := ty_zero hz1
        obtain ⟨_, _, hu, _⟩ := ty_sl ht
        have hrn : (execOp a.eval o).run C.P w = .ok (.value (.slice (some ⟨w.heap.size, 0, none⟩) 0 0)) (w.alloc (.cells #[] el)) := by
          have key : (Instr.buildSlice t 0 #[]).run C.P w = .ok (.slice (some ⟨w.heap.size, 0, none⟩) 0 0) (w.alloc (.cells #[] el)) := by
            simp [Instr.buildSlice, run_underlying hu, sizeOf, typeInfo, h1, h3, Instr.fill, newRow, Array.range_zero']
          simp only [execOp, e2]
          simp [key]
        unfold Oper.wp
        rw [hrn]
        obtain ⟨i1, i2, i3⟩ := born_row (cur := #[]) (e := el) M.inv e6 (ext_alloc w _) (heap_alloc_new w _) (size_alloc w _) hE
        have hval : VRel R (G.add (nm d 0) (0, 0) (.slice (some ⟨w.heap.size, 0, none⟩) 0 0) (· = w.heap.size)) σ.h x (.slice (some ⟨w.heap.size, 0, none⟩) 0 0) := by
          rcases e8 with rfl | rfl
          · exact i2
          · trivial
        refine hK done suf s _ _ _ _ (M.caught (p := []) (c := true) (x := x) ho hdone hX hr (put_inv i1 hval (.inl ⟨rfl, rfl⟩) (fun _ => rfl) hfree) (put_size _ _ _).1 (fun t' ht' => by rw [e4] at ht'; cases ht'; exact e7) (fun d' cs hne h => i3 _ _ (fun e => hne d e4 (by have e' : d' * 64 + 0 = d * 64 + 0 := e; exact Nat.eq_of_mul_eq_mul_right (by decide : 0 < 64) e')) h)) hrun hsuf (hst _)
  · -- the next turn
    have hdone' : anyD done i = false := by simpa using hdone
    rcases hsuf with rfl | ⟨i0, js, r, rfl⟩
    · have hc := M.chk
      simp only [chkD, List.all_eq_true, List.mem_range] at hc
      exact absurd (hc i hi) hdone
    · obtain ⟨o', Kc⟩ := chkD_cons M.chk
      by_cases e : i = i0
      · subst e
        rw [Kc.ho] at ho
        cases ho
        obtain ⟨s1, hs1, hag, hnext⟩ := runDraw_cons hrun Kc.ho
        obtain ⟨p, c, hg, hs1⟩ := stepD_turn hs1
        have hv := M.vis_turn Kc hr
        obtain ⟨hp, hpc, hw⟩ := guard_rel M.inv (M.guard hv hg)
        rcases hs1 with ⟨rfl, hs1⟩ | ⟨hpn, hs1⟩
        · have hc := hpc rfl
          subst hc
          rw [hw]
          simp only [if_true]
          refine .inl ?_
          rcases hs1 with ⟨v, hl, rfl⟩ | ⟨hln, v, s2, hh, rfl⟩
          · have lc : Den.light C σ [] o.op = Den.light C s [] o.op := light_congr M.rel.h fun t ht q => M.rel.gt (hv t (looks_tmp ht)) q
            refine light_sound hC (M.hereOf hp) (fun t _ => M.inv.slots t) (lc.trans hl) (fun val w' hext hval => ?_)
            have M1 := M.turn (v := v) (s2 := s) (σ2 := σ) Kc hr (.refl M.rel.h) (.refl _ _ _) hag (put_inv (inv_ext M.inv hext) (c := true) hval hp hpc hfree) M.inv.m (put_size _ _ _).1 (Fr.refl _ _)
            obtain ⟨done', suf', s', σ', M2, h1, h2⟩ := M1.advance hnext
            exact hK done' suf' s' σ' _ _ _ M2 h1 h2 (hst _)
          · obtain ⟨σ2, k1, k2⟩ := heavy_sim (st' := σ) M.rel.h (fun t ht => M.rel.gt (hv t (looks_tmp ht)) []) hh
            refine heavy_sound hC M.inv k1 _ _ (fun val w' G' j1 j2 j3 => ?_)
            have hfree' : ∀ t, o.dst = some t → lk σ2.l t = none ∧ t < a.tmps.size := fun t ht => by
              refine ⟨?_, (hfree t ht).2⟩
              have := sameL_heavy k1 t
              rw [(hfree t ht).1] at this
              cases he : lk σ2.l t with
              | none => rfl
              | some q => rw [he] at this; cases this
            have M1 := M.turn (v := v) (s2 := s2) (σ2 := σ2) Kc hr k2 (by unfold hitsOf; rw [hg]; dsimp only; rw [hln]; exact heavy_frm hh) hag (put_inv j1 (c := true) j2 (.inl ⟨rfl, rfl⟩) (fun _ => rfl) hfree') j1.m (put_size _ _ _).1 j3
            obtain ⟨done', suf', s', σ', M2, h1, h2⟩ := M1.advance hnext
            exact hK done' suf' s' σ' _ _ _ M2 h1 h2 (hst _)
        · rw [hw]
          rcases hs1 with ⟨rfl, rfl⟩ | ⟨rfl, hemp, v, s2, hh, rfl⟩
          · simp only [Bool.false_eq_true, if_false]
            have M1 := M.turn (p := p) (c := false) (v := .undef) (s2 := s) (σ2 := σ) Kc hr (.refl M.rel.h) (.refl _ _ _) hag (put_inv M.inv rfl hp hpc hfree) M.inv.m (put_size _ _ _).1 (Fr.refl _ _)
            obtain ⟨done', suf', s', σ', M2, h1, h2⟩ := M1.advance hnext
            exact hK done' suf' s' σ' _ _ _ M2 h1 h2 (hst _)
          · simp only [if_true]
            refine .inl ?_
            have hA : ∀ t, Operand.tmp t ∈ o.op.operands.toList → Den.gt C (atP p σ) [] t = Den.gt C (atP p s) [] t := fun t ht => (M.rel.atP p).gt (hv t (looks_tmp ht)) []
            obtain ⟨σ2, k1, k2⟩ := heavy_sim (st' := atP p σ) (show (atP p σ).h = (atP p s).h from M.rel.h) hA hh
            obtain ⟨ns, a1, a2, a3, a4, a5⟩ := k2
            have z1 : zipL s.l s2.l = killsL ns s.l := by rw [a2]; exact zipL_kills p ns s.l
            have z2 : zipL σ.l σ2.l = killsL ns σ.l := by rw [a4]; exact zipL_kills p ns σ.l
            obtain ⟨nf, f1, f2, f3, f4⟩ := heavy_frm hh
            have f3' : zipL s.l s2.l = killsL nf s.l := by rw [f3]; exact zipL_kills p nf s.l
            refine heavy_sound hC (atP_inv M.inv hp) k1 _ _ (fun val w' G' j1 j2 j3 => ?_)
            have hi : Inv C R G' ⟨σ2.m, zipL σ.l σ2.l, σ2.h⟩ a w' := by rw [z2]; exact unatK_inv M.inv j1 a4
            have hp' : PathC (zipL σ.l σ2.l) p true := by rw [z2]; exact pathC_kills ns hp
            have hfree' : ∀ t, o.dst = some t → lk (zipL σ.l σ2.l) t = none ∧ t < a.tmps.size := fun t ht => by
              refine ⟨?_, (hfree t ht).2⟩
              rw [z2]; exact lk_killsL_none t ns _ (hfree t ht).1
            have M1 := M.turn (p := p) (c := true) (v := v) (s2 := ⟨s2.m, zipL s.l s2.l, s2.h⟩) (σ2 := ⟨σ2.m, zipL σ.l σ2.l, σ2.h⟩) Kc hr ⟨ns, a1, z1, a3, z2, a5⟩ ⟨nf, fun n h => by rw [hemp]; exact f1 n h, f2, f3', fun n b hb hn hm => f4 n b hb (fun h => hn (by rw [hemp]; exact h)) (fun h => hm (by rw [hemp]; exact h))⟩ hag (put_inv hi j2 hp' hpc hfree') hi.m (put_size _ _ _).1 j3
            obtain ⟨done', suf', s', σ', M2, h1, h2⟩ := M1.advance hnext
            exact hK done' suf' s' σ' _ _ _ M2 h1 h2 (hst _)
      · have hb := behind_turn Kc.next ((hasD_cons _ _ _ _ _).2 (.inl ⟨rfl, rfl⟩)) hi (by
          cases he : anyD ((i0, 1) :: done) i with
          | false => rfl
          | true =>
            rw [anyD_cons] at he
            rcases he with he | he
            · exact absurd he.symm e
            · exact absurd he hdone)
        have := M.dx i0 (hr i0 hb)
        rw [Kc.new] at this; cases this
/-- All are listed: the state is den's. -/
theorem Mid.fin (M : Mid C R ops ms n X done suf s σ G a w) (hsuf : suf = [] ∨ ∃ i js r, suf = (i, 1, js) :: r) (hrun : runDraw C ops suf s = some st2) (hall : ∀ i, i < ops.size → X i) : Inv C R G st2 a w ∧ st2.l = [] := by
  have hs : suf = [] := by
    rcases hsuf with h | ⟨i, js, r, rfl⟩
    · exact h
    · obtain ⟨o, K⟩ := chkD_cons M.chk
      have := M.dx i (hall i (lt_of_get K.ho))
      rw [K.new] at this; cases this
  subst hs
  simp only [runDraw, Option.some.injEq] at hrun
  subst hrun
  have hnh : ∀ t, ¬ Hid ops X done t := fun t ⟨j, oj, _, h2, h3, _⟩ => h2 (hall j (lt_of_get h3))
  have H := clear_inv M.inv (fun t ht => (M.lx t ht).2)
  refine ⟨⟨H.W, ?_, ?_, fun t => ?_, fun t q c v h => (by cases h), M.sm⟩, rfl⟩
  · have := H.B; rw [show ({ σ with l := [] } : St).h = s.h from M.rel.h] at this; exact this
  · have := H.all; rw [show ({ σ with l := [] } : St).h = s.h from M.rel.h] at this; exact this
  · have hx := H.slots t
    unfold SlotR at hx ⊢
    dsimp only [lk] at hx ⊢
    rw [M.rel.h, (M.rel.eq t (hnh t)).2] at hx
    exact hx
theorem countP_lt {p q : Nat → Bool} (h : ∀ i, q i = true → p i = true) : ∀ {l : List Nat} {i : Nat}, i ∈ l → p i = true → q i = false → l.countP q < l.countP p
  | [], i, hi, _, _ => by simp at hi
  | x :: l, i, hi, hp, hq => by
    have le : l.countP q ≤ l.countP p := List.countP_mono_left fun y _ => h y
    rcases List.mem_cons.1 hi with rfl | hi
    · rw [List.countP_cons_of_pos (l := l) hp, List.countP_cons_of_neg (by rw [hq]; simp)]; omega
    · have := countP_lt h hi hp hq
      by_cases hx : q x = true
      · rw [List.countP_cons_of_pos hx, List.countP_cons_of_pos (h x hx)]; omega
      · rw [List.countP_cons_of_neg hx]
        have := List.countP_le_length (p := p) (l := l)
        by_cases hpx : p x = true
        · rw [List.countP_cons_of_pos hpx]; omega
        · rw [List.countP_cons_of_neg hpx]; omega
theorem ready_mem {ops : Array Oper} {listed : Array Bool} {i : Nat} : i ∈ Region.ready .any ops listed ↔ i < ops.size ∧ listed.getD i true = false ∧ ∃ o, ops[i]? = some o ∧ ∀ e ∈ o.after.toList, Region.binds .any e = true → listed.getD e.on false = true := by
  unfold Region.ready
  rw [List.mem_filter, List.mem_range]
  constructor
  · rintro ⟨h1, h2⟩
    rw [Bool.and_eq_true, Bool.not_eq_true'] at h2
    refine ⟨h1, h2.1, ops[i], by simp [h1], fun e he hb => ?_⟩
    have h3 := h2.2
    simp only [h1, getElem?_pos, Option.map_some, Option.getD_some, Array.all_eq_true_iff_forall_mem] at h3
    have := h3 e (by simpa using he)
    rw [hb] at this
    simpa using this
  · rintro ⟨h1, h2, o, h3, h4⟩
    refine ⟨h1, ?_⟩
    rw [Bool.and_eq_true, Bool.not_eq_true']
    refine ⟨h2, ?_⟩
    rw [h3]
    simp only [Option.map_some, Option.getD_some, Array.all_eq_true_iff_forall_mem]
    intro e he
    cases hb : Region.binds .any e with
    | false => rfl
    | true => simpa using h4 e (by simpa using he) hb
/-- What is asked of the world behind a piece of code. -/
def After (C : Ctx) (R : Rt) (n : Nat) (p : List Nat) (a0 : Act) (st : St) (a : Act) (w : World) : Prop := ∃ G, Inv C R G st a w ∧ st.l = [] ∧ a.tmps.size = n ∧ Still p a0 a
theorem draw_any {Q : Exit → Act → World → Prop} (hC : CtxOk C) (hE : ∀ (i : Nat) o, ops[i]? = some o → ∀ e ∈ o.after.toList, Region.binds .any e = true → e.on < ops.size) {p0 : List Nat} {a0 : Act} (hlo : loOps p0 ops.toList = true) (hQ : ∀ a' w', After C R n p0 a0 st2 a' w' → Q .normal a' w') : ∀ (fuel : Nat) (listed : Array Bool) (X : Nat → Prop) (done : List (Nat × Nat)) (suf : List (Nat × Nat × List Nat)) (s σ : St) (G : Gh) (a : Act) (w : World), listed.size = ops.size → (∀ i, X i ↔ listed.getD i false = true) → (List.range ops.size).countP (fun i => !listed.getD i false) ≤ fuel →
    Mid C R ops (befores [] ops.toList) n X done suf s σ G a w → (suf = [] ∨ ∃ i js r, suf = (i, 1, js) :: r) → runDraw C ops suf s = some st2 → Still p0 a0 a → wpAny C.P .any ops Q fuel listed a w := by
  intro fuel
  induction fuel with
  | zero =>
    intro listed X done suf s σ G a w hsz hX hcnt M hsuf hrun hds
    have hall : ∀ i, i < ops.size → X i := fun i hi => by
      rw [hX]
      have h0 : (List.range ops.size).countP (fun i => !listed.getD i false) = 0 := by omega
      rw [List.countP_eq_zero] at h0
      have := h0 i (by simpa using hi)
      simpa using this
    obtain ⟨h1, h2⟩ := M.fin hsuf hrun hall
    refine ⟨?_, hQ a w ⟨G, h1, h2, M.sz, hds⟩⟩
    rw [List.eq_nil_iff_forall_not_mem]
    intro i hi
    obtain ⟨h3, h4, _⟩ := ready_mem.1 hi
    have := (hX i).1 (hall i h3)
    simp [Array.getD_eq_getD_getElem?, hsz, h3] at h4 this
    rw [h4] at this; cases this
  | succ fuel ih =>
    intro listed X done suf s σ G a w hsz hX hcnt M hsuf hrun hds
    have hun : ∀ i, i < ops.size → (listed.getD i true = false ↔ ¬ X i) := fun i hi => by
      rw [hX]
      simp [Array.getD_eq_getD_getElem?, hsz, hi]
    refine ⟨fun hnil => ?_, fun i hi => ?_⟩
    · -- nothing can be listed: all are
      have hall : ∀ i, i < ops.size → X i := by
        have no : ∀ i, i < ops.size → ¬ X i → (∀ j, j < ops.size → bef (befores [] ops.toList) i j = true → X j) → False := fun i hi hx hb => by
          obtain ⟨o, ho⟩ : ∃ o, ops[i]? = some o := ⟨ops[i], by simp [hi]⟩
          have : i ∈ Region.ready .any ops listed := ready_mem.2 ⟨hi, (hun i hi).2 hx, o, ho, fun e he hbind => (hX _).1 (hb _ (hE i o ho e he hbind) (bef_edge (ops := ops.toList) (i := i) (o := o) (by simpa using ho) he hbind))⟩
          rw [hnil] at this
          simp at this
        have hdone : ∀ i, anyD done i = true → i < ops.size → X i := fun i hi hlt => Classical.byContradiction fun hx => by
          obtain ⟨j, j1, j2, j3⟩ := M.wf.first (X := fun j => X j ∨ ¬ j < ops.size) ⟨i, hi, fun h => by rcases h with h | h; exact hx h; exact h hlt⟩
          refine no j (Classical.byContradiction fun h => j2 (.inr h)) (fun h => j2 (.inl h)) (fun k hk hb => ?_)
          rcases j3 k hk hb with h | h
          · exact h
          · exact absurd hk h
        intro i hi
        refine Classical.byContradiction fun hx => ?_
        have hn : ¬ anyD done i = true := fun h => hx (hdone i h hi)
        rcases hsuf with rfl | ⟨i0, js, r, rfl⟩
        · have hc := M.chk
          simp only [chkD, List.all_eq_true, List.mem_range] at hc
          exact hn (hc i hi)
        · obtain ⟨o, K⟩ := chkD_cons M.chk
          exact no i0 (lt_of_get K.ho) (M.notX K.new) (fun j hj hb => hdone j (K.sub j hj hb) hj)
      obtain ⟨h1, h2⟩ := M.fin hsuf hrun hall
      exact hQ a w ⟨G, h1, h2, M.sz, hds⟩
    · obtain ⟨h1, h2, o, h3, h4⟩ := ready_mem.1 hi
      have hx := (hun i h1).1 h2
      refine M.step hlo hC hsuf hrun h1 hx (fun j hb => ?_) _ (fun done' suf' s' σ' G' a' w' M' hrun' hsuf' hd' => ?_)
      · obtain ⟨e, he, hbind, hj⟩ := bef_split (ops := ops.toList) (by simpa using h3) hb
        have hon := (hX _).2 (h4 e he hbind)
        rcases hj with rfl | hj
        · exact hon
        · exact M.cl _ _ hon hj
      · refine ih _ _ done' suf' s' σ' G' a' w' (by simpa using hsz) (fun j => ?_) ?_ M' hsuf' hrun' (hds.trans hd')
        · rw [hX]
          simp only [Array.getD_eq_getD_getElem?, Array.getElem?_setIfInBounds]
          by_cases e : i = j
          · subst e; simp [hsz, h1]
          · simp [e, Ne.symm e]
        · have := countP_lt (p := fun i => !listed.getD i false) (q := fun j => !(listed.setIfInBounds i true).getD j false) (fun j hj => by
            simp only [Array.getD_eq_getD_getElem?, Array.getElem?_setIfInBounds] at hj ⊢
            by_cases e : i = j
            · subst e; simp [hsz, h1] at hj
            · simpa [e] using hj) (l := List.range ops.size) (i := i) (by simpa using h1) (by
              have := hX i
              cases hg : listed.getD i false with
              | false => rfl
              | true => exact absurd (this.2 hg) hx) (by simp [Array.getD_eq_getD_getElem?, hsz, h1])
          omega
theorem draw_sound {Q : Exit → Act → World → Prop} {p0 : List Nat} {a0 : Act} {order : List (Nat × Nat × List Nat)} (hC : CtxOk C) (H : After C R n p0 a0 st a w) (hlo : loOps p0 ops.toList = true) (hc : chkDraw n ops order = true) (hrun : runDraw C ops order st = some st2) (hQ : ∀ a' w', After C R n p0 a0 st2 a' w' → Q .normal a' w') :
    wpAny C.P .any ops Q ops.size (Array.replicate ops.size false) a w := by
  obtain ⟨G, H, hl, hs, hd⟩ := H
  simp only [chkDraw, Bool.and_eq_true] at hc
  obtain ⟨⟨h1, h2⟩, h3⟩ := hc
  have nol : ∀ t, (lk st.l t).isSome = true → False := fun t ht => by rw [hl] at ht; simp [lk] at ht
  have noD : ∀ i, anyD [] i = true → False := fun i h => by simp [anyD] at h
  have noH : ∀ i k, hasD [] i k = true → False := fun i k h => by simp [hasD] at h
  have M : Mid C R ops (befores [] ops.toList) n (fun _ => False) [] order st st G a w := { dst := h1, chk := h3, wf := trivial, dx := fun i h => h.elim, cl := fun i j h => h.elim, tx := fun i h => (noH i 1 h).elim, kk := fun i h => (noD i h).elim, rd := fun i o t j oj h => (noD i h).elim, rel := ⟨rfl, fun t _ => ⟨rfl, rfl⟩, fun t ⟨i, o, h, _⟩ => (noD i h).elim⟩, ag := fun i h => (noH i 0 h).elim, al := fun i h => (noH i 2 h).elim, inv := H, sm := H.m, lx := fun t h => (nol t h).elim, ls := fun t h => (nol t h).elim, sz := hs }
  obtain ⟨done', suf', s', σ', M', hrun', hsuf'⟩ := M.advance hrun
  refine draw_any hC (fun i o ho => edgesAll_spec h2 i o (by simpa using ho)) hlo hQ _ _ (fun _ => False) done' suf' s' σ' G a w (by simp) (fun i => ?_) ?_ M' hsuf' hrun' hd
  · simp only [Array.getD_eq_getD_getElem?, Array.getElem?_replicate, false_iff]
    split <;> simp
  · have := List.countP_le_length (p := fun i => !(Array.replicate ops.size false).getD i false) (l := List.range ops.size)
    simpa using this
end Go.Den
