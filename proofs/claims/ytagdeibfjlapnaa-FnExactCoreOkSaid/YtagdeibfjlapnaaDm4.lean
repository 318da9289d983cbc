/- The evaluator of Go code over plain data, and its soundness: part 4 of 7. -/
import Derived.Test.YtagdeibfjlapnaaDm3
set_option linter.unusedVariables false
set_option linter.unusedSimpArgs false
/- Append. -/
namespace Go.Den
open Go
variable {C : Ctx} {R : Rt} {G G0 : Gh} {st st1 : St} {a : Act} {w w' : World} {o : Oper} {v : SV}

theorem rep_sc {T : Nat → Prop} {d : D} {u : Value} (hs : isSc d = true) (h : Rep w T d u) : u = dv d := by
  cases h with
  | nil A cap => cases hs
  | l => cases hs
  | _ => rfl
theorem own_dv {φ ψ : Nat → Prop} {d : D} {u : Value} (hs : isSc d = true) (h : OwnD w φ d u) : u = dv d ∧ OwnD w ψ d u := by
  cases h with
  | nil => cases hs
  | l => cases hs
  | b => exact ⟨rfl, .b _ _⟩
  | i => exact ⟨rfl, .i _ _ _⟩
  | s => exact ⟨rfl, .s _ _⟩
theorem dv_own {φ : Nat → Prop} {d : D} (hs : isSc d = true) : OwnD w φ d (dv d) := by
  cases d with
  | b x => exact .b _ _
  | i k n => exact .i _ _ _
  | s x => exact .s _ _
  | l xs => cases hs
theorem allSc_ok : ∀ {xs : List D}, allSc xs = true → ∀ d ∈ xs, isSc d = true
  | [], _, d, h => by simp at h
  | x :: xs, h, d, hd => by
    simp only [allSc, Bool.and_eq_true] at h
    simp only [List.mem_cons] at hd
    rcases hd with rfl | hd
    · exact h.1
    · exact allSc_ok h.2 d hd
theorem flatR_ok {sz : Nat} : ∀ {xs : List (List D)}, flatR sz xs = true → (∀ r ∈ xs, r.length = sz) ∧ ∀ d ∈ xs.flatten, isSc d = true
  | [], _ => by simp
  | r :: rs, h => by
    simp only [flatR, Bool.and_eq_true, decide_eq_true_eq] at h
    obtain ⟨h1, h2⟩ := flatR_ok h.2
    refine ⟨fun q hq => ?_, fun d hd => ?_⟩
    · simp only [List.mem_cons] at hq; rcases hq with rfl | hq; exact h.1.1; exact h1 q hq
    · simp only [List.flatten_cons, List.mem_append] at hd; rcases hd with hd | hd; exact allSc_ok h.1.2 d hd; exact h2 d hd
theorem els_dv {ds : List D} (h : ∀ d ∈ ds, isSc d = true) : Els w (fun _ => False) ds (ds.map dv) :=
  Els.flat (by simp) fun j d u h1 h2 => by
    rw [List.getElem?_map, h1] at h2
    simp at h2; subst h2
    exact dv_own (h d (List.mem_of_getElem? h1))

/-- What an operand of append leads to. -/
structure SrcOk (C : Ctx) (R : Rt) (G : Gh) (st : St) (a : Act) (w : World) (sz : Nat) (val : Value) (ys : List (List D)) (st1 : St) (G1 : Gh) (θ : Nat → Prop) (news : List Value) : Prop where
  val : ∃ A c, val = .slice A ys.length c ∧ (A = none → ys = []) ∧ ∀ b, A = some b → ∀ (j : Nat) u, news[j]? = some u → w.cell? (b.add j) = some u
  inv : Inv C R G1 st1 a w
  gle : Gle G1 G
  has : Has G st.h G1 st1.h
  els : Els w θ ys.flatten news
  len : ∀ r ∈ ys, r.length = sz
  mine : ∀ k, θ k → k < w.heap.size ∧ (R.L k ∨ R.w0.heap.size ≤ k) ∧ ∀ lo hi, ¬ R.LB k lo hi
  apart : ∀ k n, θ k → G1.live n → G1.φ n k → False
  fr : Fr G st.h G1 st1.h
theorem source_sound {zs : List D} {y : SV} {val : Value} {ys : List (List D)} (H : Inv C R G st a w) (hy : VRel R G st.h y val) (h0 : 0 < zs.length) (h : source zs st y = some (true, ys, st1)) : ∃ G1 θ news, SrcOk C R G st a w zs.length val ys st1 G1 θ news := by
  unfold source at h
  split at h
  · rename_i n
    split at h
    · rename_i e sz xs hrow
      split at h
      · rename_i hsz
        obtain ⟨hl, hv, _⟩ := hy
        obtain ⟨b, hb, hbr⟩ := H.B.rel n hl id
        rw [hrow] at hb; cases hb
        obtain ⟨r1, r2, r3, r4⟩ := hbr
        have hmn := H.B.mine n hl id
        split at h
        · simp only [Option.some.injEq, Prod.mk.injEq] at h
          obtain ⟨hfl, rfl, rfl⟩ := h
          obtain ⟨f1, f2⟩ := flatR_ok hfl
          refine ⟨G, fun _ => False, xs.flatten.map dv, ?_, H, Gle.refl G, Has.refl _ _, els_dv f2, by rw [← hsz]; exact f1, fun _ h => h.elim, fun _ _ h => h.elim, Fr.refl _ _⟩
          rcases RowR.els r3 r1 with ⟨h1, h2⟩ | ⟨g, o, cap, cur, h1, h2, h3, h4, h5, h6, h7⟩
          · exact ⟨none, 0, by rw [hv, h1, h2]; rfl, fun _ => h2, fun b hb => by cases hb⟩
          · refine ⟨some ⟨g, o, none⟩, cap, by rw [hv, h1], fun h => (by cases h), fun b hb j u hj => ?_⟩
            cases hb
            rw [List.getElem?_map, Option.map_eq_some_iff] at hj
            obtain ⟨d, hd, rfl⟩ := hj
            obtain ⟨g1, ψ, g2, g3, g4⟩ := h7
            have hlt : j < xs.flatten.length := (List.getElem?_eq_some_iff.1 hd).1
            have hlt' : j < ((cur.toList.drop o).take (xs.length * sz)).length := by omega
            have hu := g4 j d _ hd (List.getElem?_eq_getElem hlt')
            obtain ⟨e1, _⟩ := own_dv (ψ := fun _ => False) (f2 d (List.mem_of_getElem? hd)) hu
            have hget := List.getElem?_eq_getElem hlt'
            rw [e1, List.getElem?_take] at hget
            split at hget
            · rw [List.getElem?_drop, Array.getElem?_toList] at hget
              rw [addr_add, cell_of_row w g _ cur e (0, 0) h2]
              exact hget
            · cases hget
        · simp only [Option.some.injEq, Prod.mk.injEq, true_and] at h
          obtain ⟨rfl, rfl⟩ := h
          rcases RowR.els r3 r1 with ⟨h1, h2⟩ | ⟨g, o, cap, cur, h1, h2, h3, h4, h5, h6, h7⟩
          · refine ⟨G.drop n, fun _ => False, [], ⟨none, 0, by rw [hv, h1, h2]; rfl, fun _ => h2, fun b hb => by cases hb⟩, give_inv H hrow, (Gle.refl G).drop n, (Has.refl G st.h).give, by rw [h2]; exact Els.nil _ _, by rw [h2]; simp, fun _ h => h.elim, fun _ _ h => h.elim, fr_give hl⟩
          · refine ⟨G.drop n, fun k => G.φ n k ∧ k ≠ g, _, ⟨some ⟨g, o, none⟩, cap, by rw [hv, h1], fun h => (by cases h), fun b hb j u hj => ?_⟩, give_inv H hrow, (Gle.refl G).drop n, (Has.refl G st.h).give, h7, by rw [← hsz]; exact h6, fun k hk => ⟨(hmn k hk.1).1, (hmn k hk.1).2, fun lo hi => r4 k lo hi hk.1⟩, fun k m hk hm hφ => H.B.disj n m hl id hm.1 id (Ne.symm hm.2) k hk.1 hφ, fr_give hl⟩
            cases hb
            rw [List.getElem?_take] at hj
            split at hj
            · rw [List.getElem?_drop, Array.getElem?_toList] at hj
              rw [addr_add, cell_of_row w g _ cur e (0, 0) h2]
              exact hj
            · cases hj
      · cases h
    · cases h
  · rename_i xs
    split at h
    · simp only [Option.some.injEq, Prod.mk.injEq] at h
      obtain ⟨hfl, rfl, rfl⟩ := h
      obtain ⟨f1, f2⟩ := flatR_ok hfl
      have hrep : Rep R.w0 R.T (.l xs) val := hy
      refine ⟨G, fun _ => False, xs.flatten.map dv, ?_, H, Gle.refl G, Has.refl _ _, els_dv f2, f1, fun _ h => h.elim, fun _ _ h => h.elim, Fr.refl _ _⟩
      cases hrep with
      | nil A cap => exact ⟨A, cap, rfl, fun _ => rfl, fun b _ j u hj => by simp at hj⟩
      | l _ g o cap sz vl hne hT hcap hsz hc hr =>
        refine ⟨some ⟨g, o, none⟩, cap, rfl, fun h => (by cases h), fun b hb j u hj => ?_⟩
        cases hb
        have hs0 : sz = zs.length := by
          cases xs with
          | nil => exact absurd rfl hne
          | cons r rs => rw [← hsz r (by simp), f1 r (by simp)]
        subst hs0
        rw [List.getElem?_map, Option.map_eq_some_iff] at hj
        obtain ⟨d, hd, rfl⟩ := hj
        have hjm : j = j / zs.length * zs.length + j % zs.length := by have := Nat.div_add_mod j zs.length; rw [Nat.mul_comm] at this; omega
        have hm : j % zs.length < zs.length := Nat.mod_lt _ h0
        have hsc := f2 d (List.mem_of_getElem? hd)
        rw [hjm, (flatten_get f1).2 _ _ hm, Option.bind_eq_some_iff] at hd
        obtain ⟨r, hd1, hd2⟩ := hd
        have h1 := hc _ _ _ _ hd1 hd2
        rw [← rep_sc hsc (hr _ _ _ _ hd1 hd2), addr_add, H.here.cellT hT]
        have e : o + j = o + j / zs.length * zs.length + j % zs.length := by omega
        rw [e]
        exact h1
    · cases h
  · cases h
    have hv : val = .slice none 0 0 := hy
    exact ⟨G, fun _ => False, [], ⟨none, 0, hv, fun _ => rfl, fun b hb => by cases hb⟩, H, Gle.refl G, Has.refl _ _, Els.nil _ _, by simp, fun _ h => h.elim, fun _ _ h => h.elim, Fr.refl _ _⟩
  · cases h

theorem append_types {P : Program} {t t' ty e e' : TypeId} {B : Option Addr} {n k : Nat} {x : Value} (h : P.underlying t = some (.slice e)) (h' : P.underlying t' = some (.slice e')) : (Builtin.append_ #[t, t'] ty #[.slice B n k, x]).run P w = (Builtin.append_ #[t, t] ty #[.slice B n k, x]).run P w := by
  simp [Builtin.append_, run_underlying h, run_underlying h']
/-- Append, by the machine: to a row, of what lies somewhere. -/
theorem run_append {P : Program} {t t' ty e e' : TypeId} {i : TypeInfo} {z : Value} {sz : Nat} {φ θ : Nat → Prop} {xs ys : List (List D)} {v : Value} {A : Option Addr} {c : Nat} {news : List Value}
    (ht : P.underlying t = some (.slice e)) (ht' : P.underlying t' = some (.slice e')) (hi : P.info? e = some i) (hz : i.zero = some z) (hsz : i.size = sz) (hzs : z.cells.size = sz) (h0 : 0 < sz) (hb : i.bytes ≤ 2048) (hlim : xs.length + ys.length ≤ lim)
    (hrow : RowR w e sz φ xs v) (hA : A = none → ys = []) (hnews : ∀ b, A = some b → ∀ (j : Nat) u, news[j]? = some u → w.cell? (b.add j) = some u) (hE : Els w θ ys.flatten news) (hlen : ∀ r ∈ ys, r.length = sz) (hφ : ∀ k, φ k → k < w.heap.size) (hθ : ∀ k, θ k → k < w.heap.size) (hd : ∀ k, φ k → θ k → False) :
    ∃ v' w', (Builtin.append_ #[t, t'] ty #[v, .slice A ys.length c]).run P w = .ok v' w' ∧ RowR w' e sz (fun k => φ k ∨ θ k ∨ (k = w.heap.size ∧ k < w'.heap.size)) (xs ++ ys) v' ∧ w'.os = w.os ∧ w'.tape = w.tape ∧ w'.output = w.output ∧ w.heap.size ≤ w'.heap.size ∧ ∀ k, k < w.heap.size → ¬ φ k → w'.heap[k]? = w.heap[k]? := by
  subst hsz
  have hty : (Builtin.append_ #[t, t'] ty #[v, .slice A ys.length c]).run P w = (Builtin.append_ #[t, t] ty #[v, .slice A ys.length c]).run P w := by
    obtain ⟨A', cap', hv⟩ := row_len hrow
    rw [hv]
    exact append_types ht ht'
  rw [hty]
  have hl : lim = 68719476736 := rfl
  have hnl : news.length = ys.length * i.size := by rw [← hE.1, (flatten_get hlen).1]
  have hbytes : (xs.length + ys.length) * i.bytes ≤ 140737488355328 := by
    have : (xs.length + ys.length) * i.bytes ≤ 68719476736 * 2048 := Nat.mul_le_mul (by omega) hb
    omega
  have hone := hE.one
  have hsame : (∀ k, φ k → φ k ∨ θ k ∨ (k = w.heap.size ∧ k < w.heap.size)) := fun k h => .inl h
  rcases RowR.els h0 hrow with ⟨rfl, rfl⟩ | ⟨g, o, cap, cur, rfl, h2, h3, h4, h5, h6, h7⟩
  · by_cases hm : ys = []
    · subst hm
      refine ⟨.slice none 0 0, w, ?_, .inl ⟨rfl, rfl⟩, rfl, rfl, rfl, Nat.le_refl _, fun _ _ _ => rfl⟩
      cases A <;> simp [Builtin.append_, run_underlying ht, sizeOf, typeInfo, hi, Builtin.lenOf, Builtin.firstCells, loadCells, loadCellsFrom]
    · cases A with
      | none => exact absurd (hA rfl) hm
      | some b =>
        have hpos : 0 < ys.length := List.length_pos_iff.2 hm
        have hr := run_append_nil (P := P) w t ty e i z ht hi hz b ys.length c news hnl (hnews b rfl) hpos (by omega) (by simp at hbytes; omega)
        have hge := grownCap_ge w ys.length 0 e
        refine ⟨_, _, hr, ?_, rfl, rfl, rfl, by rw [size_alloc]; show w.heap.size ≤ w.heap.size + 1; omega, fun k hk _ => heap_alloc_old w.drew _ k hk⟩
        simp only [List.nil_append]
        refine RowR.mk (w := w.drew.alloc _) h0 (heap_alloc_new w.drew _) (.inr (.inr ⟨rfl, by rw [size_alloc]; show w.heap.size < w.heap.size + 1; omega⟩)) hge ?_ hlen ?_
        · simp only [Array.size_append, List.size_toArray, size_zeroCells, hzs, hnl, ← Nat.add_mul]
          rw [show ys.length + (grownCap w ys.length 0 e - ys.length) = grownCap w ys.length 0 e by omega]
          omega
        · have e1 : ((news.toArray ++ Builtin.zeroCells z.cells (grownCap w ys.length 0 e - ys.length)).toList.drop 0).take (ys.length * i.size) = news := by
            simp only [Array.toList_append, List.drop_zero]
            rw [← hnl, List.take_left]
          rw [e1]
          exact hE.mono (fun k hk => ⟨.inr (.inl hk), fun e => by have := hθ k hk; omega⟩) (fun k hk => heap_alloc_old w.drew _ k (hθ k hk))
  · have hgh : g < w.heap.size := hφ g h3
    have hlen' : ∀ r ∈ xs ++ ys, r.length = i.size := fun r hr => by rcases List.mem_append.1 hr with hr | hr; exact h6 r hr; exact hlen r hr
    have e0 : (xs ++ ys).length * i.size = xs.length * i.size + ys.length * i.size := by rw [List.length_append, Nat.add_mul]
    have holdl : ((cur.toList.drop o).take (xs.length * i.size)).length = xs.length * i.size := by rw [← h7.1, (flatten_get h6).1]
    by_cases hroom : xs.length + ys.length ≤ cap
    · have e2 : (xs.length + ys.length) * i.size ≤ cap * i.size := Nat.mul_le_mul_right _ hroom
      rw [Nat.add_mul] at e2
      have hfit : o + xs.length * i.size + news.length ≤ cur.size := by omega
      have hst := run_storeCells_at P g (o + xs.length * i.size) e news 0 cur w h2 (by simpa using hfit) hone
      simp only [Nat.add_zero] at hst
      obtain ⟨p1, p2⟩ := put_cells cur (o + xs.length * i.size) news hfit
      generalize hcur' : (cur.toList.take (o + xs.length * i.size) ++ news ++ cur.toList.drop (o + xs.length * i.size + news.length)).toArray = cur' at hst p1 p2
      have hrw := rewr_setRow (cur' := cur') h2 p1
      have hr : (Builtin.append_ #[t, t] ty #[.slice (some ⟨g, o, none⟩) xs.length cap, .slice A ys.length c]).run P w = .ok (.slice (some ⟨g, o, none⟩) (xs ++ ys).length cap) (w.setRow g cur') := by
        have hf : (Builtin.firstCells i.size ys.length (.slice A ys.length c)).run P w = .ok news.toArray w := by
          cases A with
          | none =>
            have := hA rfl
            subst this
            have : news = [] := List.eq_nil_of_length_eq_zero (by simpa using hnl)
            subst this
            exact run_firstCells_none w _ _ _ _
          | some b => exact run_firstCells_some (P := P) w i.size ys.length b ys.length c news hnl (hnews b rfl)
        have hroom' : ¬ cap < xs.length + ys.length := by omega
        simp [Builtin.append_, run_underlying ht, sizeOf, typeInfo, hi, Builtin.lenOf, hroom, hf, addr_add, hst]
      refine ⟨_, _, hr, ?_, rfl, rfl, rfl, Nat.le_of_eq hrw.size.symm, fun k hk hnφ => setRow_other w g k _ (fun e => hnφ (e ▸ h3))⟩
      refine RowR.mk h0 hrw.now (.inl h3) (by rw [List.length_append]; exact hroom) (by rw [p1]; exact h5) hlen' ?_
      have e1 : (cur'.toList.drop o).take ((xs ++ ys).length * i.size) = (cur.toList.drop o).take (xs.length * i.size) ++ news := by
        apply List.ext_getElem?
        intro j
        rw [e0, List.getElem?_take, List.getElem?_drop, Array.getElem?_toList, p2]
        by_cases hj : j < xs.length * i.size
        · rw [if_pos (by omega), if_neg (by omega), List.getElem?_append_left (by omega), List.getElem?_take, if_pos hj, List.getElem?_drop, Array.getElem?_toList]
        · rw [List.getElem?_append_right (by omega), holdl]
          by_cases hj2 : j < xs.length * i.size + ys.length * i.size
          · rw [if_pos hj2, if_pos (by omega)]
            congr 1
            omega
          · rw [if_neg hj2, List.getElem?_eq_none (by omega)]
      rw [e1, List.flatten_append]
      exact (h7.append hE (fun k hk hk' => hd k hk.1 hk')).mono (fun k hk => by
        rcases hk with hk | hk
        · exact ⟨.inl hk.1, hk.2⟩
        · exact ⟨.inr (.inl hk), fun e => hd k (e ▸ h3) hk⟩) (fun k hk => setRow_other w g k _ (by
        rcases hk with hk | hk
        · exact hk.2
        · exact fun e => hd k (e ▸ h3) hk))
    · cases A with
      | none => have := hA rfl; subst this; simp at hroom; omega
      | some b =>
        have holds : ∀ (j : Nat) u, ((cur.toList.drop o).take (xs.length * i.size))[j]? = some u → w.cell? ((⟨g, o, none⟩ : Addr).add j) = some u := fun j u hj => by
          rw [List.getElem?_take] at hj
          split at hj
          · rw [List.getElem?_drop, Array.getElem?_toList] at hj
            rw [addr_add, cell_of_row w g _ cur e (0, 0) h2]
            exact hj
          · cases hj
        have hr := run_append_grow (P := P) w t ty e i z ht hi hz ⟨g, o, none⟩ xs.length cap _ holdl holds b ys.length c news hnl (hnews b rfl) (by omega) (by omega) (growslice_fits (by omega) hbytes)
        have hge := grownCap_ge w (xs.length + ys.length) cap e
        refine ⟨_, _, hr, ?_, rfl, rfl, rfl, by rw [size_alloc]; show w.heap.size ≤ w.heap.size + 1; omega, fun k hk _ => heap_alloc_old w.drew _ k hk⟩
        rw [← List.length_append]
        refine RowR.mk (w := w.drew.alloc _) h0 (heap_alloc_new w.drew _) (.inr (.inr ⟨rfl, by rw [size_alloc]; show w.heap.size < w.heap.size + 1; omega⟩)) (by rw [List.length_append]; exact hge) ?_ hlen' ?_
        · simp only [Array.size_append, List.size_toArray, size_zeroCells, hzs, hnl, holdl, ← Nat.add_mul]
          rw [List.length_append, show xs.length + ys.length + (grownCap w (xs.length + ys.length) cap e - (xs.length + ys.length)) = grownCap w (xs.length + ys.length) cap e by omega]
          omega
        · rw [e0]
          simp only [Array.toList_append, List.drop_zero, List.append_assoc]
          rw [List.flatten_append]
          have e1 : ∀ zz : List Value, ((cur.toList.drop o).take (xs.length * i.size) ++ (news ++ zz)).take (xs.length * i.size + ys.length * i.size) = (cur.toList.drop o).take (xs.length * i.size) ++ news := fun zz => by
            rw [← List.append_assoc]
            exact List.take_left' (by rw [List.length_append, holdl, hnl])
          rw [e1]
          exact (h7.append hE (fun k hk hk' => hd k hk.1 hk')).mono (fun k hk => by
            rcases hk with hk | hk
            · exact ⟨.inl hk.1, fun e => by have := hφ k hk.1; omega⟩
            · exact ⟨.inr (.inl hk), fun e => by have := hθ k hk; omega⟩) (fun k hk => heap_alloc_old w.drew _ k (by
            rcases hk with hk | hk
            · exact hφ k hk.1
            · exact hθ k hk))
end Go.Den

/- Append, by the evaluator. -/
namespace Go.Den
open Go
variable {C : Ctx} {R : Rt} {G G0 : Gh} {st st1 : St} {a : Act} {w w' : World} {o : Oper} {v : SV}

/-- A world in which own blocks alone have turned. -/
theorem winv_turn (H : WInv R w) (hos : w'.os = w.os) (htape : w'.tape = w.tape) (hout : w'.output = w.output) (hs : w.heap.size ≤ w'.heap.size) {φ : Nat → Prop} (hφ : ∀ k, φ k → (R.L k ∨ R.w0.heap.size ≤ k) ∧ ∀ lo hi, ¬ R.LB k lo hi) (hw : ∀ k, k < w.heap.size → ¬ φ k → w'.heap[k]? = w.heap[k]?) : WInv R w' where
  os := hos.trans H.os
  tape := htape.trans H.tape
  output := hout.trans H.output
  size := Nat.le_trans H.size hs
  T := H.T
  old := fun k hk hL => (hw k (Nat.lt_of_lt_of_le hk H.size) (fun h => by rcases (hφ k h).1 with h | h; exact hL h; omega)).trans (H.old k hk hL)
  out := fun k lo hi h => by
    obtain ⟨c, c0, e, fz, h1, h2, h3, h4⟩ := H.out k lo hi h
    exact ⟨c, c0, e, fz, h1, by rw [hw k (Array.getElem?_eq_some_iff.1 h2).1 (fun hk => (hφ k hk).2 lo hi h)]; exact h2, h3, h4⟩

theorem doing_append {args : Array Operand} {ts : Array TypeId} {s : Nat} (H : Inv C R G st a w) (ho : o.op = .call { callee := .builtin .append, args := args, argTypes := ts }) (h : heavy C st s o.op = some (true, v, st1)) : Doing C R G st a w o v st1 := by
  rw [ho] at h
  simp only [heavy] at h
  split at h
  · rename_i t t' x y hts hevs
    have hargs : ∃ p q, args = #[p, q] ∧ ev C st [] p = x ∧ ev C st [] q = y := by
      have hl := evs_length (C := C) (st := st) (p := []) args.toList
      rw [hevs] at hl
      match hargs : args.toList, hl with
      | [p, q], _ =>
        rw [hargs] at hevs
        simp only [evs, List.cons.injEq, and_true] at hevs
        exact ⟨p, q, by rw [← Array.toList_inj, hargs], hevs.1, hevs.2⟩
    obtain ⟨p, q, rfl, hp, hq⟩ := hargs
    have hts' : ts = #[t, t'] := by rw [← Array.toList_inj, hts]
    subst hts'
    split at h
    · rename_i el el' ht ht'
      split at h
      · rename_i hsm
        split at h
        · rename_i zs hz
          split at h
          · rename_i ok ys st2 hsrc
            obtain ⟨hz1, hpos, hE⟩ := elz_ok hz
            obtain ⟨i, z, h1, h2, h3, h4, h5, h6⟩ := ty_zero hz1
            obtain ⟨_, _, hu, _⟩ := ty_sl ht
            obtain ⟨_, _, hu', _⟩ := ty_sl ht'
            obtain ⟨i', h1', hb⟩ := small_ok hsm
            rw [h1] at h1'; cases h1'
            -- the run, once the row is known
            have go : ∀ {xs : List (List D)} {φ : Nat → Prop} {G1 : Gh} {θ : Nat → Prop} {news : List Value}, SrcOk C R G st a w zs.length (a.eval q) ys st2 G1 θ news → RowR w el zs.length φ xs (a.eval p) → xs.length + ys.length ≤ lim → (∀ k, φ k → k < w.heap.size ∧ (R.L k ∨ R.w0.heap.size ≤ k) ∧ ∀ lo hi, ¬ R.LB k lo hi) → (∀ k, φ k → θ k → False) →
                ∃ v' w', (execOp a.eval o).run C.P w = .ok (.value v') w' ∧ RowR w' el zs.length (fun k => φ k ∨ θ k ∨ (k = w.heap.size ∧ k < w'.heap.size)) (xs ++ ys) v' ∧ WInv R w' ∧ w.heap.size ≤ w'.heap.size ∧ (∀ k, k < w.heap.size → ¬ φ k → w'.heap[k]? = w.heap[k]?) ∧
                  (∀ k, (φ k ∨ θ k ∨ (k = w.heap.size ∧ k < w'.heap.size)) → k < w'.heap.size ∧ (R.L k ∨ R.w0.heap.size ≤ k) ∧ ∀ lo hi, ¬ R.LB k lo hi) ∧ w'.os = w.os ∧ w'.tape = w.tape ∧ w'.output = w.output := by
              intro xs φ G1 θ news hS hrow hlim hφ hd
              obtain ⟨A, c, hv, hA, hnews⟩ := hS.val
              obtain ⟨v', w', r1, r2, r3, r4, r5, r6, r7⟩ := run_append (P := C.P) (w := w) (ty := o.type) (c := c) hu hu' h1 h2 h3 h4 hpos hb hlim hrow hA hnews hS.els hS.len (fun k hk => (hφ k hk).1) (fun k hk => (hS.mine k hk).1) hd
              refine ⟨v', w', ?_, r2, winv_turn H.W r3 r4 r5 r6 (fun k hk => (hφ k hk).2) r7, r6, r7, fun k hk => ?_, r3, r4, r5⟩
              · simp [execOp, ho, resolve, invoke, builtin, hv, r1]
              · rcases hk with hk | hk | ⟨rfl, hk⟩
                · exact ⟨Nat.lt_of_lt_of_le (hφ k hk).1 r6, (hφ k hk).2⟩
                · exact ⟨Nat.lt_of_lt_of_le (hS.mine k hk).1 r6, (hS.mine k hk).2⟩
                · exact ⟨hk, (new_block H).1, (new_block H).2.1⟩
            split at h
            · -- to an own row
              rename_i n
              split at h
              · rename_i e sz xs hrow
                split at h
                · rename_i hes
                  obtain ⟨rfl, rfl⟩ := hes
                  simp only [Option.some.injEq, Prod.mk.injEq, Bool.and_eq_true, decide_eq_true_eq] at h
                  obtain ⟨⟨rfl, hlim⟩, rfl, rfl⟩ := h
                  obtain ⟨G1, θ, news, hS⟩ := source_sound H (H.evE hq) hpos hsrc
                  obtain ⟨hlive, hpv, _⟩ := H.evE hp
                  have hl1 := hS.has.live hlive hrow
                  obtain ⟨b, hb', hbr⟩ := hS.inv.B.rel n hl1 id
                  rw [hrow] at hb'; cases hb'
                  obtain ⟨r1, r2, r3, r4⟩ := hbr
                  have hmn := hS.inv.B.mine n hl1 id
                  rw [← hS.gle.2.2.1] at hpv
                  obtain ⟨v', w', k1, k2, k3, k4, k5, k6, _⟩ := go hS (by rw [hpv]; exact r1) hlim (fun k hk => ⟨(hmn k hk).1, (hmn k hk).2, fun lo hi => r4 k lo hi hk⟩) (fun k hk hk' => hS.apart k n hk' hl1 hk)
                  intro K Q hK
                  unfold Oper.wp
                  rw [k1]
                  obtain ⟨j1, j2, j3⟩ := turn_row (xs' := xs ++ ys) (v := v') (ψ := fun k => G1.φ n k ∨ θ k ∨ (k = w.heap.size ∧ k < w'.heap.size)) hS.inv hl1 hrow k3 k4 (fun m hm hmn' k hk => k5 k (hS.inv.B.mine m hm id k hk).1 (fun hk' => hS.inv.B.disj m n hm id hl1 id hmn' k hk hk')) k2 k6 (fun k m hk hm hmn' hφ => by
                    rcases hk with hk | hk | ⟨rfl, _⟩
                    · exact hS.inv.B.disj n m hl1 id hm id (Ne.symm hmn') k hk hφ
                    · exact hS.apart k m hk hm hφ
                    · exact (new_block hS.inv).2.2 m hm hφ)
                  exact hK _ _ _ j1 j2 (hS.fr.trans j3)
                · cases h
              · cases h
            · -- to nil
              rw [Option.map_eq_some_iff] at h
              obtain ⟨st3, ha, h⟩ := h
              simp only [Prod.mk.injEq, Bool.and_eq_true, decide_eq_true_eq] at h
              obtain ⟨⟨rfl, hlim⟩, rfl, rfl⟩ := h
              obtain ⟨G1, θ, news, hS⟩ := source_sound H (H.evE hq) hpos hsrc
              have hpv : a.eval p = .slice none 0 0 := H.evE hp
              obtain ⟨hnone, rfl⟩ := adds_one ha
              obtain ⟨v', w', k1, k2, k3, k4, k5, k6, k7, k8, k9⟩ := go (xs := []) (φ := fun _ => False) hS (by rw [hpv]; exact .inl ⟨rfl, rfl⟩) (by simpa using hlim) (fun k hk => hk.elim) (fun k hk => hk.elim)
              intro K Q hK
              unfold Oper.wp
              rw [k1]
              obtain ⟨j1, j2, j3⟩ := new_row (xs := ys) (v := v') (ψ := fun k => False ∨ θ k ∨ (k = w.heap.size ∧ k < w'.heap.size)) hS.inv ⟨k7, k8, k9, k4, fun k hk => k5 k hk id⟩ hnone k2 hE k6 (fun k m hk hm hφ => by
                rcases hk with hk | hk | ⟨rfl, _⟩
                · exact hk
                · exact hS.apart k m hk hm hφ
                · exact (new_block hS.inv).2.2 m hm hφ)
              exact hK _ _ _ j1 j2 (hS.fr.trans j3)
            · cases h
          · cases h
        · cases h
      · cases h
    · cases h
  · cases h
end Go.Den

/- What a call hands over. -/
namespace Go.Den
open Go
variable {C : Ctx} {R : Rt} {G G0 : Gh} {st st1 : St} {a : Act} {w w' : World} {o : Oper} {v : SV}

/-- A variable is out of hand. -/
theorem suspend_inv {S : Nat → Prop} {n : Nat} {cs : List SV} (H : InvS S C R G st a w) (hb : hlk st.h n = some (.box cs)) :
    InvS (fun k => S k ∨ k = n) C R G { st with h := hdel st.h n } a w ∧ Has G st.h G (hdel st.h n) ∧ (G.live n → Fr G st.h G (hdel st.h n)) := by
  have hs : ∀ k, Same G st.h G (hdel st.h n) k := fun k hk => ⟨hk, rfl, rfl, fun e sz xs hx => ⟨xs, by rw [hlk_hdel, if_neg (fun e => by subst e; rw [hb] at hx; cases hx)]; exact hx⟩⟩
  refine ⟨⟨H.W, ⟨fun k hk hS => ?_, fun k m hk hkS hm hmS => H.B.disj k m hk (fun h => hkS (.inl h)) hm (fun h => hmS (.inl h)), fun k hk hS => H.B.mine k hk (fun h => hS (.inl h)), fun k b' hf => ?_⟩, fun k b hk => ?_, fun t => slot_same hs (H.slots t), H.l, H.m⟩, fun k b hk => ?_, fun hl m xs ⟨h1, h2, h3⟩ => ?_⟩
  · obtain ⟨b, h1, h2⟩ := H.B.rel k hk (fun h => hS (.inl h))
    exact ⟨b, by show hlk (hdel st.h n) k = _; rw [hlk_hdel, if_neg (fun e => hS (.inr e))]; exact h1, brel_same hs rfl rfl rfl h2⟩
  · obtain ⟨h1, h2, h3⟩ := H.B.fix k b' hf
    refine ⟨h1, h2, fun hS => ?_⟩
    obtain ⟨ds, hc⟩ := h3 (fun h => hS (.inl h))
    exact ⟨ds, by show hlk (hdel st.h n) k = _; rw [hlk_hdel, if_neg (fun e => hS (.inr e))]; exact hc⟩
  · have hk' : hlk (hdel st.h n) k = some b := hk
    rw [hlk_hdel] at hk'
    split at hk'
    · cases hk'
    · rename_i hkn
      rintro (h | h)
      · exact H.all k b hk' h
      · exact hkn h
  · rw [hlk_hdel] at hk
    split at hk
    · cases hk
    · exact ⟨⟨b, hk⟩, hs k⟩
  · exact ⟨h1, by rw [hlk_hdel, if_neg (show ¬ m = n from fun e => h1 (by rw [e]; exact hl))]; exact h2, h3⟩

/-- One argument that was given away (or none). -/
def GivK (P : Program) (R : Rt) (w : World) (G0 : Gh) : Mode → SV → Value → Option DV → (Nat → Nat → Prop) → (Nat → Nat → Nat → Prop) → Prop
  | .ptr ks, .ptr n off, v, some (.ptr ds), θ, β => ∃ cur e us, v = .pointer (some ⟨(G0.base n).1, (G0.base n).2 + off, none⟩) ∧ w.heap[(G0.base n).1]? = some (.cells cur e (0, 0)) ∧ (∀ k, θ 0 k ↔ k = (G0.base n).1) ∧ (∀ k lo hi, β k lo hi ↔ k = (G0.base n).1 ∧ lo = (G0.base n).2 + off ∧ hi = (G0.base n).2 + off + ks.length) ∧
      (G0.base n).2 + off + ds.length ≤ cur.size ∧ (∀ (j : Nat) u, us[j]? = some u → cur[(G0.base n).2 + off + j]? = some u) ∧ KC P R w ks ds us (fun j => θ (j + 1)) ∧ (∀ lo hi, R.LB (G0.base n).1 lo hi → lo ≤ (G0.base n).2 + off ∧ (G0.base n).2 + off + ks.length ≤ hi)
  | .own ks, .agg _, v, some (.agg ds), θ, β => (∃ us : List Value, v = .agg us.toArray ∧ KC P R w ks ds us (fun j => θ (j + 1))) ∧ (∀ k, ¬ θ 0 k) ∧ ∀ k lo hi, ¬ β k lo hi
  | .own ks, _, v, some (.one d), θ, β => KC P R w ks [d] [v] (fun j => θ (j + 1)) ∧ (∀ k, ¬ θ 0 k) ∧ ∀ k lo hi, ¬ β k lo hi
  | .ptr _, .ptr _ _, _, none, _, _ => False
  | _, _, _, none, θ, β => (∀ j k, ¬ θ j k) ∧ ∀ k lo hi, ¬ β k lo hi
  | _, _, _, _, _, _ => False
def GivsK (P : Program) (R : Rt) (w : World) (G0 : Gh) : List Mode → List SV → List Value → List (Option DV) → (Nat → Nat → Nat → Prop) → (Nat → Nat → Nat → Nat → Prop) → Prop
  | [], [], [], [], Θ, B => (∀ i j k, ¬ Θ i j k) ∧ ∀ i k lo hi, ¬ B i k lo hi
  | m :: ms, x :: xs, v :: vs, r :: rs, Θ, B => GivK P R w G0 m x v r (Θ 0) (B 0) ∧ GivsK P R w G0 ms xs vs rs (fun i => Θ (i + 1)) (fun i => B (i + 1))
  | _, _, _, _, _, _ => False

structure Given (C : Ctx) (R : Rt) (G0 : Gh) (h0 : List (Nat × Blk)) (S : Nat → Prop) (G : Gh) (st : St) (a : Act) (w : World) (ms : List Mode) (xs : List SV) (vs : List Value) (r : List (Option DV)) (st' : St) (G' : Gh) (Θ : Nat → Nat → Nat → Prop) (B : Nat → Nat → Nat → Nat → Prop) : Prop where
  inv : InvS (fun n => S n ∨ n ∈ lentN ms xs) C R G' st' a w
  gle : Gle G' G
  has : Has G0 h0 G' st'.h
  givs : GivsK C.P R w G0 ms xs vs r Θ B
  mine : ∀ i j k, Θ i j k → k < w.heap.size ∧ (R.L k ∨ R.w0.heap.size ≤ k)
  lb : ∀ i j k, Θ i (j + 1) k → ∀ lo hi, ¬ R.LB k lo hi
  apart : Apart3 Θ
  src : ∀ i j k, Θ i j k → ∃ n, (G.live n ∧ ¬ S n) ∧ G.φ n k
  sep : ∀ i j k n, Θ i j k → G'.live n → ¬ (S n ∨ n ∈ lentN ms xs) → G'.φ n k → False
  blk : ∀ i k lo hi, B i k lo hi → Θ i 0 k ∧ ∃ cur e, w.heap[k]? = some (.cells cur e (0, 0))
  box : ∀ i k, Θ i 0 k → ∃ lo hi, B i k lo hi ∧ ∀ lo' hi', R.LB k lo' hi' → lo' ≤ lo ∧ hi ≤ hi'
  fr : Fr G st.h G' st'.h
  live : ∀ n, G.live n → (S n ∨ n ∈ lentN ms xs) → G'.live n
  lent : ∀ n ∈ lentN ms xs, G.live n ∧ ∃ cs, hlk st.h n = some (.box cs)
  nodup : (lentN ms xs).Nodup

/-- One argument in front. -/
def consT (θ : Nat → Nat → Prop) (Θ : Nat → Nat → Nat → Prop) : Nat → Nat → Nat → Prop := fun i => match i with | 0 => θ | i + 1 => Θ i
def consB (β : Nat → Nat → Nat → Prop) (B : Nat → Nat → Nat → Nat → Prop) : Nat → Nat → Nat → Nat → Prop := fun i => match i with | 0 => β | i + 1 => B i
theorem Given.cons {S S1 : Nat → Prop} {h0 : List (Nat × Blk)} {G1 G' : Gh} {st2 st' : St} {m : Mode} {x : SV} {u : Value} {d : Option DV} {ms : List Mode} {xs : List SV} {vs : List Value} {r : List (Option DV)} {θ : Nat → Nat → Prop} {β : Nat → Nat → Nat → Prop} {Θ : Nat → Nat → Nat → Prop} {B : Nat → Nat → Nat → Nat → Prop}
    (K : Given C R G0 h0 S1 G1 st2 a w ms xs vs r st' G' Θ B) (hS : ∀ n, (S1 n ∨ n ∈ lentN ms xs) ↔ (S n ∨ n ∈ lentN (m :: ms) (x :: xs))) (hS1 : ∀ n, S n → S1 n) (hgle : Gle G1 G) (hg : GivK C.P R w G0 m x u d θ β)
    (hm : ∀ j k, θ j k → k < w.heap.size ∧ (R.L k ∨ R.w0.heap.size ≤ k)) (hlb : ∀ j k, θ (j + 1) k → ∀ lo hi, ¬ R.LB k lo hi) (hap : ∀ j j' k, θ j k → θ j' k → j = j') (hsrc : ∀ j k, θ j k → ∃ n, (G.live n ∧ ¬ S n) ∧ G.φ n k)
    (hsep : ∀ j k n, θ j k → G1.live n → ¬ S1 n → G1.φ n k → False) (hblk : ∀ k lo hi, β k lo hi → θ 0 k ∧ ∃ cur e, w.heap[k]? = some (.cells cur e (0, 0))) (hbox : ∀ k, θ 0 k → ∃ lo hi, β k lo hi ∧ ∀ lo' hi', R.LB k lo' hi' → lo' ≤ lo ∧ hi ≤ hi')
    (hfr : Fr G st.h G1 st2.h) (hlive : ∀ n, G.live n → S1 n → G1.live n) (hlent : ∀ n ∈ lentN (m :: ms) (x :: xs), n ∈ lentN ms xs ∨ (S1 n ∧ G.live n ∧ ∃ cs, hlk st.h n = some (.box cs))) (hback : ∀ n ∈ lentN ms xs, G1.live n → ∀ cs, hlk st2.h n = some (.box cs) → ∃ cs', hlk st.h n = some (.box cs')) (hnd : (lentN (m :: ms) (x :: xs)).Nodup) (hlv : ∀ n, n ∈ lentN ms xs → G.live n → G1.live n) :
    Given C R G0 h0 S G st a w (m :: ms) (x :: xs) (u :: vs) (d :: r) st' G' (consT θ Θ) (consB β B) where
  inv := by
    have := K.inv
    have e : (fun n => S1 n ∨ n ∈ lentN ms xs) = fun n => S n ∨ n ∈ lentN (m :: ms) (x :: xs) := funext fun n => propext (hS n)
    rw [e] at this
    exact this
  gle := K.gle.trans hgle
  has := K.has
  givs := ⟨hg, K.givs⟩
  mine := fun i j k h => by cases i with | zero => exact hm j k h | succ i => exact K.mine i j k h
  lb := fun i j k h => by cases i with | zero => exact hlb j k h | succ i => exact K.lb i j k h
  apart := fun i j i' j' k h h' => by
    have cross : ∀ {i j j' : Nat}, θ j k → Θ i j' k → False := fun h1 h2 => by
      obtain ⟨n, h3, h4⟩ := K.src _ _ _ h2
      exact hsep _ k n h1 h3.1 h3.2 h4
    cases i with
    | zero =>
      cases i' with
      | zero => exact ⟨rfl, hap j j' k h h'⟩
      | succ i' => exact (cross h h').elim
    | succ i =>
      cases i' with
      | zero => exact (cross h' h).elim
      | succ i' => obtain ⟨h1, h2⟩ := K.apart i j i' j' k h h'; exact ⟨by omega, h2⟩
  src := fun i j k h => by
    cases i with
    | zero => exact hsrc j k h
    | succ i => obtain ⟨n, h1, h2⟩ := K.src i j k h; exact ⟨n, ⟨hgle.1 n h1.1, fun e => h1.2 (hS1 n e)⟩, by rw [← hgle.2.2.2]; exact h2⟩
  sep := fun i j k n h hn hSn hφ => by
    have hSn' := fun e => hSn ((hS n).1 e)
    cases i with
    | zero => exact hsep j k n h (K.gle.1 n hn) (fun e => hSn' (.inl e)) (by rw [← K.gle.2.2.2]; exact hφ)
    | succ i => exact K.sep i j k n h hn hSn' hφ
  blk := fun i k lo hi h => by cases i with | zero => exact hblk k lo hi h | succ i => exact K.blk i k lo hi h
  box := fun i k h => by cases i with | zero => exact hbox k h | succ i => exact K.box i k h
  fr := hfr.trans K.fr
  live := fun n hn hSn => by
    have h1 := (hS n).2 hSn
    rcases h1 with h1 | h1
    · exact K.live n (hlive n hn h1) (.inl h1)
    · exact K.live n (hlv n h1 hn) (.inr h1)
  lent := fun n hn => by
    rcases hlent n hn with h | ⟨_, h⟩
    · obtain ⟨h1, cs, h2⟩ := K.lent n h
      exact ⟨hgle.1 n h1, hback n h h1 cs h2⟩
    · exact h
  nodup := hnd

theorem one_cells {u : Value} (h : u.oneCell' = true) : u.cells = #[u] := by cases u <;> first | rfl | cases h
theorem vrel_one {h : List (Nat × Blk)} {x : SV} {u : Value} (hx : VRel R G h x u) (hok : okSV x = true) (hna : ∀ cs, x ≠ .agg cs) : u.oneCell' = true ∧ cellsOf x = [x] := by
  cases x with
  | d x => exact ⟨hx.one, rfl⟩
  | nils => exact ⟨by rw [show u = .slice none 0 0 from hx]; rfl, rfl⟩
  | own n => exact ⟨hx.2.2, rfl⟩
  | ptr n q => exact ⟨by rw [hx.2]; rfl, rfl⟩
  | nilp => exact ⟨by rw [show u = .pointer none from hx]; rfl, rfl⟩
  | pv c q => obtain ⟨g, o, h1, _⟩ := hx; exact ⟨by rw [h1]; rfl, rfl⟩
  | rp n i q => obtain ⟨_, e, sz, xs, _, g, o, len, cap, _, h1⟩ := hx; exact ⟨by rw [h1]; rfl, rfl⟩
  | agg cs => exact absurd rfl (hna cs)
  | tup vs => cases hok
  | fn f => exact ⟨by rw [show u = .func (.func f) #[] #[] from hx]; rfl, rfl⟩
  | undef => cases hok
theorem takeK_ok {ks : List (Option (Nat × Nat))} {x : SV} {r : List D × St} (h : takeK st ks (cellsOf x) = some r) : okSV x = true := by
  cases x <;> first | rfl | skip
  all_goals
    cases ks with
    | nil => simp [cellsOf, takeK] at h
    | cons k ks => cases k <;> simp [cellsOf, takeK] at h
/-- Blocks behind cells, with none in front. -/
def behind (θ : Nat → Nat → Prop) (b : Nat → Prop) : Nat → Nat → Prop := fun j => match j with | 0 => b | j + 1 => θ j

theorem given_own {S : Nat → Prop} {h0 : List (Nat × Blk)} {ks : List (Option (Nat × Nat))} {x : SV} {u : Value} {d : DV} {ms : List Mode} {xs : List SV} {vs : List Value} {r : List (Option DV)} {st' : St} {G' : Gh} {G1 : Gh} {θ : Nat → Nat → Prop} {Θ : Nat → Nat → Nat → Prop} {B : Nat → Nat → Nat → Nat → Prop}
    (i1 : InvS S C R G1 st1 a w) (i2 : Gle G1 G) (i8 : Has G st.h G1 st1.h) (i4 : Mine R w θ) (i5 : Apart θ) (i6 : ∀ j k, θ j k → ∃ n, (G.live n ∧ ¬ S n) ∧ G.φ n k) (i7 : ∀ j k n, θ j k → G1.live n → ¬ S n → G1.φ n k → False) (i9 : Fr G st.h G1 st1.h) (i10 : ∀ m, G.live m → S m → G1.live m)
    (hg : GivK C.P R w G0 (.own ks) x u (some d) (behind θ fun _ => False) (fun _ _ _ => False))
    (K : Given C R G0 h0 S G1 st1 a w ms xs vs r st' G' Θ B) : Given C R G0 h0 S G st a w (.own ks :: ms) (x :: xs) (u :: vs) (some d :: r) st' G' (consT (behind θ fun _ => False) Θ) (consB (fun _ _ _ => False) B) := by
  have hl : lentN (.own ks :: ms) (x :: xs) = lentN ms xs := by cases x <;> rfl
  refine K.cons (fun n => by rw [hl]) (fun _ h => h) i2 hg (fun j k h => ?_) (fun j k h => ?_) (fun j j' k h h' => ?_) (fun j k h => ?_) (fun j k n h => ?_) (fun _ _ _ h => h.elim) (fun _ h => h.elim) i9 i10 (fun n hn => .inl (by rw [hl] at hn; exact hn)) (fun n hn hl1 cs hb => ?_) (by rw [hl]; exact K.nodup) (fun n hn _ => (K.lent n hn).1)
  · cases j with | zero => exact h.elim | succ j => exact ⟨(i4 j k h).1, (i4 j k h).2.1⟩
  · exact (i4 j k h).2.2
  · cases j with
    | zero => exact h.elim
    | succ j => cases j' with | zero => exact h'.elim | succ j' => rw [i5 j j' k h h']
  · cases j with | zero => exact h.elim | succ j => exact i6 j k h
  · cases j with | zero => exact h.elim | succ j => exact i7 j k n h
  · obtain ⟨⟨b, hb0⟩, hs⟩ := i8 n _ hb
    cases b with
    | box cs' => exact ⟨cs', hb0⟩
    | row e sz ys =>
      obtain ⟨_, _, _, h4⟩ := hs (i2.1 n hl1)
      obtain ⟨zs, hz⟩ := h4 e sz ys hb0
      rw [hb] at hz; cases hz

theorem given_none {S : Nat → Prop} {h0 : List (Nat × Blk)} {m : Mode} {x : SV} {u : Value} {ms : List Mode} {xs : List SV} {vs : List Value} {r : List (Option DV)} {st' : St} {G' : Gh} {Θ : Nat → Nat → Nat → Prop} {B : Nat → Nat → Nat → Nat → Prop} (H : InvS S C R G st a w) (hl : lentN (m :: ms) (x :: xs) = lentN ms xs)
    (hg : GivK C.P R w G0 m x u none (fun _ _ => False) (fun _ _ _ => False)) (K : Given C R G0 h0 S G st a w ms xs vs r st' G' Θ B) : Given C R G0 h0 S G st a w (m :: ms) (x :: xs) (u :: vs) (none :: r) st' G' (consT (fun _ _ => False) Θ) (consB (fun _ _ _ => False) B) :=
  K.cons (fun n => by rw [hl]) (fun _ h => h) (Gle.refl G) hg (fun _ _ h => h.elim) (fun _ _ h => h.elim) (fun _ _ _ h => h.elim) (fun _ _ h => h.elim) (fun _ _ _ h => h.elim) (fun _ _ _ h => h.elim) (fun _ h => h.elim) (Fr.refl _ _) (fun _ h _ => h) (fun n hn => .inl (by rw [hl] at hn; exact hn)) (fun n _ _ cs h => ⟨cs, h⟩) (by rw [hl]; exact K.nodup) (fun _ _ h => h)
theorem given_sound {h0 : List (Nat × Blk)} : ∀ (ms : List Mode) (xs : List SV) (vs : List Value) (S : Nat → Prop) (st : St) (G : Gh) (r : List (Option DV)) (st' : St), InvS S C R G st a w → Gle G G0 → Has G0 h0 G st.h → (∀ ks, Mode.ptr ks ∈ ms ∨ Mode.own ks ∈ ms → KOk C.P ks) → ValsAt R G0 h0 xs vs → given st ms xs = some (r, st') →
    ∃ G' Θ B, Given C R G0 h0 S G st a w ms xs vs r st' G' Θ B
  | [], [], vs, S, st, G, r, st', H, hG, hH, hk, hv, h => by
    simp only [given, Option.some.injEq, Prod.mk.injEq] at h
    obtain ⟨rfl, rfl⟩ := h
    have : vs = [] := List.eq_nil_of_length_eq_zero (by simpa using hv.1)
    subst this
    refine ⟨G, fun _ _ _ => False, fun _ _ _ _ => False, ⟨?_, Gle.refl G, hH, ⟨fun _ _ _ h => h, fun _ _ _ _ h => h⟩, fun _ _ _ h => h.elim, fun _ _ _ h => h.elim, fun _ _ _ _ _ h => h.elim, fun _ _ _ h => h.elim, fun _ _ _ _ h => h.elim, fun _ _ _ _ h => h.elim, fun _ _ h => h.elim, Fr.refl _ _, fun n hn _ => hn, fun n hn => by simp [lentN] at hn, by simp [lentN]⟩⟩
    have e : (fun n => S n ∨ n ∈ lentN [] []) = S := funext fun n => propext ⟨fun h => h.elim id (fun h => by simp [lentN] at h), .inl⟩
    rw [e]; exact H
  | .own ks :: ms, x :: xs, vs, S, st, G, r, st', H, hG, hH, hk, hv, h => by
    obtain ⟨u, vs', rfl, h1, hv'⟩ := hv.tail
    simp only [given] at h
    split at h
    · rename_i ds st1 htk
      split at h
      · rename_i r1 st2 hrec
        have hok := takeK_ok htk
        obtain ⟨c1, c2⟩ := cells_ok h1 hok
        obtain ⟨G1, θ, i1, i2, i8, i3, i4, i5, i6, i7, i9, i10, i11⟩ := takeK_sound ks (cellsOf x) u.cells.toList st G ds st1 H hG hH (fun e sz hm => hk ks (.inr (by simp)) e sz hm) ⟨by simpa using c1, fun j y hj => by obtain ⟨q, k1, k2, k3⟩ := c2 j y hj; exact ⟨q, by simpa using k1, k2, k3⟩⟩ htk
        obtain ⟨G', Θ, B, K⟩ := given_sound ms xs vs' S st1 G1 r1 st2 i1 (i2.trans hG) i8 (fun ks' hm => hk ks' (by rcases hm with hm | hm; exact .inl (by simp [hm]); exact .inr (by simp [hm]))) hv' hrec
        split at h
        · rename_i cs
          cases h
          obtain ⟨us, hus, _⟩ := agg_cells h1
          subst hus
          have i3' : KC C.P R w ks ds us θ := by simpa [Value.cells] using i3
          exact ⟨G', _, _, given_own i1 i2 i11 i4 i5 i6 i7 i9 i10 ⟨⟨us, rfl, i3'⟩, fun k h => h, fun k lo hi h => h⟩ K⟩
        · rename_i d hna
          cases h
          obtain ⟨o1, o2⟩ := vrel_one h1 hok hna
          rw [one_cells o1] at i3
          refine ⟨G', _, _, given_own (d := .one d) i1 i2 i11 i4 i5 i6 i7 i9 i10 ?_ K⟩
          cases x <;> first | exact absurd rfl (hna _) | exact ⟨i3, fun k h => h, fun k lo hi h => h⟩
        · cases h
      · cases h
    · cases h
  | .ptr ks :: ms, .ptr n off :: xs, vs, S, st, G, r, st', H, hG, hH, hk, hv, h => by
    obtain ⟨u, vs', rfl, h1, hv'⟩ := hv.tail
    simp only [given] at h
    split at h
    · rename_i cs hbox
      split at h
      · rename_i hlen
        split at h
        · rename_i ds st1 htk
          split at h
          · rename_i r1 st2 hrec
            cases h
            obtain ⟨hl0, hu⟩ := h1
            have hlive := hH.live hl0 hbox
            have hnS := H.all n _ hbox
            obtain ⟨b, hb', hbr⟩ := H.B.rel n hlive hnS
            rw [hbox] at hb'; cases hb'
            obtain ⟨cur, e, r1', r2, r3, r4, r5⟩ := hbr
            have hbase : G0.base = G.base := hG.2.1.symm
            obtain ⟨H1, hHas1, hfr1⟩ := suspend_inv H hbox
            have hus : CellsAt R G st.h ((cs.drop off).take ks.length) ((cur.toList.drop ((G.base n).2 + off)).take ks.length) ∧ ∀ (j : Nat) u, ((cur.toList.drop ((G.base n).2 + off)).take ks.length)[j]? = some u → cur[(G.base n).2 + off + j]? = some u := by
              refine ⟨⟨by simp; omega, fun j y hj => ?_⟩, fun j u hj => ?_⟩
              · rw [List.getElem?_take] at hj
                split at hj
                · rename_i hjs
                  rw [List.getElem?_drop] at hj
                  obtain ⟨q, k2, k3, k4⟩ := r5 (off + j) y hj
                  refine ⟨q, ?_, k3, k4⟩
                  rw [List.getElem?_take, if_pos hjs, List.getElem?_drop, Nat.add_assoc]
                  simpa using k2
                · cases hj
              · rw [List.getElem?_take] at hj
                split at hj
                · rw [List.getElem?_drop] at hj; simpa using hj
                · cases hj
            obtain ⟨G1, θ, i1, i2, i8, i3, i4, i5, i6, i7, i9, i10, i11⟩ := takeK_sound (G0 := G) (h0 := st.h) ks _ _ _ G ds st1 H1 (Gle.refl G) hHas1 (fun e sz hm => hk ks (.inl (by simp)) e sz hm) hus.1 htk
            obtain ⟨G', Θ, B, K⟩ := given_sound ms xs vs' (fun k => S k ∨ k = n) st1 G1 r1 st' i1 (i2.trans hG) (hH.trans i8) (fun ks' hm => hk ks' (by rcases hm with hm | hm; exact .inl (by simp [hm]); exact .inr (by simp [hm]))) hv' hrec
            have hkl : ks.length = ds.length := i3.1
            have hnn : n ∉ lentN ms xs := fun hn => by
              obtain ⟨_, cs', hc⟩ := K.lent n hn
              exact i1.all n _ hc (.inr rfl)
            refine ⟨G', _, _, K.cons (θ := behind θ (· = (G.base n).1)) (β := fun k lo hi => k = (G.base n).1 ∧ lo = (G.base n).2 + off ∧ hi = (G.base n).2 + off + ks.length) (fun m => ?_) (fun _ h => .inl h) i2 ?_ (fun j k h => ?_) (fun j k h => ?_) (fun j j' k h h' => ?_) (fun j k h => ?_) (fun j k m h hm hS hφ => ?_) (fun k lo hi h => ⟨h.1, cur, e, by rw [h.1]; exact r1'⟩) (fun k h => ⟨_, _, ⟨h, rfl, rfl⟩, fun lo' hi' hlb => ?_⟩) ((hfr1 hlive).trans i9) i10 (fun m hm => ?_) (fun m hm hl1 cs' hb => ?_) ?_ (fun m hm _ => (K.lent m hm).1)⟩
            · simp only [lentN, List.mem_cons]
              constructor
              · rintro ((h | h) | h); exact .inl h; exact .inr (.inl h); exact .inr (.inr h)
              · rintro (h | h | h); exact .inl (.inl h); exact .inl (.inr h); exact .inr h
            · refine ⟨cur, e, _, by rw [hbase]; rw [hbase] at hu; exact hu, by rw [hbase]; exact r1', fun k => by rw [hbase]; rfl, fun k lo hi => by rw [hbase], by rw [hbase]; omega, by rw [hbase]; exact hus.2, i3, fun lo hi hlb => ?_⟩
              rw [hbase] at hlb ⊢
              obtain ⟨q1, q2⟩ := r3 lo hi hlb
              omega
            · cases j with
              | zero => rw [show k = (G.base n).1 from h]; exact H.B.mine n hlive hnS _ r2
              | succ j => exact ⟨(i4 j k h).1, (i4 j k h).2.1⟩
            · exact (i4 j k h).2.2
            · have cross : ∀ {j : Nat}, k = (G.base n).1 → θ j k → False := fun e1 e2 => by
                obtain ⟨m, m1, m2⟩ := i6 _ _ e2
                subst e1
                exact H.B.disj n m hlive hnS m1.1 (fun h => m1.2 (.inl h)) (fun e => m1.2 (.inr e.symm)) _ r2 m2
              cases j with
              | zero =>
                cases j' with
                | zero => rfl
                | succ j' => exact (cross h h').elim
              | succ j =>
                cases j' with
                | zero => exact (cross h' h).elim
                | succ j' => rw [i5 j j' k h h']
            · cases j with
              | zero => exact ⟨n, ⟨hlive, hnS⟩, by rw [show k = (G.base n).1 from h]; exact r2⟩
              | succ j => obtain ⟨m, m1, m2⟩ := i6 j k h; exact ⟨m, ⟨m1.1, fun e => m1.2 (.inl e)⟩, m2⟩
            · cases j with
              | zero =>
                have hk' : k = (G.base n).1 := h
                subst hk'
                rw [i2.2.2.2] at hφ
                exact H.B.disj n m hlive hnS (i2.1 m hm) (fun h => hS (.inl h)) (fun e => hS (.inr e.symm)) _ r2 hφ
              | succ j => exact i7 j k m h hm hS hφ
            · rw [show k = (G.base n).1 from h] at hlb
              obtain ⟨q1, q2⟩ := r3 lo' hi' hlb
              omega
            · simp only [lentN, List.mem_cons] at hm
              rcases hm with rfl | hm
              · exact .inr ⟨.inr rfl, hlive, cs, hbox⟩
              · exact .inl hm
            · obtain ⟨⟨b, hb0⟩, hs⟩ := i8 m _ hb
              cases b with
              | box cs'' => exact ⟨cs'', hb0⟩
              | row e sz ys =>
                obtain ⟨_, _, _, h4⟩ := hs (i2.1 m hl1)
                obtain ⟨zs, hz⟩ := h4 e sz ys hb0
                rw [hb] at hz; cases hz
            · simp only [lentN, List.nodup_cons]
              exact ⟨hnn, K.nodup⟩
          · cases h
        · cases h
      · cases h
    · cases h
  | .bor :: ms, x :: xs, vs, S, st, G, r, st', H, hG, hH, hk, hv, h => by
    obtain ⟨u, vs', rfl, _, hv'⟩ := hv.tail
    simp only [given] at h
    split at h
    · rename_i r1 st2 hrec
      cases h
      obtain ⟨G', Θ, B, K⟩ := given_sound ms xs vs' S st G r1 st' H hG hH (fun ks' hm => hk ks' (by rcases hm with hm | hm; exact .inl (by simp [hm]); exact .inr (by simp [hm]))) hv' hrec
      exact ⟨G', _, _, given_none H (by rfl) ⟨fun _ _ h => h, fun _ _ _ h => h⟩ K⟩
    · cases h
  | .rptr _ :: ms, x :: xs, vs, S, st, G, r, st', H, hG, hH, hk, hv, h => by
    obtain ⟨u, vs', rfl, _, hv'⟩ := hv.tail
    simp only [given] at h
    split at h
    · rename_i r1 st2 hrec
      cases h
      obtain ⟨G', Θ, B, K⟩ := given_sound ms xs vs' S st G r1 st' H hG hH (fun ks' hm => hk ks' (by rcases hm with hm | hm; exact .inl (by simp [hm]); exact .inr (by simp [hm]))) hv' hrec
      exact ⟨G', _, _, given_none H (by rfl) ⟨fun _ _ h => h, fun _ _ _ h => h⟩ K⟩
    · cases h
  | .ptr _ :: ms, .d _ :: xs, vs, S, st, G, r, st', H, hG, hH, hk, hv, h => by
    obtain ⟨u, vs', rfl, _, hv'⟩ := hv.tail
    simp only [given] at h
    split at h
    · rename_i r1 st2 hrec
      cases h
      obtain ⟨G', Θ, B, K⟩ := given_sound ms xs vs' S st G r1 st' H hG hH (fun ks' hm => hk ks' (by rcases hm with hm | hm; exact .inl (by simp [hm]); exact .inr (by simp [hm]))) hv' hrec
      exact ⟨G', _, _, given_none H (by rfl) ⟨fun _ _ h => h, fun _ _ _ h => h⟩ K⟩
    · cases h
  | .ptr _ :: ms, .nils :: xs, vs, S, st, G, r, st', H, hG, hH, hk, hv, h => by
    obtain ⟨u, vs', rfl, _, hv'⟩ := hv.tail
    simp only [given] at h
    split at h
    · rename_i r1 st2 hrec
      cases h
      obtain ⟨G', Θ, B, K⟩ := given_sound ms xs vs' S st G r1 st' H hG hH (fun ks' hm => hk ks' (by rcases hm with hm | hm; exact .inl (by simp [hm]); exact .inr (by simp [hm]))) hv' hrec
      exact ⟨G', _, _, given_none H (by rfl) ⟨fun _ _ h => h, fun _ _ _ h => h⟩ K⟩
    · cases h
  | .ptr _ :: ms, .own _ :: xs, vs, S, st, G, r, st', H, hG, hH, hk, hv, h => by
    obtain ⟨u, vs', rfl, _, hv'⟩ := hv.tail
    simp only [given] at h
    split at h
    · rename_i r1 st2 hrec
      cases h
      obtain ⟨G', Θ, B, K⟩ := given_sound ms xs vs' S st G r1 st' H hG hH (fun ks' hm => hk ks' (by rcases hm with hm | hm; exact .inl (by simp [hm]); exact .inr (by simp [hm]))) hv' hrec
      exact ⟨G', _, _, given_none H (by rfl) ⟨fun _ _ h => h, fun _ _ _ h => h⟩ K⟩
    · cases h
  | .ptr _ :: ms, .nilp :: xs, vs, S, st, G, r, st', H, hG, hH, hk, hv, h => by
    obtain ⟨u, vs', rfl, _, hv'⟩ := hv.tail
    simp only [given] at h
    split at h
    · rename_i r1 st2 hrec
      cases h
      obtain ⟨G', Θ, B, K⟩ := given_sound ms xs vs' S st G r1 st' H hG hH (fun ks' hm => hk ks' (by rcases hm with hm | hm; exact .inl (by simp [hm]); exact .inr (by simp [hm]))) hv' hrec
      exact ⟨G', _, _, given_none H (by rfl) ⟨fun _ _ h => h, fun _ _ _ h => h⟩ K⟩
    · cases h
  | .ptr _ :: ms, .pv _ _ :: xs, vs, S, st, G, r, st', H, hG, hH, hk, hv, h => by
    obtain ⟨u, vs', rfl, _, hv'⟩ := hv.tail
    simp only [given] at h
    split at h
    · rename_i r1 st2 hrec
      cases h
      obtain ⟨G', Θ, B, K⟩ := given_sound ms xs vs' S st G r1 st' H hG hH (fun ks' hm => hk ks' (by rcases hm with hm | hm; exact .inl (by simp [hm]); exact .inr (by simp [hm]))) hv' hrec
      exact ⟨G', _, _, given_none H (by rfl) ⟨fun _ _ h => h, fun _ _ _ h => h⟩ K⟩
    · cases h
  | .ptr _ :: ms, .rp _ _ _ :: xs, vs, S, st, G, r, st', H, hG, hH, hk, hv, h => by
    obtain ⟨u, vs', rfl, _, hv'⟩ := hv.tail
    simp only [given] at h
    split at h
    · rename_i r1 st2 hrec
      cases h
      obtain ⟨G', Θ, B, K⟩ := given_sound ms xs vs' S st G r1 st' H hG hH (fun ks' hm => hk ks' (by rcases hm with hm | hm; exact .inl (by simp [hm]); exact .inr (by simp [hm]))) hv' hrec
      exact ⟨G', _, _, given_none H (by rfl) ⟨fun _ _ h => h, fun _ _ _ h => h⟩ K⟩
    · cases h
  | .ptr _ :: ms, .agg _ :: xs, vs, S, st, G, r, st', H, hG, hH, hk, hv, h => by
    obtain ⟨u, vs', rfl, _, hv'⟩ := hv.tail
    simp only [given] at h
    split at h
    · rename_i r1 st2 hrec
      cases h
      obtain ⟨G', Θ, B, K⟩ := given_sound ms xs vs' S st G r1 st' H hG hH (fun ks' hm => hk ks' (by rcases hm with hm | hm; exact .inl (by simp [hm]); exact .inr (by simp [hm]))) hv' hrec
      exact ⟨G', _, _, given_none H (by rfl) ⟨fun _ _ h => h, fun _ _ _ h => h⟩ K⟩
    · cases h
  | .ptr _ :: ms, .tup _ :: xs, vs, S, st, G, r, st', H, hG, hH, hk, hv, h => by
    obtain ⟨u, vs', rfl, _, hv'⟩ := hv.tail
    simp only [given] at h
    split at h
    · rename_i r1 st2 hrec
      cases h
      obtain ⟨G', Θ, B, K⟩ := given_sound ms xs vs' S st G r1 st' H hG hH (fun ks' hm => hk ks' (by rcases hm with hm | hm; exact .inl (by simp [hm]); exact .inr (by simp [hm]))) hv' hrec
      exact ⟨G', _, _, given_none H (by rfl) ⟨fun _ _ h => h, fun _ _ _ h => h⟩ K⟩
    · cases h
  | .ptr _ :: ms, .fn _ :: xs, vs, S, st, G, r, st', H, hG, hH, hk, hv, h => by
    obtain ⟨u, vs', rfl, _, hv'⟩ := hv.tail
    simp only [given] at h
    split at h
    · rename_i r1 st2 hrec
      cases h
      obtain ⟨G', Θ, B, K⟩ := given_sound ms xs vs' S st G r1 st' H hG hH (fun ks' hm => hk ks' (by rcases hm with hm | hm; exact .inl (by simp [hm]); exact .inr (by simp [hm]))) hv' hrec
      exact ⟨G', _, _, given_none H (by rfl) ⟨fun _ _ h => h, fun _ _ _ h => h⟩ K⟩
    · cases h
  | .ptr _ :: ms, .undef :: xs, vs, S, st, G, r, st', H, hG, hH, hk, hv, h => by
    obtain ⟨u, vs', rfl, _, hv'⟩ := hv.tail
    simp only [given] at h
    split at h
    · rename_i r1 st2 hrec
      cases h
      obtain ⟨G', Θ, B, K⟩ := given_sound ms xs vs' S st G r1 st' H hG hH (fun ks' hm => hk ks' (by rcases hm with hm | hm; exact .inl (by simp [hm]); exact .inr (by simp [hm]))) hv' hrec
      exact ⟨G', _, _, given_none H (by rfl) ⟨fun _ _ h => h, fun _ _ _ h => h⟩ K⟩
    · cases h
  | [], _ :: _, vs, S, st, G, r, st', H, hG, hH, hk, hv, h => by simp [given] at h
  | m :: _, [], vs, S, st, G, r, st', H, hG, hH, hk, hv, h => by cases m <;> simp [given] at h
end Go.Den

/- The callee's arguments; the caller's world behind the call. -/
namespace Go.Den
open Go
variable {C : Ctx} {R : Rt} {G G0 G1 : Gh} {st st1 : St} {a : Act} {w w' : World} {o : Oper} {v : SV}

theorem KC.sub {P : Program} {S : Nat → Prop} {L : Nat → Prop} {LB : Nat → Nat → Nat → Prop} {ks : List (Option (Nat × Nat))} {ds : List D} {us : List Value} {θ : Nat → Nat → Prop} (hW : WInv R w) (h : KC P R w ks ds us θ) : KC P (R.sub G S w L LB) w ks ds us θ :=
  ⟨h.1, h.2.1, fun j k d u h1 h2 h3 => by
    obtain ⟨h4, h5⟩ := h.2.2 j k d u h1 h2 h3
    refine ⟨h4, ?_⟩
    cases k with
    | none => exact rep_sub hW h5
    | some p => exact h5⟩
theorem scAll_get : ∀ {ks : List (Option (Nat × Nat))} {ds : List D}, scAll ks ds = true → ∀ (j : Nat) d, ks[j]? = some none → ds[j]? = some d → isSc d = true
  | [], ds, h, j, d, hk, hd => by simp at hk
  | k :: ks, [], h, j, d, hk, hd => by simp at hd
  | k :: ks, x :: ds, h, j, d, hk, hd => by
    cases k with
    | none =>
      simp only [scAll, Bool.and_eq_true] at h
      cases j with
      | zero => simp at hd; subst hd; exact h.1
      | succ j => exact scAll_get h.2 j d (by simpa using hk) (by simpa using hd)
    | some p =>
      simp only [scAll] at h
      cases j with
      | zero => simp at hk
      | succ j => exact scAll_get h j d (by simpa using hk) (by simpa using hd)
/-- What came back, in the caller's eyes. -/
theorem KC.back {P : Program} {R' : Rt} {ks : List (Option (Nat × Nat))} {ds : List D} {us : List Value} {θ : Nat → Nat → Prop} (h : KC P R' w ks ds us θ) (hs : scAll ks ds = true) : KC P R w ks ds us θ :=
  ⟨h.1, h.2.1, fun j k d u h1 h2 h3 => by
    obtain ⟨h4, h5⟩ := h.2.2 j k d u h1 h2 h3
    refine ⟨h4, ?_⟩
    cases k with
    | none =>
      have := rep_sc (scAll_get hs j d h1 h2) h5
      rw [this]
      exact rep_dv (scAll_get hs j d h1 h2)
    | some p => exact h5⟩

theorem lent_args {S1 : Nat → Prop} {L : Nat → Prop} {LB : Nat → Nat → Nat → Prop} {h0 : List (Nat × Blk)} (H : InvS S1 C R G1 st1 a w) (hG : Gle G1 G0) (hH : Has G0 h0 G1 st1.h) : ∀ (ms : List Mode) (xs : List SV) (vs : List Value) (rs : List (Option DV)) (ds : List DV) (Θ : Nat → Nat → Nat → Prop) (B : Nat → Nat → Nat → Nat → Prop),
    GivsK C.P R w G0 ms xs vs rs Θ B → ValsAt R G0 h0 xs vs → lent st1 ms xs rs = some ds → (∀ i k lo hi, LB k lo hi → Θ i 0 k → B i k lo hi) → ArgsK C.P (R.sub G1 S1 w L LB) ms ds vs Θ
  | [], [], vs, rs, ds, Θ, B, hg, hv, h, hLB => by
    cases vs with
    | nil => cases rs with
      | nil => simp only [lent, Option.some.injEq] at h; subst h; trivial
      | cons r rs => simp [lent] at h
    | cons v vs => exact absurd hv.1 (by simp)
  | m :: ms, x :: xs, vs, rs, ds, Θ, B, hg, hv, h, hLB => by
    obtain ⟨u, vs', rfl, h1, hv'⟩ := hv.tail
    cases rs with
    | nil => simp [lent] at h
    | cons r rs =>
      obtain ⟨hg1, hg2⟩ := hg
      cases r with
      | none =>
        simp only [lent] at h
        split at h
        · rename_i d hd
          split at h
          · rename_i ds' hds
            cases h
            exact ⟨argOf_sound H hG hH h1 hd (Θ 0), lent_args H hG hH ms xs vs' rs ds' _ _ hg2 hv' hds (fun i => hLB (i + 1))⟩
          · cases h
        · cases h
      | some d =>
        simp only [lent] at h
        split at h
        · rename_i ds' hds
          cases h
          refine ⟨?_, lent_args H hG hH ms xs vs' rs ds' _ _ hg2 hv' hds (fun i => hLB (i + 1))⟩
          cases m with
          | bor => cases x <;> cases d <;> exact hg1.elim
          | rptr sz => cases x <;> cases d <;> exact hg1.elim
          | ptr ks =>
            cases d with
            | one d => cases x <;> exact hg1.elim
            | agg ds => cases x <;> exact hg1.elim
            | ptr ds =>
              cases x with
              | ptr n off =>
                obtain ⟨cur, e, us, k1, k2, k3, k4, k5, k6, k7, k8⟩ := hg1
                refine ⟨(G0.base n).1, (G0.base n).2 + off, cur, e, us, k1, k2, (k3 _).2 rfl, k5, k6, k7.sub H.W, fun lo hi hlb => ?_⟩
                obtain ⟨_, e1, e2⟩ := (k4 _ lo hi).1 (hLB 0 _ lo hi hlb ((k3 _).2 rfl))
                have := k7.1
                omega
              | _ => exact hg1.elim
          | own ks =>
            cases d with
            | one d => cases x <;> exact hg1.1.sub H.W
            | agg ds =>
              cases x with
              | agg cs => obtain ⟨⟨us, k1, k2⟩, _⟩ := hg1; exact ⟨us, k1, k2.sub H.W⟩
              | _ => exact hg1.elim
            | ptr ds => cases x <;> exact hg1.elim
        · cases h
  | [], _ :: _, vs, rs, ds, Θ, B, hg, hv, h, hLB => by cases rs <;> simp [lent] at h
  | _ :: _, [], vs, rs, ds, Θ, B, hg, hv, h, hLB => by cases rs <;> simp [lent] at h

/-- The callee's frame of reference. -/
def calleeR (R : Rt) (G1 : Gh) (S1 : Nat → Prop) (w : World) (Θ : Nat → Nat → Nat → Prop) (B : Nat → Nat → Nat → Nat → Prop) : Rt := R.sub G1 S1 w (fun k => ∃ i j, Θ i j k) (fun k lo hi => ∃ i, B i k lo hi)
theorem pre_call {S : Nat → Prop} {h0 : List (Nat × Blk)} {sg : Sig} {xs : List SV} {vs : List Value} {r : List (Option DV)} {ds : List DV} {Θ : Nat → Nat → Nat → Prop} {B : Nat → Nat → Nat → Nat → Prop} (hG : Gle G G0) (K : Given C R G0 h0 S G st a w sg.ms xs vs r st1 G1 Θ B) (hv : ValsAt R G0 h0 xs vs) (hl : lent st1 sg.ms xs r = some ds) :
    Pre C.P sg (calleeR R G1 (fun n => S n ∨ n ∈ lentN sg.ms xs) w Θ B) ds vs Θ where
  W := {
    os := rfl, tape := rfl, output := rfl, size := Nat.le_refl _
    T := fun k hk => by
      rcases hk with hk | ⟨n, ⟨hn, hS⟩, hk⟩
      · refine ⟨Nat.lt_of_lt_of_le (K.inv.W.T k hk).1 K.inv.W.size, fun ⟨i, j, h⟩ => ?_⟩
        rcases (K.mine i j k h).2 with h2 | h2
        · exact (K.inv.W.T k hk).2 h2
        · have := (K.inv.W.T k hk).1; omega
      · exact ⟨(K.inv.B.mine n hn hS k hk).1, fun ⟨i, j, h⟩ => K.sep i j k n h hn hS hk⟩
    old := fun _ _ _ => rfl
    out := fun k lo hi ⟨i, h⟩ => by
      obtain ⟨_, cur, e, h2⟩ := K.blk i k lo hi h
      exact ⟨cur, cur, e, (0, 0), h2, h2, rfl, fun _ _ => rfl⟩ }
  args := lent_args K.inv (K.gle.trans hG) K.has _ _ _ _ _ _ _ K.givs hv hl (fun i k lo hi ⟨i', h⟩ hk => by
    obtain ⟨h2, _⟩ := K.blk i' k lo hi h
    obtain ⟨rfl, _⟩ := K.apart _ _ _ _ _ h2 hk
    exact h)
  mine := fun i j k h => ⟨(K.mine i j k h).1, i, j, h⟩
  lb := fun i j k h lo hi ⟨i', h'⟩ => by
    obtain ⟨h2, _⟩ := K.blk i' k lo hi h'
    have := (K.apart _ _ _ _ _ h h2).2
    omega
  apart := K.apart
/-- Behind the call the caller's own world stands. -/
theorem winv_call {S : Nat → Prop} {h0 : List (Nat × Blk)} {ms : List Mode} {xs : List SV} {vs : List Value} {r : List (Option DV)} {Θ : Nat → Nat → Nat → Prop} {B : Nat → Nat → Nat → Nat → Prop} (K : Given C R G0 h0 S G st a w ms xs vs r st1 G1 Θ B) (hW : WInv (calleeR R G1 (fun n => S n ∨ n ∈ lentN ms xs) w Θ B) w') :
    WInv R w' ∧ InvS (fun n => S n ∨ n ∈ lentN ms xs) C R G1 st1 a w' := by
  have H := K.inv.W
  have h1 : WInv R w' := {
    os := hW.os.trans H.os, tape := hW.tape.trans H.tape, output := hW.output.trans H.output, size := Nat.le_trans H.size hW.size, T := H.T
    old := fun k hk hL => (hW.old k (Nat.lt_of_lt_of_le hk H.size) (fun ⟨i, j, h⟩ => by rcases (K.mine i j k h).2 with h2 | h2; exact hL h2; omega)).trans (H.old k hk hL)
    out := fun k lo hi hlb => by
      obtain ⟨c, c0, e, fz, q1, q2, q3, q4⟩ := H.out k lo hi hlb
      have hk : k < w.heap.size := (Array.getElem?_eq_some_iff.1 q2).1
      by_cases hL : ∃ i j, Θ i j k
      · obtain ⟨i, j, hij⟩ := hL
        cases j with
        | succ j => exact (K.lb i j k hij lo hi hlb).elim
        | zero =>
          obtain ⟨lo', hi', hB, hbd⟩ := K.box i k hij
          obtain ⟨b1, b2⟩ := hbd lo hi hlb
          obtain ⟨c', c0', e', fz', p1, p2, p3, p4⟩ := hW.out k lo' hi' ⟨i, hB⟩
          have p1' : w.heap[k]? = _ := p1
          rw [q2] at p1'
          cases p1'
          exact ⟨c', c0, e, fz, q1, p2, p3.trans q3, fun o ho => (p4 o (by omega)).trans (q4 o ho)⟩
      · exact ⟨c, c0, e, fz, q1, (hW.old k hk hL).trans q2, q3, q4⟩ }
  exact ⟨h1, inv_world K.inv h1 hW.size (fun n hn hS k hk => hW.old k (K.inv.B.mine n hn hS k hk).1 (fun ⟨i, j, h⟩ => K.sep i j k n h hn hS hk))⟩
end Go.Den

/- What was handed over comes back. -/
namespace Go.Den
open Go
variable {C : Ctx} {R : Rt} {G G0 G1 : Gh} {st st1 : St} {a : Act} {w w' : World} {o : Oper} {v : SV}

theorem adds_append : ∀ (xs ys : List (Nat × Blk)) (st : St), adds st (xs ++ ys) = match adds st xs with | some st1 => adds st1 ys | none => none
  | [], ys, st => rfl
  | (n, b) :: xs, ys, st => by
    simp only [List.cons_append, adds]
    split
    · rfl
    · exact adds_append xs ys _
theorem isIn_mem : ∀ {ns : List Nat} {n : Nat}, isIn ns n = true ↔ n ∈ ns
  | [], n => by simp [isIn]
  | k :: ks, n => by
    simp only [isIn, List.mem_cons]
    by_cases h : k = n
    · simp [h]
    · rw [if_neg h, isIn_mem]
      simp [Ne.symm h]
theorem names_mem : ∀ {h : List (Nat × Blk)} {n : Nat}, n ∈ names h → ∃ b, hlk h n = some b
  | [], n, hn => by simp [names] at hn
  | (k, b) :: r, n, hn => by
    simp only [names, List.mem_cons] at hn
    by_cases hk : k = n
    · exact ⟨b, by simp [hlk, hk]⟩
    · obtain ⟨b', h1⟩ := names_mem (h := r) (hn.resolve_left (fun e => hk e.symm))
      exact ⟨b', by simp [hlk, hk, h1]⟩
theorem freeN_ok {sus : List Nat} : ∀ {new : List (Nat × Blk)}, freeN sus new = true → ∀ p ∈ new, p.1 ∉ sus
  | [], _, p, hp => by simp at hp
  | (n, b) :: r, h, p, hp => by
    simp only [freeN] at h
    split at h
    · cases h
    · rename_i hn
      simp only [List.mem_cons] at hp
      rcases hp with rfl | hp
      · exact fun hm => hn (isIn_mem.2 hm)
      · exact freeN_ok h p hp
theorem keepCs_len (ns : List Nat) : ∀ (cs : List SV), (keepCs ns cs).length = cs.length
  | [] => rfl
  | c :: cs => by simp [keepCs, keepCs_len ns cs]
theorem keepCs_get (ns : List Nat) : ∀ (cs : List SV) (j : Nat), (keepCs ns cs)[j]? = (cs[j]?).map (keepC ns)
  | [], j => by simp [keepCs]
  | c :: cs, 0 => by simp [keepCs]
  | c :: cs, j + 1 => by simp [keepCs, keepCs_get ns cs]
theorem keepC_rel {ns : List Nat} {h0 h : List (Nat × Blk)} {x : SV} {u : Value} (hs : ∀ n ∈ ns, G0.live n → Same G0 h0 G h n) (hx : CRel R G0 h0 x u) : CRel R G h (keepC ns x) u := by
  have hs' : ∀ n, isIn ns n = true → G0.live n → Same G0 h0 G h n := fun n hn => hs n (isIn_mem.1 hn)
  cases x with
  | own n =>
    simp only [keepC]
    split
    · rename_i hn; exact crel_same (x := .own n) (fun m hm => by cases hm; exact hs' n hn hx.1) hx
    · trivial
  | rp n i q =>
    simp only [keepC]
    split
    · rename_i hn; exact crel_same (x := .rp n i q) (fun m hm => by cases hm; exact hs' n hn hx.1) hx
    · trivial
  | ptr n q =>
    simp only [keepC]
    split
    · rename_i hn; exact crel_same (x := .ptr n q) (fun m hm => by cases hm; exact hs' n hn hx.1) hx
    · trivial
  | agg cs => exact hx
  | tup cs => exact hx
  | d x => exact hx
  | nils => exact hx
  | nilp => exact hx
  | pv cs o => exact hx
  | fn f => exact hx
  | undef => trivial

/-- A variable comes back in hand. -/
theorem back_box {S : Nat → Prop} {n : Nat} {cs : List SV} {ψ : Nat → Prop} (H : InvS S C R G st a w) (hl : G.live n) (hS : S n) (hn : hlk st.h n = none) (hb : BRel R (G.turn n (G.hv n) ψ) (st.h ++ [(n, .box cs)]) C.P w n (.box cs))
    (hψ : ∀ k, ψ k → k < w.heap.size ∧ (R.L k ∨ R.w0.heap.size ≤ k)) (hd : ∀ k m, ψ k → G.live m → ¬ S m → G.φ m k → False) :
    InvS (fun k => S k ∧ k ≠ n) C R (G.turn n (G.hv n) ψ) { st with h := st.h ++ [(n, .box cs)] } a w ∧ (∀ k, Same G st.h (G.turn n (G.hv n) ψ) (st.h ++ [(n, .box cs)]) k) ∧ Fr G st.h (G.turn n (G.hv n) ψ) (st.h ++ [(n, .box cs)]) := by
  have hs : ∀ k, Same G st.h (G.turn n (G.hv n) ψ) (st.h ++ [(n, .box cs)]) k := fun k hk => ⟨hk, rfl, by simp only [Gh.turn]; split <;> simp_all, fun e sz xs hx => ⟨xs, by rw [hlk_snoc, hx]⟩⟩
  have hnot : ∀ {k : Nat}, ¬ (S k ∧ k ≠ n) → k ≠ n → ¬ S k := fun h1 h2 h3 => h1 ⟨h3, h2⟩
  refine ⟨⟨H.W, ⟨fun k hk hkS => ?_, fun k m hk hkS hm hmS hkm j hj1 hj2 => ?_, fun k hk hkS j hj => ?_, fun k b' hf => ?_⟩, fun k b hk => ?_, fun t => slot_same hs (H.slots t), H.l, H.m⟩, hs, fun m xs ⟨h1, h2, h3⟩ => ⟨h1, by rw [hlk_snoc, h2], h3⟩⟩
  · by_cases hkn : k = n
    · subst hkn; exact ⟨.box cs, by show hlk (st.h ++ [(k, .box cs)]) k = _; rw [hlk_snoc, hn]; simp, hb⟩
    · obtain ⟨b, h1, h2⟩ := H.B.rel k hk (hnot hkS hkn)
      exact ⟨b, by show hlk (st.h ++ [(n, .box cs)]) k = _; rw [hlk_snoc, h1], brel_same hs (by simp [Gh.turn, hkn]) rfl (by simp [Gh.turn, hkn]) h2⟩
  · simp only [Gh.turn] at hj1 hj2
    by_cases hk' : k = n
    · subst hk'
      rw [if_pos rfl] at hj1
      rw [if_neg (Ne.symm hkm)] at hj2
      exact hd j m hj1 hm (hnot hmS (Ne.symm hkm)) hj2
    · rw [if_neg hk'] at hj1
      by_cases hm' : m = n
      · subst hm'
        rw [if_pos rfl] at hj2
        exact hd j k hj2 hk (hnot hkS hk') hj1
      · rw [if_neg hm'] at hj2
        exact H.B.disj k m hk (hnot hkS hk') hm (hnot hmS hm') hkm j hj1 hj2
  · simp only [Gh.turn] at hj
    by_cases hk' : k = n
    · rw [if_pos hk'] at hj; exact hψ j hj
    · rw [if_neg hk'] at hj; exact H.B.mine k hk (hnot hkS hk') j hj
  · obtain ⟨h1, h2, h3⟩ := H.B.fix k b' hf
    refine ⟨h1, h2, fun hkS => ?_⟩
    by_cases hkn : k = n
    · subst hkn; exact ⟨cs, by show hlk (st.h ++ [(k, .box cs)]) k = _; rw [hlk_snoc, hn]; simp⟩
    · obtain ⟨ds, hc⟩ := h3 (hnot hkS hkn)
      exact ⟨ds, by show hlk (st.h ++ [(n, .box cs)]) k = _; rw [hlk_snoc, hc]⟩
  · have hk' : hlk (st.h ++ [(n, .box cs)]) k = some b := hk
    rw [hlk_snoc] at hk'
    rintro ⟨h1, h2⟩
    cases hh : hlk st.h k with
    | some z => exact H.all k z hh h1
    | none =>
      rw [hh] at hk'
      simp [Ne.symm h2] at hk'

/-- Of each variable that was handed over: what stands in its other cells. -/
def LentsOk (R : Rt) (G0 : Gh) (h0 : List (Nat × Blk)) (w : World) : List Mode → List SV → Prop
  | .ptr ks :: ms, .ptr n off :: xs => (∀ cs, hlk h0 n = some (.box cs) → ∃ cur e, w.heap[(G0.base n).1]? = some (.cells cur e (0, 0)) ∧ (G0.base n).2 + cs.length ≤ cur.size ∧ (∀ lo hi, R.LB (G0.base n).1 lo hi → lo ≤ (G0.base n).2 ∧ (G0.base n).2 + cs.length ≤ hi) ∧
      ∀ (j : Nat) x, cs[j]? = some x → (j < off ∨ off + ks.length ≤ j) → ∃ u, cur[(G0.base n).2 + j]? = some u ∧ u.oneCell' = true ∧ CRel R G0 h0 x u) ∧ LentsOk R G0 h0 w ms xs
  | _ :: ms, _ :: xs => LentsOk R G0 h0 w ms xs
  | _, _ => True
theorem lents_ok {R' : Rt} (H : Inv C R G st a w) (hW : WInv R' w') (hR : R'.w0 = w) : ∀ (ms : List Mode) (xs : List SV) (vs : List Value) (rs : List (Option DV)) (Θ : Nat → Nat → Nat → Prop) (B : Nat → Nat → Nat → Nat → Prop), GivsK C.P R w G ms xs vs rs Θ B → (∀ i k lo hi, B i k lo hi → R'.LB k lo hi) → ValsAt R G st.h xs vs → LentsOk R G st.h w' ms xs
  | [], xs, vs, rs, Θ, B, hg, hB, hv => by cases xs <;> trivial
  | m :: ms, [], vs, rs, Θ, B, hg, hB, hv => by cases m <;> trivial
  | m :: ms, x :: xs, vs, rs, Θ, B, hg, hB, hv => by
    obtain ⟨u, vs', rfl, h1, hv'⟩ := hv.tail
    cases rs with
    | nil => exact hg.elim
    | cons r rs =>
      obtain ⟨hg1, hg2⟩ := hg
      have hrec := lents_ok H hW hR ms xs vs' rs _ _ hg2 (fun i => hB (i + 1)) hv'
      by_cases hp : ∃ ks n off, m = .ptr ks ∧ x = .ptr n off
      · obtain ⟨ks, n, off, rfl, rfl⟩ := hp
        refine ⟨fun cs hcs => ?_, hrec⟩
        obtain ⟨hl, hu⟩ := h1
        obtain ⟨b, hb', hbr⟩ := H.B.rel n hl id
        rw [hcs] at hb'; cases hb'
        obtain ⟨cur, e, r1, r2, r3, r4, r5⟩ := hbr
        cases r with
        | none => exact hg1.elim
        | some d =>
          cases d with
          | one d => exact hg1.elim
          | agg d => exact hg1.elim
          | ptr ds =>
            obtain ⟨cur0, e0, us, k1, k2, k3, k4, k5, k6, k7, k8⟩ := hg1
            obtain ⟨c', c0', e', fz', p1, p2, p3, p4⟩ := hW.out _ _ _ (hB 0 _ _ _ ((k4 _ _ _).2 ⟨rfl, rfl, rfl⟩))
            rw [hR, r1] at p1
            cases p1
            refine ⟨c', _, p2, by rw [p3]; exact r4, r3, fun j y hj ho => ?_⟩
            obtain ⟨q, q1, q2, q3⟩ := r5 j y hj
            exact ⟨q, by rw [p4 _ (by omega)]; exact q1, q2, q3⟩
      · have : LentsOk R G st.h w' (m :: ms) (x :: xs) = LentsOk R G st.h w' ms xs := by
          cases m with
          | ptr ks => cases x <;> first | rfl | exact absurd ⟨_, _, _, rfl, rfl⟩ hp
          | _ => rfl
        rw [this]
        exact hrec

theorem backs_sound {R' : Rt} {h0 : List (Nat × Blk)} {ns sus : List Nat} : ∀ (ms : List Mode) (xs : List SV) (vs : List Value) (outs : List (List D)) (st : St) (G : Gh) (Ω : Nat → Nat → Nat → Prop) (st2 : St), InvS (fun n => n ∈ lentN ms xs) C R G st a w →
    (∀ n ∈ lentN ms xs, G.live n ∧ G.base n = G0.base n) → (lentN ms xs).Nodup → (∀ n ∈ lentN ms xs, n ∈ sus) → (∀ n ∈ ns, G0.live n → Same G0 h0 G st.h n) → LentsOk R G0 h0 w ms xs → ValsAt R G0 h0 xs vs → OutsK C.P R' w ms vs outs Ω →
    (∀ i j k, Ω i j k → k < w.heap.size ∧ (R.L k ∨ R.w0.heap.size ≤ k)) → (∀ i j k, Ω i (j + 1) k → ∀ lo hi, ¬ R.LB k lo hi) → Apart3 Ω → (∀ i j k n, Ω i j k → G.live n → n ∉ lentN ms xs → G.φ n k → False) → backs h0 ns sus st ms xs outs = some st2 →
    ∃ G2, Inv C R G2 st2 a w ∧ (∀ n, Same G st.h G2 st2.h n) ∧ (∀ n k, G2.live n → G2.φ n k → (G.live n ∧ n ∉ lentN ms xs ∧ G.φ n k) ∨ ∃ i j, Ω i j k) ∧ Fr G st.h G2 st2.h
  | [], [], vs, outs, st, G, Ω, st2, H, hlv, hnd, hsus, hns, hL, hv, hO, hm, hlb, hap, hsep, h => by
    cases outs with
    | cons o os => simp [backs] at h
    | nil =>
      simp only [backs, Option.some.injEq] at h
      subst h
      have e : (fun n => n ∈ lentN [] []) = fun _ => False := funext fun n => by simp [lentN]
      rw [e] at H
      exact ⟨G, H, Same.refl G st.h, fun n k h1 h2 => .inl ⟨h1, by simp [lentN], h2⟩, Fr.refl _ _⟩
  | m :: ms, x :: xs, vs, outs, st, G, Ω, st2, H, hlv, hnd, hsus, hns, hL, hv, hO, hm, hlb, hap, hsep, h => by
    obtain ⟨u, vs', rfl, h1, hv'⟩ := hv.tail
    have ap1 : Apart3 fun i => Ω (i + 1) := fun i j i' j' k h1 h2 => by obtain ⟨e1, e2⟩ := hap _ _ _ _ _ h1 h2; exact ⟨by omega, e2⟩
    by_cases hp : ∃ ks, m = .ptr ks
    · obtain ⟨ks, rfl⟩ := hp
      by_cases hx : ∃ n off, x = .ptr n off
      · obtain ⟨n, off, rfl⟩ := hx
        cases outs with
        | nil => simp [backs] at h
        | cons o os =>
          simp only [backs] at h
          split at h
          · rename_i cs hcs
            split at h
            · rename_i hlen
              obtain ⟨hlen, hsc⟩ := hlen
              split at h
              · rename_i ws new hlay
                split at h
                · rename_i hfree
                  split at h
                  · rename_i st3 hadds
                    rw [adds_append] at hadds
                    split at hadds
                    · rename_i st4 hadds4
                      obtain ⟨hnone, hst3⟩ := adds_one hadds
                      obtain ⟨⟨g, b, cur, e, us, o1, o2, o3, o4, o5, o6⟩, hO'⟩ := hO
                      obtain ⟨hLn, hL'⟩ := hL
                      obtain ⟨cur', e', l1, l2, l3, l4⟩ := hLn cs hcs
                      obtain ⟨hl0, hu⟩ := h1
                      rw [hu] at o1
                      simp only [Value.pointer.injEq, Option.some.injEq, Addr.mk.injEq, and_true] at o1
                      obtain ⟨rfl, rfl⟩ := o1
                      rw [l1] at o2; cases o2
                      have hmem : n ∈ lentN (.ptr ks :: ms) (.ptr n off :: xs) := by simp [lentN]
                      obtain ⟨hlive, hbase⟩ := hlv n hmem
                      have hnd' : n ∉ lentN ms xs ∧ (lentN ms xs).Nodup := by simpa [lentN] using hnd
                      obtain ⟨Ga, a1, a2, a3, a4, a5, a6⟩ := lay_sound (backN n off ((cs.drop off).take ks.length)) ks o us (fun j => Ω 0 (j + 1)) ws new G st st4 hlay H (o6.back hsc) (fun j k hk => ⟨(hm 0 (j + 1) k hk).1, (hm 0 (j + 1) k hk).2, hlb 0 j k hk⟩) (fun i j k hi hj => by have := (hap _ _ _ _ _ hi hj).2; omega) (fun j k m' hk h2 h3 h4 => hsep 0 (j + 1) k m' hk h2 h3 h4) (fun p hp hmem' => freeN_ok hfree p hp (hsus _ hmem')) hadds4
                      have hGal : Ga.live n := (a2 n hlive).1
                      have hGab : Ga.base n = G0.base n := ((a2 n hlive).2.1).trans hbase
                      have hws : ws.length = ks.length := by rw [← a3.1, o6.2.1, ← o6.1]
                      obtain ⟨q1, q2⟩ := setRange_get (keepCs ns cs) off ws (by rw [keepCs_len, hws]; exact hlen)
                      rw [keepCs_len] at q1
                      have hsameA : ∀ k, Same Ga st4.h (Ga.turn n (Ga.hv n) (Ω 0 0)) (st4.h ++ [(n, .box (setRange (keepCs ns cs) off ws))]) k := fun k hk => ⟨hk, rfl, by simp only [Gh.turn]; split <;> simp_all, fun e sz xs hx => ⟨xs, by rw [hlk_snoc, hx]⟩⟩
                      obtain ⟨b1, b2, b3⟩ := back_box (cs := setRange (keepCs ns cs) off ws) (ψ := Ω 0 0) a1 hGal hmem hnone ⟨cur, e, by show w.heap[(Ga.base n).1]? = _; rw [hGab]; exact l1, by simp only [Gh.turn, if_true]; rw [hGab]; exact o3, by show ∀ lo hi, R.LB (Ga.base n).1 lo hi → lo ≤ (Ga.base n).2 ∧ (Ga.base n).2 + _ ≤ hi; rw [hGab, q1]; exact l3, by show (Ga.base n).2 + _ ≤ _; rw [hGab, q1]; exact l2, fun j y hj => by
                          show ∃ u, cur[(Ga.base n).2 + j]? = some u ∧ _
                          rw [hGab]
                          rw [q2 j] at hj
                          split at hj
                          · rename_i hjr
                            obtain ⟨q, k1, k2, k3⟩ := a3.2 _ y hj
                            refine ⟨q, ?_, k2, crel_same (fun m' _ => hsameA m') k3⟩
                            have := o5 _ q k1
                            rw [show (G0.base n).2 + j = (G0.base n).2 + off + (j - off) by omega]
                            exact this
                          · rename_i hjr
                            rw [keepCs_get, Option.map_eq_some_iff] at hj
                            obtain ⟨y', hy', rfl⟩ := hj
                            obtain ⟨q, k1, k2, k3⟩ := l4 j y' hy' (by omega)
                            exact ⟨q, k1, k2, crel_same (fun m' _ => hsameA m') (crel_same (fun m' _ => a2 m') (keepC_rel hns k3))⟩⟩ (fun k hk => hm 0 0 k hk) (fun k m' hk h2 h3 h4 => by
                          rcases a5 m' k h2 h4 with ⟨h5, h6⟩ | ⟨j, hj⟩
                          · exact hsep 0 0 k m' hk h5 h3 h6
                          · have := (hap _ _ _ _ _ hk hj).2; omega)
                      subst hst3
                      have eS : (fun k => k ∈ lentN (.ptr ks :: ms) (.ptr n off :: xs) ∧ k ≠ n) = fun k => k ∈ lentN ms xs := funext fun k => propext (by
                        simp only [lentN, List.mem_cons]
                        constructor
                        · rintro ⟨h | h, h2⟩; exact absurd h h2; exact h
                        · intro h; exact ⟨.inr h, fun e => hnd'.1 (e ▸ h)⟩)
                      rw [eS] at b1
                      obtain ⟨G2, c1, c2, c3, c4⟩ := backs_sound ms xs vs' os _ (Ga.turn n (Ga.hv n) (Ω 0 0)) (fun i => Ω (i + 1)) st2 b1 (fun k hk => by
                          obtain ⟨h2, h3⟩ := hlv k (by simp [lentN, hk])
                          obtain ⟨h4, h5, _⟩ := a2 k h2
                          exact ⟨h4, h5.trans h3⟩) hnd'.2 (fun k hk => hsus k (by simp [lentN, hk])) (fun k hk hk0 => (hns k hk hk0).trans ((a2 k).trans (b2 k))) hL' hv' hO' (fun i j k hk => hm (i + 1) j k hk) (fun i j k hk => hlb (i + 1) j k hk) ap1 (fun i j k m' hk h2 h3 h4 => by
                          simp only [Gh.turn] at h4
                          split at h4
                          · have := (hap _ _ _ _ _ hk h4).1; omega
                          · rename_i hmn
                            rcases a5 m' k h2 h4 with ⟨h5, h6⟩ | ⟨j', hj'⟩
                            · exact hsep (i + 1) j k m' hk h5 (by simp only [lentN, List.mem_cons]; rintro (h | h); exact hmn h; exact h3 h) h6
                            · have := (hap _ _ _ _ _ hk hj').1; omega) h
                      refine ⟨G2, c1, fun k => (a2 k).trans ((b2 k).trans (c2 k)), fun k j h2 h3 => ?_, a6.trans (b3.trans c4)⟩
                      rcases c3 k j h2 h3 with ⟨h4, h5, h6⟩ | ⟨i, j', hj'⟩
                      · simp only [Gh.turn] at h6
                        split at h6
                        · exact .inr ⟨0, 0, h6⟩
                        · rename_i hkn
                          rcases a5 k j h4 h6 with ⟨h7, h8⟩ | ⟨j', hj'⟩
                          · exact .inl ⟨h7, by simp only [lentN, List.mem_cons]; rintro (h | h); exact hkn h; exact h5 h, h8⟩
                          · exact .inr ⟨0, j' + 1, hj'⟩
                      · exact .inr ⟨i + 1, j', hj'⟩
                    · cases hadds
                  · cases h
                · cases h
              · cases h
            · cases h
          · cases h
      · exfalso
        cases x <;> first | exact hx ⟨_, _, rfl⟩ | (simp [backs] at h)
    · have hl : lentN (m :: ms) (x :: xs) = lentN ms xs := by cases m <;> first | exact absurd ⟨_, rfl⟩ hp | (cases x <;> rfl)
      have hL' : LentsOk R G0 h0 w ms xs := by cases m <;> first | exact absurd ⟨_, rfl⟩ hp | (cases x <;> exact hL)
      have hO' : OutsK C.P R' w ms vs' outs (fun i => Ω (i + 1)) := by cases m <;> first | exact absurd ⟨_, rfl⟩ hp | (cases outs <;> exact hO)
      have hb' : backs h0 ns sus st ms xs outs = some st2 := by cases m <;> first | exact absurd ⟨_, rfl⟩ hp | (simpa [backs] using h)
      rw [hl] at H hlv hnd hsus hsep
      obtain ⟨G2, c1, c2, c3, c4⟩ := backs_sound ms xs vs' outs st G (fun i => Ω (i + 1)) st2 H hlv hnd hsus hns hL' hv' hO' (fun i j k hk => hm (i + 1) j k hk) (fun i j k hk => hlb (i + 1) j k hk) ap1 (fun i j k m' hk => hsep (i + 1) j k m' hk) hb'
      refine ⟨G2, c1, c2, fun k j h2 h3 => ?_, c4⟩
      rw [hl]
      rcases c3 k j h2 h3 with h4 | ⟨i, j', hj'⟩
      · exact .inl h4
      · exact .inr ⟨i + 1, j', hj'⟩
  | [], _ :: _, vs, outs, st, G, Ω, st2, H, hlv, hnd, hsus, hns, hL, hv, hO, hm, hlb, hap, hsep, h => by cases outs <;> simp [backs] at h
  | m :: _, [], vs, outs, st, G, Ω, st2, H, hlv, hnd, hsus, hns, hL, hv, hO, hm, hlb, hap, hsep, h => by cases m <;> cases outs <;> simp [backs] at h
end Go.Den

/- A call that is handed memory, or makes it. -/
namespace Go.Den
open Go
variable {C : Ctx} {R : Rt} {G G0 G1 : Gh} {st st1 : St} {a : Act} {w w' : World} {o : Oper} {v : SV}

theorem layK_tup : ∀ {ns : List Nat} {ks : List (Option (Nat × Nat))} {ds : List D} {vs : List SV} {new : List (Nat × Blk)}, layK ns ks ds = some (vs, new) → ∀ x ∈ vs, okSV x = true
  | [], [], [], vs, new, h, x, hx => by simp [layK] at h; rw [h.1] at hx; simp at hx
  | n :: ns, none :: ks, d :: ds, vs, new, h, x, hx => by
    simp only [layK] at h
    split at h
    · rename_i a b heq
      cases h
      simp only [List.mem_cons] at hx
      rcases hx with rfl | hx
      · rfl
      · exact layK_tup heq x hx
    · cases h
  | n :: ns, some (e, sz) :: ks, .l ys :: ds, vs, new, h, x, hx => by
    simp only [layK] at h
    split at h
    · rename_i a b heq
      cases h
      simp only [List.mem_cons] at hx
      rcases hx with rfl | hx
      · rfl
      · exact layK_tup heq x hx
    · cases h
  | [], _ :: _, ds, vs, new, h, x, hx => by simp [layK] at h
  | [], [], _ :: _, vs, new, h, x, hx => by simp [layK] at h
  | _ :: _, [], ds, vs, new, h, x, hx => by simp [layK] at h
  | _ :: _, none :: _, [], vs, new, h, x, hx => by simp [layK] at h
  | _ :: _, some _ :: _, [], vs, new, h, x, hx => by simp [layK] at h
  | _ :: _, some _ :: _, .b _ :: _, vs, new, h, x, hx => by simp [layK] at h
  | _ :: _, some _ :: _, .i _ _ :: _, vs, new, h, x, hx => by simp [layK] at h
  | _ :: _, some _ :: _, .s _ :: _, vs, new, h, x, hx => by simp [layK] at h

theorem thaws_sound {R' : Rt} {s : Nat} : ∀ (kss : List (List (Option (Nat × Nat)))) (j : Nat) (rs : List DV) (rv : List Value) (svs : List SV) (new : List (Nat × Blk)) (st : St) (G : Gh) (Ξ : Nat → Nat → Nat → Prop) (st3 : St), thaws s j kss rs = some (svs, new) → Inv C R G st a w → RetsK C.P R' w kss rs rv Ξ →
    (∀ i j k, Ξ i j k → k < w.heap.size ∧ (R.L k ∨ R.w0.heap.size ≤ k) ∧ ∀ lo hi, ¬ R.LB k lo hi) → Apart3 Ξ → (∀ i j k n, Ξ i j k → G.live n → G.φ n k → False) → adds st new = some st3 →
    ∃ G3, Inv C R G3 st3 a w ∧ (∀ n, Same G st.h G3 st3.h n) ∧ ValsAt R G3 st3.h svs rv ∧ (∀ x ∈ svs, ∀ ys, x ≠ SV.tup ys) ∧ Fr G st.h G3 st3.h
  | [], j, rs, rv, svs, new, st, G, Ξ, st3, h, H, hr, hm, hap, hsep, ha => by
    cases rs with
    | cons r rs => simp [thaws] at h
    | nil =>
      cases rv with
      | cons v vs => exact hr.elim
      | nil =>
        simp only [thaws, Option.some.injEq, Prod.mk.injEq] at h
        obtain ⟨rfl, rfl⟩ := h
        simp only [adds, Option.some.injEq] at ha
        subst ha
        exact ⟨G, H, Same.refl G st.h, ⟨rfl, fun j x hj => by simp at hj⟩, by simp, Fr.refl _ _⟩
  | ks :: kss, j, rs, rv, svs, new, st, G, Ξ, st3, h, H, hr, hm, hap, hsep, ha => by
    cases rs with
    | nil => simp [thaws] at h
    | cons r rs =>
      cases rv with
      | nil => exact hr.elim
      | cons u rv =>
        obtain ⟨hr1, hr2⟩ := hr
        -- one value, then the others
        have go : ∀ {ds : List D} {us : List Value} {cells : List SV} {b b' : List (Nat × Blk)} {vs : List SV}, KC C.P R' w ks ds us (Ξ 0) → scAll ks ds = true → layK (nmsF s j ks.length) ks ds = some (cells, b) → thaws s (j + ks.length) kss rs = some (vs, b') → adds st (b ++ b') = some st3 →
            ∃ G3, Inv C R G3 st3 a w ∧ (∀ n, Same G st.h G3 st3.h n) ∧ CellsAt R G3 st3.h cells us ∧ ValsAt R G3 st3.h vs rv ∧ (∀ x ∈ vs, ∀ ys, x ≠ SV.tup ys) ∧ Fr G st.h G3 st3.h := by
          intro ds us cells b b' vs hk hsc hl ht hb
          rw [adds_append] at hb
          split at hb
          · rename_i st4 hb4
            obtain ⟨G2, i1, i2, i3, i4, i5, i6⟩ := lay_sound _ ks ds us (Ξ 0) cells b G st st4 hl H (hk.back hsc) (fun j k hk => ⟨(hm 0 j k hk).1, (hm 0 j k hk).2.1, (hm 0 j k hk).2.2⟩) (fun i j k h1 h2 => (hap _ _ _ _ _ h1 h2).2) (fun j k n hk hn _ hφ => hsep 0 j k n hk hn hφ) (fun _ _ => id) hb4
            obtain ⟨G3, j1, j2, j3, j4, j5⟩ := thaws_sound kss _ rs rv vs b' st4 G2 (fun i => Ξ (i + 1)) st3 ht i1 hr2 (fun i j k hk => hm (i + 1) j k hk) (fun i j i' j' k h1 h2 => by obtain ⟨e1, e2⟩ := hap _ _ _ _ _ h1 h2; exact ⟨by omega, e2⟩) (fun i j k n hk hn hφ => by
              rcases i5 n k hn hφ with ⟨h1, h2⟩ | ⟨j', hj'⟩
              · exact hsep (i + 1) j k n hk h1 h2
              · have := (hap _ _ _ _ _ hk hj').1; omega) hb
            refine ⟨G3, j1, fun n => (i2 n).trans (j2 n), ⟨i3.1, fun j x hj => ?_⟩, j3, j4, i6.trans j5⟩
            obtain ⟨q, q1, q2, q3⟩ := i3.2 j x hj
            exact ⟨q, q1, q2, crel_same (fun n _ => j2 n) q3⟩
          · cases hb
        cases r with
        | ptr x => simp [thaws] at h
        | one d =>
          obtain ⟨hk, hsc⟩ := hr1
          simp only [thaws] at h
          split at h
          · rename_i c b vs b' hl ht
            cases h
            obtain ⟨G3, j1, j2, j3, j4, j5, j6⟩ := go hk hsc hl ht ha
            obtain ⟨q, q1, q2, q3⟩ := j3.2 0 c rfl
            simp at q1; subst q1
            refine ⟨G3, j1, j2, ⟨by simp [j4.1], fun j x hj => ?_⟩, fun x hx => ?_, j6⟩
            · cases j with
              | zero => simp at hj; subst hj; exact ⟨u, rfl, arel_one q3⟩
              | succ j => simpa using j4.2 j x (by simpa using hj)
            · simp only [List.mem_cons] at hx
              rcases hx with rfl | hx
              · intro ys e; have := layK_tup hl x (by simp); rw [e] at this; cases this
              · exact j5 x hx
          · cases h
        | agg ds =>
          obtain ⟨⟨us, rfl, hk⟩, hsc⟩ := hr1
          simp only [thaws] at h
          split at h
          · rename_i c b vs b' hl ht
            cases h
            obtain ⟨G3, j1, j2, j3, j4, j5, j6⟩ := go hk hsc hl ht ha
            refine ⟨G3, j1, j2, ⟨by simp [j4.1], fun j x hj => ?_⟩, fun x hx => ?_, j6⟩
            · cases j with
              | zero => simp at hj; subst hj; exact ⟨_, rfl, us, rfl, j3.1, j3.2⟩
              | succ j => simpa using j4.2 j x (by simpa using hj)
            · simp only [List.mem_cons] at hx
              rcases hx with rfl | hx
              · intro ys e; cases e
              · exact j5 x hx
          · cases h

theorem doing_callFn {f : Nat} {args : Array Operand} {ts : Array TypeId} {s : Nat} (hC : CtxOk C) (H : Inv C R G st a w) (ho : o.op = .call { callee := .value (.func f), args, argTypes := ts }) (h : callFn C st s f (evs C st [] args.toList) = some (true, v, st1)) : Doing C R G st a w o v st1 := by
  intro K Q hK
  have hvals : ValsAt R G st.h (evs C st [] args.toList) (args.toList.map a.eval) := vals_evs H.here.good (fun t _ => H.slots t)
  generalize evs C st [] args.toList = xs at h hvals
  unfold callFn at h
  split at h
  · rename_i r sta hgiv
    split at h
    · rename_i ds hlent
      split at h
      · rename_i ok rs outs hF'
        split at h
        · rename_i stb hback
          have hok : ok = true := by
            split at h
            · cases h; rfl
            · split at h
              · split at h
                · cases h; rfl
                · cases h
              · cases h
            · split at h
              · split at h
                · cases h; rfl
                · cases h
              · cases h
            · cases h
          subst hok
          have hF : opt (C.F f ds) = some (rs, outs) := by rw [hF']; rfl
          obtain ⟨hsig1, hsig2⟩ := hC.sig _ _ _ hF
          obtain ⟨G1, Θ, B, KG⟩ := given_sound (G0 := G) (h0 := st.h) (C.sig f).ms xs _ (fun _ => False) st G r sta H (Gle.refl G) (Has.refl _ _) hsig1 hvals hgiv
          have hP := pre_call (Gle.refl G) KG hvals hlent
          have hc := hC.spec f _ ds _ Θ rs outs hF rfl hP
          unfold Oper.wp
          rw [run_callOp (hC.fn _ _ _ hF) ho]
          show Calls C.P f _ w _
          have harr : (args.map a.eval) = (args.toList.map a.eval).toArray := by rw [← Array.toList_map]
          rw [harr]
          refine hc.mono fun e w' he => ?_
          obtain ⟨rv, Ξ, Ω, rfl, p⟩ := he
          obtain ⟨hW1, H1⟩ := winv_call KG p.W
          have eS : (fun n => False ∨ n ∈ lentN (C.sig f).ms xs) = fun n => n ∈ lentN (C.sig f).ms xs := funext fun n => propext (by simp)
          rw [eS] at H1
          have hsz : w.heap.size ≤ w'.heap.size := p.W.size
          have mine : ∀ {k : Nat}, ((∃ i j, Θ i j k) ∨ w.heap.size ≤ k) → R.L k ∨ R.w0.heap.size ≤ k := fun h => by
            rcases h with ⟨i, j, h⟩ | h
            · exact (KG.mine i j _ h).2
            · exact .inr (Nat.le_trans H.W.size h)
          have nolb : ∀ {k : Nat}, ((∃ i j, Θ i j k) ∨ w.heap.size ≤ k) → (∀ lo hi, ¬ ∃ i, B i k lo hi) → ∀ lo hi, ¬ R.LB k lo hi := fun h hn lo hi hlb => by
            rcases h with ⟨i, j, h⟩ | h
            · cases j with
              | succ j => exact KG.lb i j _ h lo hi hlb
              | zero => obtain ⟨lo', hi', hB, _⟩ := KG.box i _ h; exact hn lo' hi' ⟨i, hB⟩
            · have := lb_old H.W hlb; have := H.W.size; omega
          have sep : ∀ {k n : Nat}, ((∃ i j, Θ i j k) ∨ w.heap.size ≤ k) → G1.live n → n ∉ lentN (C.sig f).ms xs → G1.φ n k → False := fun h hn hnl hφ => by
            rcases h with ⟨i, j, h⟩ | h
            · exact KG.sep i j _ _ h hn (by simpa using hnl) hφ
            · have := (KG.inv.B.mine _ hn (by simpa using hnl) _ hφ).1; omega
          obtain ⟨G2, b1, b2, b3, b4⟩ := backs_sound (G0 := G) (h0 := st.h) (ns := names sta.h) (sus := lentN (C.sig f).ms xs) (C.sig f).ms xs _ outs sta G1 Ω stb H1 (fun n hn => ⟨KG.live n (KG.lent n hn).1 (.inr hn), by rw [KG.gle.2.1]⟩) KG.nodup (fun _ h => h) (fun n hn hl => by obtain ⟨b, hb⟩ := names_mem hn; exact (KG.has n b hb).2)
            (lents_ok H p.W rfl _ _ _ _ _ _ KG.givs (fun i k lo hi h => ⟨i, h⟩) hvals) hvals p.outs (fun i j k h => ⟨(p.mineO i j k h).1, mine (p.mineO i j k h).2⟩) (fun i j k h => nolb (p.mineO i (j + 1) k h).2 (p.lbO i j k h)) p.apartO (fun i j k n h => sep (p.mineO i j k h).2) hback
          have sepR : ∀ i j k n, Ξ i j k → G2.live n → G2.φ n k → False := fun i j k n h hn hφ => by
            rcases b3 n k hn hφ with ⟨h1, h2, h3⟩ | ⟨i', j', h'⟩
            · exact sep (p.mineR i j k h).2.1 h1 h2 h3
            · exact p.apart _ _ _ _ _ h h'
          have mineR : ∀ i j k, Ξ i j k → k < w'.heap.size ∧ (R.L k ∨ R.w0.heap.size ≤ k) ∧ ∀ lo hi, ¬ R.LB k lo hi := fun i j k h =>
            ⟨(p.mineR i j k h).1, mine (p.mineR i j k h).2.1, nolb (p.mineR i j k h).2.1 (p.mineR i j k h).2.2⟩
          have hres := p.res
          split at h
          · rename_i hr
            cases h
            rw [hr] at hres
            exact hK _ _ _ b1 (single_rel (scs_vals R G2 _ hres) (svsOf_tup _)) (KG.fr.trans b4)
          · rename_i hr
            split at h
            · rename_i vs new ht
              split at h
              · rename_i st3 ha
                cases h
                rw [hr] at hres
                obtain ⟨G3, j1, j2, j3, j4, j5⟩ := thaws_sound _ 0 _ rv vs new stb G2 Ξ st1 ht b1 hres mineR p.apartR sepR ha
                exact hK _ _ _ j1 (single_rel j3 j4) (KG.fr.trans (b4.trans j5))
              · cases h
            · cases h
          · rename_i hr
            split at h
            · rename_i cs new hl
              split at h
              · rename_i st3 ha
                cases h
                rw [hr] at hres
                obtain ⟨es, g, b, cur, e, us, e1, rfl, e3, e4, e5, e6, e7, e8, e9⟩ := hres
                cases e1
                rw [adds_append] at ha
                split at ha
                · rename_i st4 ha4
                  obtain ⟨hn, hst⟩ := adds_one ha
                  obtain ⟨G3, i1, i2, i3, i4, i5, i6⟩ := lay_sound _ _ _ us (fun j => Ξ 0 (j + 1)) cs new G2 stb st4 hl b1 (e7.back e8) (fun j k hk => ⟨(mineR 0 (j + 1) k hk).1, (mineR 0 (j + 1) k hk).2.1, (mineR 0 (j + 1) k hk).2.2⟩) (fun i j k h1 h2 => by have := (p.apartR _ _ _ _ _ h1 h2).2; omega) (fun j k n hk hn _ hφ => sepR 0 (j + 1) k n hk hn hφ) (fun _ _ => id) ha4
                  have hnl : ¬ G3.live (nm s 0) := fun h => by obtain ⟨b, hb, _⟩ := i1.B.rel _ h id; rw [hn] at hb; cases hb
                  have hcl := i3.1.symm.trans e7.2.1
                  subst hst
                  have hadd := add_inv (n := nm s 0) (b := (g, b)) (v := undef) (ψ := Ξ 0 0) (x := .box cs) i1 hn id (fun k hk => ⟨(mineR 0 0 k hk).1, (mineR 0 0 k hk).2.1⟩) (fun k m hk hm _ hφ => by
                    rcases i5 m k hm hφ with ⟨h1, h2⟩ | ⟨j', hj'⟩
                    · exact sepR 0 0 k m hk h1 h2
                    · have := (p.apartR _ _ _ _ _ hk hj').2; omega) ⟨cur, e, by simp [Gh.add, e3], by simp [Gh.add, e4], fun lo hi hlb => by simp only [Gh.add, if_true] at hlb; exact ((mineR 0 0 g e4).2.2 lo hi hlb).elim, by simp [Gh.add, hcl]; exact e5, fun j x hj => by
                      obtain ⟨q, q1, q2, q3⟩ := i3.2 j x hj
                      exact ⟨q, by simp only [Gh.add, if_true]; exact e6 j q q1, q2, crel_same (fun m _ => same_add hnl _ _ _ _ m) q3⟩⟩
                  refine hK _ _ _ hadd ⟨.inr rfl, by simp [Gh.add, valOf]⟩ (KG.fr.trans (b4.trans (i6.trans (fr_add hn))))
                · cases ha
              · cases h
            · cases h
          · cases h
        · cases h
    · cases h
  · cases h
end Go.Den

/- One operation after the other. -/
namespace Go.Den
open Go
variable {C : Ctx} {R : Rt} {G G0 G1 : Gh} {st st1 st2 : St} {a : Act} {w w' : World} {o : Oper} {v : SV}

/-! the slots that a region has filled so far are told by their names -/
def SameL (st st1 : St) : Prop := ∀ t, (lk st1.l t).isSome = (lk st.l t).isSome
theorem SameL.refl (st : St) : SameL st st := fun _ => rfl
theorem SameL.trans {a b c : St} (h : SameL a b) (k : SameL b c) : SameL a c := fun t => (k t).trans (h t)
theorem sameL_kill (st : St) (n : Nat) (h : List (Nat × Blk)) : SameL st { kill st n with h := h } := fun t => by simp [kill, lk_killL]
theorem sameL_adds : ∀ {xs : List (Nat × Blk)} {st st1 : St}, adds st xs = some st1 → SameL st st1
  | [], st, st1, h => by simp [adds] at h; rw [h]; exact .refl _
  | (n, b) :: r, st, st1, h => by
    simp only [adds] at h
    split at h
    · cases h
    · have := sameL_adds h; exact this
theorem sameL_take1 {x : SV} {d : D} (h : take1 st x = some (d, st1)) : SameL st st1 := by
  unfold take1 at h
  split at h
  · split at h
    · cases h; exact .refl _
    · cases h
  · cases h; exact .refl _
  · split at h
    · cases h; exact sameL_kill _ _ _
    · cases h
  · cases h
theorem sameL_takes : ∀ {vs : List SV} {ds : List D} {st st1 : St}, takes st vs = some (ds, st1) → SameL st st1
  | [], ds, st, st1, h => by simp [takes] at h; rw [h.2]; exact .refl _
  | v :: vs, ds, st, st1, h => by
    simp only [takes] at h
    split at h
    · rename_i h1
      split at h
      · rename_i h2; cases h; exact (sameL_take1 h1).trans (sameL_takes h2)
      · cases h
    · cases h
theorem sameL_takeK : ∀ {ks : List (Option (Nat × Nat))} {vs : List SV} {ds : List D} {st st1 : St}, takeK st ks vs = some (ds, st1) → SameL st st1
  | [], vs, ds, st, st1, h => by cases vs <;> simp [takeK] at h; rw [h.2]; exact .refl _
  | none :: ks, vs, ds, st, st1, h => by
    cases vs with
    | nil => simp [takeK] at h
    | cons v vs =>
      cases v <;> simp only [takeK] at h
      case d x =>
        split at h
        · rename_i h2; cases h; exact sameL_takeK h2
        · cases h
      all_goals cases h
  | some (e, sz) :: ks, vs, ds, st, st1, h => by
    cases vs with
    | nil => simp [takeK] at h
    | cons v vs =>
      simp only [takeK] at h
      split at h
      · split at h
        · rename_i h2; cases h; exact sameL_takeK h2
        · cases h
      · split at h
        · split at h
          · split at h
            · rename_i h2; cases h; exact (sameL_kill _ _ _).trans (sameL_takeK h2)
            · cases h
          · cases h
        · cases h
      · cases h
theorem sameL_given : ∀ {ms : List Mode} {xs : List SV} {r : List (Option DV)} {st st1 : St}, given st ms xs = some (r, st1) → SameL st st1
  | [], xs, r, st, st1, h => by cases xs <;> simp [given] at h; rw [h.2]; exact .refl _
  | m :: ms, [], r, st, st1, h => by cases m <;> simp [given] at h
  | m :: ms, x :: xs, r, st, st1, h => by
    unfold given at h
    split at h
    · rename_i heq; cases heq
    · rename_i heq1 heq2
      cases heq1; cases heq2
      split at h
      · rename_i h1
        split at h
        · rename_i h2
          split at h
          · cases h; exact (sameL_takeK h1).trans (sameL_given h2)
          · cases h; exact (sameL_takeK h1).trans (sameL_given h2)
          · cases h
        · cases h
      · cases h
    · rename_i heq1 heq2
      cases heq1; cases heq2
      split at h
      · split at h
        · split at h
          · rename_i h1
            split at h
            · rename_i h2
              cases h
              have a1 := sameL_takeK h1
              exact fun t => ((sameL_given h2) t).trans (a1 t)
            · cases h
          · cases h
        · cases h
      · cases h
    · rename_i heq1 heq2
      cases heq1; cases heq2
      split at h
      · rename_i h2; cases h; exact sameL_given h2
      · cases h
    · cases h
theorem sameL_backs {h0 : List (Nat × Blk)} {ns sus : List Nat} : ∀ {ms : List Mode} {xs : List SV} {os : List (List D)} {st st1 : St}, backs h0 ns sus st ms xs os = some st1 → SameL st st1
  | [], xs, os, st, st1, h => by cases xs <;> cases os <;> simp [backs] at h; rw [h]; exact .refl _
  | m :: ms, [], os, st, st1, h => by cases m <;> cases os <;> simp [backs] at h
  | m :: ms, x :: xs, os, st, st1, h => by
    unfold backs at h
    split at h
    · rename_i heq1 heq2
      cases heq1; cases heq2
      split at h
      · split at h
        · split at h
          · split at h
            · split at h
              · rename_i h2; exact (sameL_adds h2).trans (sameL_backs h)
              · cases h
            · cases h
          · cases h
        · cases h
      · cases h
    · cases h
    · rename_i heq0 heq1 heq2
      cases heq0; cases heq1
      exact sameL_backs h
    · rename_i heq; cases heq
    · cases h
theorem sameL_source {zs : List D} {x : SV} {ok : Bool} {ys : List (List D)} (h : source zs st x = some (ok, ys, st1)) : SameL st st1 := by
  unfold source at h
  split at h
  · split at h
    · split at h
      · split at h
        · cases h; exact .refl _
        · cases h; exact sameL_kill _ _ _
      · cases h
    · cases h
  · split at h
    · cases h; exact .refl _
    · cases h
  · cases h; exact .refl _
  · cases h
theorem sameL_rowsOf {sz : Nat} : ∀ {parts : List (Nat × Operand)} {k : Nat} {rows : List (List D)} {st st1 : St}, rowsOf C sz parts k st = some (rows, st1) → SameL st st1
  | [], k, rows, st, st1, h => by simp [rowsOf] at h; rw [h.2]; exact .refl _
  | (i, x) :: r, k, rows, st, st1, h => by
    simp only [rowsOf] at h
    split at h
    · split at h
      · rename_i h1
        split at h
        · split at h
          · rename_i h2; cases h; exact (sameL_takes h1).trans (sameL_rowsOf h2)
          · cases h
        · cases h
      · cases h
    · cases h
theorem sameL_store {t : TypeId} {p x : SV} {b : Bool} (h : store C st t p x = some (b, st1)) : SameL st st1 := by
  unfold store at h
  split at h
  · split at h
    · split at h
      · split at h
        · cases h; exact fun _ => rfl
        · cases h
      · cases h
    · split at h
      · rename_i h1
        split at h
        · cases h; exact fun t => (sameL_takes h1) t
        · cases h
      · cases h
    · cases h
  · cases h
theorem sameL_cut {el n : Nat} {ok : List (List D) → Bool} {f : List (List D) → List (List D)} {b : Bool} (h : cut C st el n ok f = some (b, v, st1)) : SameL st st1 := by
  unfold cut at h
  split at h
  · split at h
    · cases h; exact sameL_kill _ _ _
    · cases h
  · cases h
theorem sameL_callFn {s f : Nat} {b : Bool} {xs : List SV} (h : callFn C st s f xs = some (b, v, st1)) : SameL st st1 := by
  unfold callFn at h
  split at h
  · rename_i h1
    split at h
    · split at h
      · split at h
        · rename_i h2
          have k := (sameL_given h1).trans (sameL_backs h2)
          split at h
          · cases h; exact k
          · split at h
            · split at h
              · rename_i h3; cases h; exact k.trans (sameL_adds h3)
              · cases h
            · cases h
          · split at h
            · split at h
              · rename_i h3; cases h; exact k.trans (sameL_adds h3)
              · cases h
            · cases h
          · cases h
        · cases h
    · cases h
  · cases h
theorem sameL_heavy {s : Nat} {op : Op} {b : Bool} (h : heavy C st s op = some (b, v, st1)) : SameL st st1 := by
  have adds' : ∀ {st st1 : St} {xs : List (Nat × Blk)} {α : Type} {f : St → α} {g : α}, (adds st xs).map f = some g → ∃ st2, adds st xs = some st2 ∧ f st2 = g := fun h => by
    rw [Option.map_eq_some_iff] at h; exact h
  unfold heavy at h
  split at h
  · split at h
    · obtain ⟨st2, h1, h2⟩ := adds' (st1 := st) h; cases h2; exact sameL_adds h1
    · cases h
  · split at h
    · obtain ⟨st2, h1, h2⟩ := adds' (st1 := st) h; cases h2; exact sameL_adds h1
    · cases h
  · split at h
    · split at h
      · split at h
        · rename_i hr
          split at h
          · obtain ⟨st2, h1, h2⟩ := adds' (st1 := st) h; cases h2; exact (sameL_rowsOf hr).trans (sameL_adds h1)
          · cases h
        · cases h
      · cases h
    · cases h
  · split at h
    · split at h
      · split at h
        · obtain ⟨st2, h1, h2⟩ := adds' (st1 := st) h; cases h2; exact sameL_adds h1
        · cases h
      · cases h
    · cases h
  · rw [Option.map_eq_some_iff] at h
    obtain ⟨⟨b2, st2⟩, h1, h2⟩ := h
    cases h2
    exact sameL_store h1
  · split at h
    · exact sameL_cut h
    · exact sameL_cut h
    · exact sameL_cut h
    · cases h
  · split at h
    · split at h
      · split at h
        · split at h
          · split at h
            · split at h
              · rename_i hs
                split at h
                · split at h
                  · split at h
                    · cases h; exact (sameL_source hs).trans (sameL_kill _ _ _)
                    · cases h
                  · cases h
                · obtain ⟨st2, h1, h2⟩ := adds' (st1 := st) h; cases h2; exact (sameL_source hs).trans (sameL_adds h1)
                · cases h
              · cases h
            · cases h
          · cases h
        · cases h
      · cases h
    · exact sameL_callFn h
    · cases h
  · cases h

theorem heavy_sound {s : Nat} (hC : CtxOk C) (H : Inv C R G st a w) (h : heavy C st s o.op = some (true, v, st1)) : Doing C R G st a w o v st1 := by
  generalize hop : o.op = op at h
  cases op
  case alloc t =>
    simp only [heavy] at h
    split at h
    · rename_i zs hz
      rw [Option.map_eq_some_iff] at h
      obtain ⟨st2, h1, h2⟩ := h
      cases h2
      exact doing_alloc H hop hz h1
    · cases h
  case box t x =>
    simp only [heavy] at h
    split at h
    · rename_i hf
      rw [Option.map_eq_some_iff] at h
      obtain ⟨st2, h1, h2⟩ := h
      cases h2
      exact doing_box H hop (fits_ok hf).1 h1
    · cases h
  case buildSlice t n parts =>
    simp only [heavy] at h
    split at h
    · rename_i el ht
      split at h
      · rename_i zs hz
        split at h
        · rename_i rows st2 hr
          split at h
          · rename_i hn
            rw [Option.map_eq_some_iff] at h
            obtain ⟨st3, h1, h2⟩ := h
            cases h2
            exact doing_buildSlice H hop ht hz hr hn.1 hn.2 h1
          · cases h
        · cases h
      · cases h
    · cases h
  case makeSlice t x y =>
    simp only [heavy] at h
    split at h
    · rename_i el kx k ky k' ht hx hy
      split at h
      · rename_i hsm
        split at h
        · rename_i zs hz
          rw [Option.map_eq_some_iff] at h
          obtain ⟨st2, h1, h2⟩ := h
          simp only [Prod.mk.injEq, decide_eq_true_eq] at h2
          obtain ⟨⟨h3, h4, rfl⟩, rfl, rfl⟩ := h2
          exact doing_make H hop ht hx hy hsm hz h3 h4 h1
        · cases h
      · cases h
    · cases h
  case store t p x =>
    simp only [heavy] at h
    rw [Option.map_eq_some_iff] at h
    obtain ⟨⟨b2, st2⟩, h1, h2⟩ := h
    cases h2
    exact doing_store H hop h1
  case slice t x lo hi mx => exact doing_slice (s := s) H hop (by rw [hop]; exact h)
  case call c =>
    obtain ⟨callee, args, ts⟩ := c
    cases callee with
    | builtin b =>
      by_cases hb : b = .append
      · subst hb
        exact doing_append (s := s) H hop (by rw [hop]; exact h)
      · cases b <;> first | exact absurd rfl hb | (simp [heavy] at h)
    | value f =>
      cases f with
      | func f =>
        simp only [heavy] at h
        exact doing_callFn hC H hop h
      | _ => simp [heavy] at h
    | invoke r m => simp [heavy] at h
  all_goals (simp [heavy] at h)
end Go.Den
